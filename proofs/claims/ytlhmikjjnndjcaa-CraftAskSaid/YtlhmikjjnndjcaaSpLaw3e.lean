/- CraftAsk. -/
import Derived.Test.YtlhmikjjnndjcaaSpLaw3d
set_option linter.all false
namespace Go.AI
variable {A : Type} {R : Adts A}
theorem strs_TR2 {P : Program} {n : Nat} {t e : TypeId} {us : List AVal} (hu : P.underlying t = some (.slice e)) (he : P.underlying e = some .string) (h : TR P (n + 2) t us) :
    ∃ a l, us = [a] ∧ IsStrs a l ∧ (∀ x ∈ l, x.length ≤ reachBytes) ∧ l.length ≤ 9223372036854775807 := by
  obtain ⟨a, l, h1, h2, h3⟩ := strs_TR hu he h
  refine ⟨a, l, h1, h2, h3, ?_⟩
  rcases h2 with ⟨_, rfl⟩ | ⟨b, o, cap, rfl⟩
  · simp
  · rcases TR_slice hu h with h4 | ⟨b2, o2, len, cap2, rows, h4, h5, h6, h7, h8⟩
    · rw [h1] at h4; simp at h4
    · rw [h1] at h4
      simp at h4
      have : maxLen = 9223372036854775807 := rfl
      omega
theorem has3_ok (hR : R.Ok) (a : AVal) (l : List Bs) (ha : IsStrs a l) (s : Bs) (hl : l.length ≤ 9223372036854775807) {h : AHeap A} {K : AVal → AHeap A → Prop} (hk : K (.bool (decide (s ∈ l))) h) : Tri Pr R n_law3_has [a, .str s] h K := by
  refine Tri.fn1 hR (.bool (decide (s ∈ l))) rfl (by simp [ixs, AVal.ix, ha.ix]) ?_ hk
  apply c_law3_has
  unfold p_law3_has
  refine loopP_go (fun m y g => ∃ i : Nat, y = [.int .i64 i] ∧ g = [] ∧ i ≤ l.length ∧ m = l.length - i ∧ s ∉ l.take i) l.length (Gives.done (by simp) ⟨0, rfl, rfl, by omega, rfl, by simp⟩) ?_
  rintro m y g ⟨i, rfl, rfl, hi, rfl, hn⟩
  by_cases h1 : i < l.length
  · have e1 := w64 (n := (i : Int) + 1) (by omega)
    obtain ⟨bb, oo, cs, hg⟩ := ha.get h1
    by_cases h2 : l[i] = s
    · simp -implicitDefEqProofs [ha.len, h1, hg, h2]
      exact Ans.of (by simp; rw [← h2]; exact List.getElem_mem h1)
    · have h2' : (l[i] == s) = false := by simpa using h2
      simp -implicitDefEqProofs [ha.len, h1, hg, h2', e1]
      refine Gives.done (by simp) ⟨l.length - (i + 1), by omega, i + 1, rfl, rfl, by omega, rfl, ?_⟩
      intro h
      rw [← List.take_append_getElem h1] at h
      rcases List.mem_append.1 h with h | h
      · exact hn h
      · simp at h; exact h2 h.symm
  · obtain rfl : i = l.length := by omega
    rw [List.take_length] at hn
    simp -implicitDefEqProofs [ha.len]
    exact Ans.of (by simp [hn])
section
variable {bk rbk : Int → List Bs → A}
def AskI (bk : Int → List Bs → A) (made : List Bs) (asked : Bs) (k : Int) (m : Nat) (y : List AVal) (g : AHeap A) : Prop :=
  ∃ (j : Nat) (ts : List Bs) (c : Bool), y = [.bool c, .int .i64 j] ∧ g = [.adt (bk 99 ts)] ∧ bOk 99 ts ∧ ts.length ≤ j ∧ (∀ r ∈ ts, ∃ t ∈ made, r = 77 :: (nS k ++ t) ∧ (t = asked → c = true)) ∧ j ≤ 20 ∧ m = 20 - j
def AskR (bk : Int → List Bs → A) (ts : List Bs) (m : Nat) (y : List AVal) (g : AHeap A) : Prop :=
  ∃ t : Nat, y = [.int .i64 t] ∧ g = [.adt (bk 99 ts)] ∧ t ≤ ts.length ∧ m = ts.length - t
theorem key_step2 {m : Int} {ts : List Bs} {x : Int} {s : Bs} (hx : nMay x = true) (hm : (ts.length : Int) < m) :
    ∃ (ts' : List Bs) (n e : Int), cKey m ts 77 x s = (ts', n, e) ∧ (s.length < 100 → e = 0) ∧ ts'.length ≤ ts.length + 1 ∧ (∀ r ∈ ts', r ∈ ts ∨ r = 77 :: (nS x ++ s)) := by
  by_cases hs : s.length ≤ 100
  · obtain ⟨ts', n, h1, h2, h3, h4, h5⟩ := key_step (m := m) (ts := ts) (k := 77) (s := s) hx hs hm
    exact ⟨ts', n, 0, h1, fun _ => rfl, h3, h5⟩
  · have key : ∀ u : Bs, (cMade m ts u).1.length ≤ ts.length + 1 ∧ ∀ r ∈ (cMade m ts u).1, r ∈ ts ∨ r = u := by
      intro u
      have hb : (bName m ts u).1.length ≤ ts.length + 1 ∧ ∀ r ∈ (bName m ts u).1, r ∈ ts ∨ r = u := by
        unfold bName
        split
        · exact ⟨by simp, fun r hr => .inl hr⟩
        · split
          · exact ⟨by simp, fun r hr => .inl hr⟩
          · split
            · exact ⟨by simp, fun r hr => .inl hr⟩
            · exact ⟨by simp, fun r hr => by simpa using hr⟩
      unfold cMade; split <;> exact hb
    have hck : cKey m ts 77 x s = cMade m ts (77 :: (nS x ++ s)) := by unfold cKey; rw [if_pos hx]
    exact ⟨(cMade m ts (77 :: (nS x ++ s))).1, (cMade m ts (77 :: (nS x ++ s))).2.1, (cMade m ts (77 :: (nS x ++ s))).2.2, hck, fun h => absurd h (by omega), (key _).1, (key _).2⟩
theorem Mac_big (hR : R.Ok) {mk : Int → List Bs → A} (hB : HasBook R mk) {m : Int} {ts r : List Bs} {key : Int} {s : Bs} {n e : Int} (hok : bOk m ts) (hs : s.length < 9000000000000000000) (he : cKey m ts 77 key s = (r, n, e)) {h : AHeap A} {b : Nat} (hb : h[b]? = some (.adt (mk m ts))) {K : AVal → AHeap A → Prop}
    (hk : K (.tup [.int .i64 n, .int .i64 e]) (h.set b (.adt (mk m r)))) : Tri Pr R n_craft_Mac [.ptr b 0, .int .i64 key, .str s] h K := by
  refine craft_Mac_ok hR hB hok key s hs hb ?_
  rw [he]; exact hk
theorem IsMac_big (hR : R.Ok) {mk : Int → List Bs → A} (hB : HasBook R mk) {m : Int} {ts : List Bs} {key : Int} {s : Bs} {tag : Int} {c : Bool} (hs : s.length < 9000000000000000000) (he : cIsMac ts key s tag = c) {h : AHeap A} {b : Nat} (hb : h[b]? = some (.adt (mk m ts))) {K : AVal → AHeap A → Prop}
    (hk : K (.bool c) h) : Tri Pr R n_craft_IsMac [.ptr b 0, .int .i64 key, .str s, .int .i64 tag] h K := by
  refine craft_IsMac_ok hR hB key s hs tag hb ?_
  rw [he]; exact hk
theorem CraftAsk_ok (hR : R.Ok) (hB : HasBook R bk) (hB' : HasRBook R rbk) (a : AVal) (made : List Bs) (ha : IsStrs a made) (hl : made.length ≤ 9223372036854775807) (hms : ∀ s ∈ made, s.length < 9000000000000000000) (asked : Bs) (has : asked.length < 8000000000000000000) (key tag : Int) :
    Tri Pr R n_law3_CraftAsk [a, .str asked, .int .i64 key, .int .i64 tag] [] fun u _ => u = .bool true := by
  apply c_law3_CraftAsk
  unfold p_law3_CraftAsk
  refine awake3_ok hR hB hB' ?_
  simp -implicitDefEqProofs
  refine book_New_ok hR hB 99 ?_
  rw [if_pos (by omega)]
  simp -implicitDefEqProofs
  refine num14_ok ?_
  simp -implicitDefEqProofs
  rw [bits_mask key 30 (by omega) 1073741823 (by decide)]
  obtain ⟨k, hk, k0⟩ : ∃ q, key % 2 ^ 30 = q ∧ nMay q = true := ⟨_, rfl, by simp [nMay]; omega⟩
  rw [hk]
  have b0 : bOk 99 [] := bOk_nil (by omega)
  refine loopP_go (AskI bk made asked k) 20 (Gives.done (by simp) ⟨0, [], false, rfl, rfl, b0, by simp, by simp, by omega, rfl⟩) ?_
  rintro m y g ⟨j, ts, c, rfl, rfl, ok, tl, hall, hj, rfl⟩
  have e1 := w64 (n := (j : Int) + 1) (by omega)
  by_cases h1 : j < made.length ∧ j < 20
  · obtain ⟨h1, h2⟩ := h1
    have h2' : (j : Int) < 20 := by omega
    obtain ⟨bb, oo, cs, hg⟩ := ha.get h1
    obtain ⟨ts', n, e, s1, s2, s3, s4⟩ := key_step2 (m := 99) (ts := ts) (s := made[j]) k0 (by omega)
    have ok' := bOk_key ok s1
    have hmem := List.getElem_mem h1
    simp -implicitDefEqProofs [ha.len, h1, h2', hg]
    refine Mac_big hR hB ok (hms _ hmem) s1 rfl ?_
    have fin : ∀ c', (c = true → c' = true) → (made[j] = asked → c' = true) → ∃ m', m' < 20 - j ∧ AskI bk made asked k m' [.bool c', .int .i64 ((j : Int) + 1)] [.adt (bk 99 ts')] := by
      intro c' h3 h4
      refine ⟨20 - (j + 1), by omega, j + 1, ts', c', rfl, rfl, ok', by omega, fun r hr => ?_, by omega, rfl⟩
      rcases s4 r hr with h | h
      · obtain ⟨t, t1, t2, t3⟩ := hall r h
        exact ⟨t, t1, t2, fun h => h3 (t3 h)⟩
      · exact ⟨_, hmem, h, h4⟩
    have rest : ∀ (cc : Bool), Gives Pr R 1 [.adt (bk 99 ts')] [.bool (c || made[j] == asked), .int .i64 ((j : Int) + 1)] fun z k_1 => ∃ m', m' < 20 - j ∧ AskI bk made asked k m' z k_1 := fun _ =>
      Gives.done (by simp) (fin _ (fun h => by simp [h]) (fun h => by simp [h]))
    by_cases h3 : made[j].length < 100
    · have h3' : (made[j].length : Int) < 100 := by omega
      obtain rfl := s2 h3
      simp -implicitDefEqProofs [hg, h3']
      refine num14_ok ?_
      cases c with
      | true => simp -implicitDefEqProofs [hg, e1]; simpa using rest true
      | false => simp -implicitDefEqProofs [hg, e1]; simpa using rest true
    · have h3' : ¬ (made[j].length : Int) < 100 := by omega
      cases c with
      | true => simp -implicitDefEqProofs [hg, h3', e1]; simpa using rest true
      | false => simp -implicitDefEqProofs [hg, h3', e1]; simpa using rest true
  · have hmm := ok.len
    have hfind : ∀ (u : Bs) (i : Nat), bFind ts u = some i → ts[i]? = some u := by
      intro u i h
      obtain ⟨h1, h2, _⟩ := List.idxOf?_eq_some_iff.1 h
      rw [List.getElem?_eq_getElem h1]; simpa using h2
    have hhash : ∀ t : Int, cIs ts (72 :: asked) t = false := by
      intro t
      cases hf : bFind ts (72 :: asked) with
      | none => simp [cIs, hf]
      | some i =>
        obtain ⟨_, _, h3, _⟩ := hall _ (List.mem_of_getElem? (hfind _ _ hf))
        simp at h3
    have hmac : ∀ (u : Bs) (i : Nat), bFind ts (77 :: (nS k ++ u)) = some i → u ∈ made ∧ (u = asked → c = true) := by
      intro u i hf
      obtain ⟨t, t1, t2, t3⟩ := hall _ (List.mem_of_getElem? (hfind _ _ hf))
      simp at t2; subst t2
      exact ⟨t1, t3⟩
    have hkl := nS_len k
    have e3 := w64 (n := ((nS k).length : Int) + 1) (by omega)
    have h9 : asked.length + 1 < 9223372036854775808 := by omega
    rcases (by omega : ¬ j < made.length ∨ (j < made.length ∧ ¬ (j : Int) < 20)) with h1 | ⟨h1, h2⟩
    · simp -implicitDefEqProofs [ha.len, h1]
      refine book_Len_ok hR hB rfl ?_
      refine loopP_go (AskR bk ts) ts.length (Gives.done (by simp) ⟨0, rfl, rfl, by omega, rfl⟩) ?_
      rintro m y g ⟨t, rfl, rfl, ht, rfl⟩
      have e4 := w64 (n := (t : Int) + 1) (by omega)
      by_cases h5 : t < ts.length
      · have hbt : bTerm ts (t : Int) = (ts[t], 0) := bTerm_get (by simp [h5])
        simp -implicitDefEqProofs [h5]
        refine book_Term_ok hR hB (t : Int) rfl ?_
        rw [hbt]
        simp -implicitDefEqProofs
        have fin : Gives Pr R 1 [.adt (bk 99 ts)] [.int .i64 ((t : Int) + 1)] fun z k_1 => ∃ m', m' < ts.length - t ∧ AskR bk ts m' z k_1 :=
          Gives.done (by simp) ⟨ts.length - (t + 1), by omega, t + 1, rfl, rfl, by omega, rfl⟩
        cases hc : cIsMac ts k asked t with
        | false =>
          refine IsMac_big hR hB (by omega) hc rfl ?_
          simp -implicitDefEqProofs
          refine craft_IsHash_ok hR hB asked (by omega) _ rfl ?_
          rw [hhash]
          simp -implicitDefEqProofs [e4]
          exact fin
        | true =>
          refine IsMac_big hR hB (by omega) hc rfl ?_
          have hts : ts[t] = 77 :: (nS k ++ asked) ∧ c = true := by
            unfold cIsMac cIs at hc
            cases hf : bFind ts (77 :: (nS k ++ asked)) with
            | none => simp [hf] at hc
            | some i =>
              simp [hf] at hc
              obtain ⟨_, hit⟩ := hc
              obtain rfl : i = t := by omega
              exact ⟨by have := hfind _ _ hf; rw [List.getElem?_eq_getElem h5] at this; simpa using this, (hmac _ _ hf).2 rfl⟩
          obtain ⟨h6, rfl⟩ := hts
          have e5 : ((nS k).length : Int) + asked.length + 1 - asked.length = (nS k).length + 1 := by omega
          have e6 : (((nS k).length : Int) + 1).toNat = (nS k).length + 1 := by omega
          have e7 : ¬ ((nS k).length : Int) + asked.length + 1 < asked.length := by omega
          have e10 : ¬ (nS k).length + asked.length + 1 < asked.length := by omega
          have e8 : (0 : Int) ≤ ((nS k).length : Int) + 1 := by omega
          have e9 : ((nS k).length : Int) + 1 ≤ ((nS k).length : Int) + asked.length + 1 := by omega
          rw [h6]
          simp -implicitDefEqProofs [e3, e5, e6, e7, e8, e9, e10]
          refine craft_IsHash_ok hR hB asked (by omega) _ rfl ?_
          rw [hhash]
          simp -implicitDefEqProofs [e4]
          exact fin
      · simp -implicitDefEqProofs [h5]
        refine book_Len_ok hR hB rfl ?_
        simp -implicitDefEqProofs [h9]
        refine has3_ok hR a made ha _ hl ?_
        by_cases hm : asked ++ [63] ∈ made
        · simp -implicitDefEqProofs [hm]
        · have hc : cIsMac ts k (asked ++ [63]) tag = false := by
            unfold cIsMac cIs
            cases hf : bFind ts (77 :: (nS k ++ (asked ++ [63]))) with
            | none => simp
            | some i => exact absurd (hmac _ _ hf).1 hm
          simp -implicitDefEqProofs [hm, h9]
          refine IsMac_big hR hB (by simp; omega) hc rfl ?_
          simp -implicitDefEqProofs
    · simp -implicitDefEqProofs [ha.len, h1, h2]
      refine book_Len_ok hR hB rfl ?_
      refine loopP_go (AskR bk ts) ts.length (Gives.done (by simp) ⟨0, rfl, rfl, by omega, rfl⟩) ?_
      rintro m y g ⟨t, rfl, rfl, ht, rfl⟩
      have e4 := w64 (n := (t : Int) + 1) (by omega)
      by_cases h5 : t < ts.length
      · have hbt : bTerm ts (t : Int) = (ts[t], 0) := bTerm_get (by simp [h5])
        simp -implicitDefEqProofs [h5]
        refine book_Term_ok hR hB (t : Int) rfl ?_
        rw [hbt]
        simp -implicitDefEqProofs
        have fin : Gives Pr R 1 [.adt (bk 99 ts)] [.int .i64 ((t : Int) + 1)] fun z k_1 => ∃ m', m' < ts.length - t ∧ AskR bk ts m' z k_1 :=
          Gives.done (by simp) ⟨ts.length - (t + 1), by omega, t + 1, rfl, rfl, by omega, rfl⟩
        cases hc : cIsMac ts k asked t with
        | false =>
          refine IsMac_big hR hB (by omega) hc rfl ?_
          simp -implicitDefEqProofs
          refine craft_IsHash_ok hR hB asked (by omega) _ rfl ?_
          rw [hhash]
          simp -implicitDefEqProofs [e4]
          exact fin
        | true =>
          refine IsMac_big hR hB (by omega) hc rfl ?_
          have hts : ts[t] = 77 :: (nS k ++ asked) ∧ c = true := by
            unfold cIsMac cIs at hc
            cases hf : bFind ts (77 :: (nS k ++ asked)) with
            | none => simp [hf] at hc
            | some i =>
              simp [hf] at hc
              obtain ⟨_, hit⟩ := hc
              obtain rfl : i = t := by omega
              exact ⟨by have := hfind _ _ hf; rw [List.getElem?_eq_getElem h5] at this; simpa using this, (hmac _ _ hf).2 rfl⟩
          obtain ⟨h6, rfl⟩ := hts
          have e5 : ((nS k).length : Int) + asked.length + 1 - asked.length = (nS k).length + 1 := by omega
          have e6 : (((nS k).length : Int) + 1).toNat = (nS k).length + 1 := by omega
          have e7 : ¬ ((nS k).length : Int) + asked.length + 1 < asked.length := by omega
          have e10 : ¬ (nS k).length + asked.length + 1 < asked.length := by omega
          have e8 : (0 : Int) ≤ ((nS k).length : Int) + 1 := by omega
          have e9 : ((nS k).length : Int) + 1 ≤ ((nS k).length : Int) + asked.length + 1 := by omega
          rw [h6]
          simp -implicitDefEqProofs [e3, e5, e6, e7, e8, e9, e10]
          refine craft_IsHash_ok hR hB asked (by omega) _ rfl ?_
          rw [hhash]
          simp -implicitDefEqProofs [e4]
          exact fin
      · simp -implicitDefEqProofs [h5]
        refine book_Len_ok hR hB rfl ?_
        simp -implicitDefEqProofs [h9]
        refine has3_ok hR a made ha _ hl ?_
        by_cases hm : asked ++ [63] ∈ made
        · simp -implicitDefEqProofs [hm]
        · have hc : cIsMac ts k (asked ++ [63]) tag = false := by
            unfold cIsMac cIs
            cases hf : bFind ts (77 :: (nS k ++ (asked ++ [63]))) with
            | none => simp
            | some i => exact absurd (hmac _ _ hf).1 hm
          simp -implicitDefEqProofs [hm, h9]
          refine IsMac_big hR hB (by simp; omega) hc rfl ?_
          simp -implicitDefEqProofs
end
end Go.AI
