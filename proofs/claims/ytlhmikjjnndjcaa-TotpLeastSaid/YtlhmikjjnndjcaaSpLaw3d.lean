/- CraftSeals. -/
import Derived.Test.YtlhmikjjnndjcaaSpLaw3c
set_option linter.all false
namespace Go.AI
variable {A : Type} {R : Adts A}
theorem bTerm_get {ts : List Bs} {i : Nat} {s : Bs} (h : ts[i]? = some s) : bTerm ts (i : Int) = (s, 0) := by
  have := (List.getElem?_eq_some_iff.1 h).1
  unfold bTerm
  rw [if_pos (by omega)]
  simp [h]
theorem bTerm_app {ts : List Bs} {x : Int} {s : Bs} (r : List Bs) (h : bTerm ts x = (s, 0)) : bTerm (ts ++ r) x = (s, 0) := by
  unfold bTerm at h ⊢
  split at h
  · rename_i h1
    rw [if_pos (by simp; omega)]
    rw [← h]
    simp [List.getElem?_append_left (show x.toNat < ts.length by omega)]
  · simp at h
/-- A term with a key is made: its name stands for it; the others stay. -/
theorem key_step {m : Int} {ts : List Bs} {k : UInt8} {x : Int} {s : Bs} (hx : nMay x = true) (hs : s.length ≤ 100) (hm : (ts.length : Int) < m) :
    ∃ (ts' : List Bs) (n : Int), cKey m ts k x s = (ts', n, 0) ∧ bTerm ts' n = (k :: (nS x ++ s), 0) ∧ ts'.length ≤ ts.length + 1 ∧ (∀ t r, bTerm ts t = (r, 0) → bTerm ts' t = (r, 0)) ∧ (∀ r ∈ ts', r ∈ ts ∨ r = k :: (nS x ++ s)) := by
  by_cases h : (k :: (nS x ++ s)) ∈ ts
  · obtain ⟨i, h1, _, h2⟩ := bFind_mem h
    exact ⟨ts, i, cKey_old hx hs h1, bTerm_get h2, by omega, fun _ _ h => h, fun r hr => .inl hr⟩
  · exact ⟨_, _, cKey_new hx hs h hm, bTerm_get (by simp), by simp, fun _ _ h => bTerm_app _ h, fun r hr => by simpa using hr⟩
theorem ints_fix {t : TypeId} {m : Nat} (l : List Int) : (AObj.cells t (l.map (.int .i64)) : AObj A).ix R m ∧ ∀ τ, (AObj.cells t (l.map (.int .i64)) : AObj A).ren R τ = .cells t (l.map (.int .i64)) := by
  have h1 : ∀ m, ixs m (l.map (.int .i64)) = true := fun m => by simp [ixs_all, AVal.ix]
  exact ⟨h1 m, fun τ => by simp only [AObj.ren]; rw [rens_ix0 τ _ (h1 0)]⟩
/-- Names that were told, behind one object. -/
def TRow (o : AObj A) (tags : List Int) (x : AVal) (g : AHeap A) : Prop :=
  (tags = [] ∧ x = .nils ∧ g = [o]) ∨ (tags ≠ [] ∧ x = .sl 1 0 tags.length tags.length false ∧ g = [o, .cells t_int (tags.map (.int .i64))])
section
variable {bk rbk : Int → List Bs → A}
def SealsI (bk : Int → List Bs → A) (keys : List Int) (texts : List Bs) (n : Nat) (m : Nat) (y : List AVal) (g : AHeap A) : Prop :=
  ∃ (j : Nat) (ts : List Bs) (tags : List Int) (x : AVal), y = [x, .int .i64 j] ∧ TRow (.adt (bk 999 ts)) tags x g ∧ bOk 999 ts ∧ ts.length ≤ j ∧ tags.length = j ∧
    (∀ i, i < j → bTerm ts (tags.getD i 0) = (83 :: (nS (keys.getD i 0 % 16) ++ texts.getD i []), 0)) ∧ j ≤ n ∧ m = n - j
def SealsO (h : AHeap A) (n : Nat) (m : Nat) (y : List AVal) (g : AHeap A) : Prop := ∃ j : Nat, y = [.int .i64 j] ∧ g = h ∧ j ≤ n ∧ m = n - j
theorem CraftSeals_ok (hR : R.Ok) (hB : HasBook R bk) (hB' : HasRBook R rbk) (a : AVal) (keys : List Int) (ha : IsInts a keys) (b : AVal) (texts : List Bs) (hb : IsStrs b texts) : Tri Pr R n_law3_CraftSeals [a, b] [] fun u _ => u = .bool true := by
  apply c_law3_CraftSeals
  unfold p_law3_CraftSeals
  refine awake3_ok hR hB hB' ?_
  simp -implicitDefEqProofs
  refine book_New_ok hR hB 999 ?_
  rw [if_pos (by omega)]
  simp -implicitDefEqProofs
  refine num14_ok ?_
  simp -implicitDefEqProofs [ha.len, hb.len]
  have b0 : bOk 999 [] := bOk_nil (by omega)
  obtain ⟨n, hn, n1, n2, n3⟩ : ∃ n : Nat, (if (12 : Int) < (if texts.length < keys.length then (texts.length : Int) else (keys.length : Int)) then (12 : Int) else if texts.length < keys.length then (texts.length : Int) else (keys.length : Int)) = (n : Int) ∧ n ≤ 12 ∧ n ≤ keys.length ∧ n ≤ texts.length :=
    ⟨min (min keys.length texts.length) 12, by repeat' split
                                               all_goals omega, by omega, by omega, by omega⟩
  rw [hn]
  refine loopP_go (SealsI bk keys texts n) n (Gives.done (by simp) ⟨0, [], [], _, rfl, .inl ⟨rfl, rfl, rfl⟩, b0, by simp, rfl, by simp, by omega, rfl⟩) ?_
  rintro m y g ⟨j, ts, tags, x, rfl, hrow, ok, tl, gl, hall, hj, rfl⟩
  have e1 := w64 (n := (j : Int) + 1) (by omega)
  by_cases h1 : j < n
  · obtain ⟨bb, oo, cs, hg⟩ := ha.get (n := (j : Int)) (by omega) (by omega)
    obtain ⟨bb2, oo2, cs2, hg2⟩ := hb.get (n := j) (by omega)
    have hg3 : texts.getD j [] = texts[j] := by simp [List.getD_eq_getElem?_getD, show j < texts.length by omega]
    simp only [Int.toNat_natCast] at hg
    by_cases hl : (100 : Int) < texts[j].length
    · simp -implicitDefEqProofs [h1, hg2, hl]
    · obtain ⟨key, hk⟩ : ∃ key, keys.getD j 0 = key := ⟨_, rfl⟩
      obtain ⟨q, hq, q0⟩ : ∃ q, key % 2 ^ 4 = q ∧ nMay q = true := ⟨_, rfl, by simp [nMay]; omega⟩
      rw [hk] at hg
      simp -implicitDefEqProofs [h1, hg2, hl, hg]
      rw [bits_mask key 4 (by omega) 15 (by decide), hq]
      obtain ⟨ts', tag, s1, s2, s3, s4, _⟩ := key_step (m := 999) (ts := ts) (k := 83) (s := texts[j]) q0 (by omega) (by omega)
      have ok' := bOk_key ok s1
      have hlow : ∀ m, AObj.low R m (.adt (bk 999 ts')) := fun m => book_low hB _ _
      have fin : ∀ z k, z = [AVal.sl 1 0 (j + 1) (j + 1) false, .int .i64 ((j : Int) + 1)] → k = [.adt (bk 999 ts'), .cells t_int ((tags ++ [tag]).map (.int .i64))] → ∃ m', m' < n - j ∧ SealsI bk keys texts n m' z k := by
        rintro _ _ rfl rfl
        refine ⟨n - (j + 1), by omega, j + 1, ts', tags ++ [tag], _, rfl, .inr ⟨by simp, by simp [gl], rfl⟩, ok', by omega, by simp [gl], fun i hi => ?_, by omega, rfl⟩
        by_cases hij : i < j
        · rw [show (tags ++ [tag]).getD i 0 = tags.getD i 0 by simp [List.getD_eq_getElem?_getD, List.getElem?_append_left (show i < tags.length by omega)]]
          exact s4 _ _ (hall i hij)
        · obtain rfl : i = j := by omega
          rw [show (tags ++ [tag]).getD i 0 = tag by simp [List.getD_eq_getElem?_getD, List.getElem?_append_right (show tags.length ≤ i by omega), gl], hk, hg3]
          have : key % 16 = q := by rw [← hq]; rfl
          rw [this]; exact s2
      rcases hrow with ⟨rfl, rfl, rfl⟩ | ⟨hne, rfl, rfl⟩
      · simp at gl; subst gl
        refine Seal_at hR hB ok (by omega) s1 rfl ?_
        simp -implicitDefEqProofs
        refine num14_ok ?_
        simp -implicitDefEqProofs [appP, appV, srcOf, cellsAt]
        refine Gives.pick hR [.adt (bk 999 ts')] [.cells t_int [.int .i64 tag]] (.cells t_int (([] ++ [tag]).map (.int .i64))) _ [.sl 1 0 1 1 false, .int .i64 1] rfl (by simp) (by simp; exact hlow _) (ints_fix _) (by simp [rens, AVal.ren]) rfl ?_
        simpa using fin _ _ rfl rfl
      · refine Seal_at hR hB ok (by omega) s1 rfl ?_
        simp -implicitDefEqProofs
        refine num14_ok ?_
        have h6 : ¬ tags.length + 1 ≤ tags.length := by omega
        have h7 : (2 * (tags.length + 1) + 1000) * 8 ≤ 140737488355328 := by omega
        have t1 : List.take tags.length (tags.map (AVal.int IntKind.i64)) = tags.map (AVal.int IntKind.i64) := List.take_of_length_le (by simp)
        simp -implicitDefEqProofs [appP, appV, srcOf, cellsAt, h6, h7, e1, t1]
        refine Gives.pick hR [.adt (bk 999 ts')] [.dead, .cells t_int [.int .i64 tag]] (.cells t_int ((tags ++ [tag]).map (.int .i64))) _ [.sl 1 0 (j + 1) (j + 1) false, .int .i64 ((j : Int) + 1)] (by simp) (by simp) (by simp; exact hlow _) (ints_fix _) (by simp [rens, AVal.ren, gl]) rfl ?_
        simpa using fin _ _ rfl rfl
  · obtain rfl : j = n := by omega
    have hgl : 1 ≤ g.length := by rcases hrow with ⟨_, _, rfl⟩ | ⟨_, _, rfl⟩ <;> simp
    simp -implicitDefEqProofs
    refine loopP_go (SealsO g j) j (Gives.done (by simp) ⟨0, rfl, rfl, by omega, rfl⟩) ?_
    rintro m y g ⟨i, rfl, rfl, hi, rfl⟩
    have e2 := w64 (n := (i : Int) + 1) (by omega)
    by_cases h2 : i < j
    · rcases hrow with ⟨rfl, rfl, rfl⟩ | ⟨hne, rfl, rfl⟩
      · simp at gl; omega
      · simp -implicitDefEqProofs [h2]
        refine loopP_go (SealsO [.adt (bk 999 ts), .cells t_int (tags.map (.int .i64))] 16) 16 (Gives.done (by simp) ⟨0, rfl, rfl, by omega, rfl⟩) ?_
        rintro m y g ⟨q, rfl, rfl, hq, rfl⟩
        have e3 := w64 (n := (q : Int) + 1) (by omega)
        by_cases h3 : q < 16
        · have h3' : (q : Int) < 16 := by omega
          have hti : i < tags.length := by omega
          have htg : tags.getD i 0 = tags[i] := by simp [List.getD_eq_getElem?_getD, hti]
          obtain ⟨bb, oo, cs, hg⟩ := ha.get (n := (i : Int)) (by omega) (by omega)
          obtain ⟨bb2, oo2, cs2, hg2⟩ := hb.get (n := i) (by omega)
          have hg3 : texts.getD i [] = texts[i] := by simp [List.getD_eq_getElem?_getD, show i < texts.length by omega]
          simp only [Int.toNat_natCast] at hg
          obtain ⟨key, hk⟩ : ∃ key, keys.getD i 0 = key := ⟨_, rfl⟩
          obtain ⟨p, hp, p0⟩ : ∃ q, key % 2 ^ 4 = q ∧ nMay q = true := ⟨_, rfl, by simp [nMay]; omega⟩
          have hbt := hall i h2
          rw [hk, hg3, htg, show key % 16 = p by rw [← hp]; rfl] at hbt
          rw [hk] at hg
          have ho := cOpen_seal (q := (q : Int)) p0 (by simp [nMay]; omega) hbt
          simp -implicitDefEqProofs [h3', h2, hti]
          by_cases h4 : (q : Int) = p
          · rw [if_pos h4] at ho
            refine Open_at hR hB ho rfl ?_
            simp -implicitDefEqProofs
            refine joinP_go ?_
            simp -implicitDefEqProofs [hg]
            rw [bits_mask key 4 (by omega) 15 (by decide), hp]
            have h5 : ((q : Int) == p) = true := by simpa using h4
            refine num14_ok ?_
            simp -implicitDefEqProofs [h5]
            refine num14_ok ?_
            simp -implicitDefEqProofs [hg2, e3]
            exact Gives.done (by simp) ⟨16 - (q + 1), by omega, q + 1, rfl, rfl, by omega, rfl⟩
          · rw [if_neg h4] at ho
            refine Open_at hR hB ho rfl ?_
            simp -implicitDefEqProofs
            refine joinP_go ?_
            simp -implicitDefEqProofs [hg]
            rw [bits_mask key 4 (by omega) 15 (by decide), hp]
            have h5 : ((q : Int) == p) = false := by simpa using h4
            refine num14_ok ?_
            simp -implicitDefEqProofs [h5]
            refine num14_ok ?_
            simp -implicitDefEqProofs [hg2, e3]
            exact Gives.done (by simp) ⟨16 - (q + 1), by omega, q + 1, rfl, rfl, by omega, rfl⟩
        · have h3' : ¬ (q : Int) < 16 := by omega
          simp -implicitDefEqProofs [h3', e2]
          exact Gives.done (by simp) ⟨j - (i + 1), by omega, i + 1, rfl, rfl, by omega, rfl⟩
    · simp -implicitDefEqProofs [h2]
end
end Go.AI
