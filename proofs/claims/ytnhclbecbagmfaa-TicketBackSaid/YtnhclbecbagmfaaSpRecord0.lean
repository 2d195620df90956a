/- Records, plainly. -/
import Derived.Test.YtnhclbecbagmfaaSpEvent0
import Derived.Test.YtnhclbecbagmfaaSpSuper0
set_option linter.all false
namespace Go.AI
theorem evOf_kind (k : Int) (l : List Int) : (evOf k l).kind = k := by
  unfold evOf
  dsimp only
  split <;> (try rfl)
  split <;> (try rfl)
  split <;> (try rfl)
  split <;> (try rfl)
  split <;> (try rfl)
  split <;> (try rfl)
  split <;> (try rfl)
  split <;> (try rfl)
  split <;> rfl
theorem evMay_kind {e : Ev} (h : evMay e = true) : 0 ≤ e.kind ∧ e.kind ≤ 9 := by
  unfold evMay at h
  simp only [Bool.and_eq_true] at h
  simpa using h.1.1.1.1.1.1.1
theorem evMay_parts {e : Ev} (h : evMay e = true) : ∀ x ∈ evParts e, nMay x = true := by
  unfold evMay at h
  simp only [Bool.and_eq_true] at h
  simpa using h.1.1.1.1.1.2
theorem evMay_plain {e : Ev} (h : evMay e = true) : e = evPlain e := by
  unfold evMay at h
  simp only [Bool.and_eq_true] at h
  simpa using h.2
theorem evCount_le (k : Int) : evCount k ≤ 4 := by unfold evCount; split <;> (try split) <;> (try split) <;> omega
theorem evPut_len {e : Ev} (h : evMay e = true) : (evPut e).length ≤ 25 := by
  have h1 := nAll_len (e.kind :: evParts e)
  have h2 := evParts_count (evMay_kind h)
  have h3 := evCount_le e.kind
  unfold evPut
  simp only [List.length_cons] at h1
  omega
/-- An event that is read is what is written. -/
theorem evGet_enc {s : Bs0} {e : Ev} (h : evGet s = some e) : s = evPut e ∧ evMay e = true := by
  unfold evGet at h
  split at h
  · rename_i k t hk
    split at h
    · rename_i l u hl
      split at h
      · rename_i hu
        obtain ⟨hu1, hu2⟩ := hu
        simp at h; subst h
        obtain ⟨a1, a2, a3, a4, a5⟩ := rNums_enc hk (by omega)
        have a5' := a5 (by omega)
        obtain ⟨b1, b2, b3, b4, b5⟩ := rNums_enc hl (by omega)
        refine ⟨?_, hu2⟩
        unfold evPut
        rw [evOf_kind, evParts_of b1]
        have e0 : nAll (k :: l) = nAll [k] ++ nAll l := by simp [nAll]
        rw [e0, ← a4, ← b4]
        simp only [Int.toNat_zero, List.drop_zero, Int.sub_zero]
        have e1 : (u - t).toNat = (s.drop t.toNat).length := by rw [List.length_drop]; omega
        rw [e1, List.take_length, List.take_append_drop]
      · simp at h
    · simp at h
  · simp at h
theorem evGet_dec {e : Ev} (h : evMay e = true) : evGet (evPut e) = some e := by
  have hk := evMay_kind h
  have hp := evMay_parts h
  have hpl := evMay_plain h
  have hc := evParts_count hk
  have hkm : nMay e.kind = true := by simp [nMay]; omega
  have e0 : evPut e = nAll [e.kind] ++ nAll (evParts e) := by simp [evPut, nAll]
  have r1 := rNums_dec [e.kind] [] (nAll (evParts e)) (by simpa using hkm)
  have r2 := rNums_dec (evParts e) (nAll [e.kind]) [] hp
  simp only [List.nil_append, List.length_nil, List.append_nil, List.length_cons, Nat.zero_add] at r1 r2
  unfold evGet
  rw [e0]
  have z : ((0 : Nat) : Int) = 0 := rfl
  rw [z] at r1
  rw [r1]
  simp only [Int.zero_add]
  rw [← hc, r2]
  simp only
  rw [if_pos]
  · show some (evOf e.kind (evParts e)) = some e
    exact congrArg some hpl.symm
  · refine ⟨by simp, ?_⟩
    have : evOf e.kind (evParts e) = e := hpl.symm
    rw [this]; exact h
/-- A text that stands at a place. -/
def gText (s : Bs0) (t : Int) : Bs0 × Int × Int :=
  if (gNum s t).2.2 ≠ 0 then ([], 0, (gNum s t).2.2)
  else if 65536 < (gNum s t).1 then ([], 0, 100)
  else if (s.length : Int) - (gNum s t).2.1 < (gNum s t).1 then ([], 0, 101)
  else ((s.drop (gNum s t).2.1.toNat).take (gNum s t).1.toNat, (gNum s t).2.1 + (gNum s t).1, 0)
theorem gText_enc {s x : Bs0} {t u : Int} (h : gText s t = (x, u, 0)) : nMay (x.length : Int) = true ∧ 0 ≤ t ∧ t < u ∧ u ≤ s.length ∧ (s.drop t.toNat).take (u - t).toNat = nS x.length ++ x := by
  unfold gText at h
  obtain ⟨n, t1, e, hg⟩ : ∃ x t1 e, gNum s t = (x, t1, e) := ⟨_, _, _, rfl⟩
  rw [hg] at h
  dsimp only at h
  split at h
  · simp at h; rename_i h1; exact absurd h.2.2 h1
  · rename_i h0
    split at h
    · simp at h
    · split at h
      · simp at h
      · rename_i h1 h2
        have h0' : e = 0 := by omega
        subst h0'
        obtain ⟨hn, q1, q2, q3, q4⟩ := gNum_enc hg
        have hn2 : 0 ≤ n ∧ n ≤ 1073741823 := by simpa [nMay] using hn
        simp at h
        obtain ⟨hx, rfl⟩ := h
        have hl : (x.length : Int) = n := by rw [← hx]; simp; omega
        rw [hl]
        refine ⟨hn, q1, by omega, by omega, ?_⟩
        have es : nS n = nE n := by simp [nS, hn]
        rw [es, ← q4, ← hx]
        have e1 : (t1 + n - t).toNat = (t1 - t).toNat + n.toNat := by omega
        have e2 : s.drop t1.toNat = (s.drop t.toNat).drop (t1 - t).toNat := by rw [List.drop_drop]; congr 1; omega
        rw [e1, e2, List.take_add]
theorem gText_dec {x : Bs0} (hx : x.length ≤ 65536) (p r : Bs0) : gText (p ++ (nS x.length ++ (x ++ r))) (p.length : Int) = (x, (p.length : Int) + (nS x.length).length + x.length, 0) := by
  have hn : nMay (x.length : Int) = true := by simp [nMay]; omega
  have es : nS (x.length : Int) = nE x.length := by simp [nS, hn]
  have g := gNum_dec hn p (x ++ r)
  rw [es]
  unfold gText
  rw [g]
  simp only [ne_eq, not_true_eq_false, if_false]
  rw [if_neg (by omega), if_neg (by simp; omega)]
  have e1 : ((p.length : Int) + (nE x.length).length).toNat = (p ++ nE x.length).length := by simp; omega
  rw [e1]
  have e2 : p ++ (nE x.length ++ (x ++ r)) = (p ++ nE x.length) ++ (x ++ r) := by simp
  rw [e2, List.drop_left, Int.toNat_natCast, List.take_left]
/-- A record. -/
structure Rec where
  seq : Int
  boot : Int
  prev : Int
  ev : Ev
deriving DecidableEq
def Rec.row (r : Rec) : List AVal := .int .i64 r.seq :: .int .i64 r.boot :: .int .i64 r.prev :: r.ev.row
def rec0 : Rec := ⟨0, 0, 0, ev0⟩
def recBody (r : Rec) : Bs0 := nAll [r.seq, r.boot, r.prev] ++ (nS (evPut r.ev).length ++ evPut r.ev)
def recMay (r : Rec) : Bool := evMay r.ev && decide (1 ≤ r.seq) && nMay r.seq && decide (1 ≤ r.boot) && nMay r.boot && nMay r.prev && decide ((evPut r.ev).length ≤ 44)
def recT (r : Rec) : Bs0 := 72 :: 114 :: 101 :: 99 :: 111 :: 114 :: 100 :: recBody r
theorem recMay_all {r : Rec} (h : recMay r = true) : evMay r.ev = true ∧ 1 ≤ r.seq ∧ nMay r.seq = true ∧ 1 ≤ r.boot ∧ nMay r.boot = true ∧ nMay r.prev = true ∧ (evPut r.ev).length ≤ 44 := by
  simp [recMay] at h
  obtain ⟨⟨⟨⟨⟨⟨a, b⟩, c⟩, d⟩, e⟩, f⟩, g⟩ := h
  exact ⟨a, b, c, d, e, f, g⟩
theorem recBody_len {r : Rec} (h : recMay r = true) : (recBody r).length ≤ 60 := by
  obtain ⟨a, _⟩ := recMay_all h
  have h1 := evPut_len a
  have h2 := nAll_len [r.seq, r.boot, r.prev]
  have h3 := nS_len ((evPut r.ev).length : Int)
  simp only [recBody, List.length_append, List.length_cons, List.length_nil] at h2 ⊢
  omega
/-- A record is written: the terms behind it, the sector, the name, the error. -/
def recPut (m : Int) (ts : List Bs0) (r : Rec) : List Bs0 × Bs0 × Int × Int :=
  if recMay r = true then
    (if (cMade m ts (recT r)).2.2 = 0 then (if (recBody r ++ nS (cMade m ts (recT r)).2.1).length ≤ 64 then ((cMade m ts (recT r)).1, pad (recBody r ++ nS (cMade m ts (recT r)).2.1), (cMade m ts (recT r)).2.1, 0) else ((cMade m ts (recT r)).1, [], 0, 900))
     else ((cMade m ts (recT r)).1, [], 0, 900))
  else (ts, [], 0, 900)
theorem recPut_ok {m : Int} {ts : List Bs0} {r : Rec} (h : bOk m ts) : bOk m (recPut m ts r).1 := by
  unfold recPut; split
  · split
    · split <;> exact cMade_ok h
    · exact cMade_ok h
  · exact h
/-- A record is read. -/
def recRead (ts : List Bs0) (s : Bs0) : Option (Rec × Int) :=
  match rNums s 3 0 with
  | some ([q, b, p], t) =>
    if (gText s t).2.2 ≠ 0 then none
    else match evGet (gText s t).1 with
      | some e =>
        if (gNum s (gText s t).2.1).2.2 ≠ 0 then none
        else if s.length ≠ 64 ∨ recMay ⟨q, b, p, e⟩ = false ∨ cIs ts (recT ⟨q, b, p, e⟩) (gNum s (gText s t).2.1).1 = false ∨ s.drop (gNum s (gText s t).2.1).2.1.toNat ≠ List.replicate (64 - (gNum s (gText s t).2.1).2.1.toNat) 0 then none
        else some (⟨q, b, p, e⟩, (gNum s (gText s t).2.1).1)
      | none => none
  | _ => none
def recGet (ts : List Bs0) (s : Bs0) (seq prev : Int) : Rec × Int × Int :=
  match recRead ts s with
  | none => (rec0, 0, 900)
  | some (r, n) => if r.seq ≠ seq ∨ r.prev ≠ prev then (rec0, 0, 901) else (r, n, 0)
/-- A sector that is read is the record's own. -/
theorem recRead_enc {ts : List Bs0} (hn : ts.Nodup) {s : Bs0} {r : Rec} {n : Int} (h : recRead ts s = some (r, n)) : recMay r = true ∧ nMay n = true ∧ bTerm ts n = (recT r, 0) ∧ s = pad (recBody r ++ nS n) := by
  unfold recRead at h
  split at h
  · rename_i q b p t hq
    split at h
    · simp at h
    · rename_i h1
      split at h
      · rename_i e he
        split at h
        · simp at h
        · rename_i h2
          split at h
          · simp at h
          · rename_i h3
            simp only [not_or] at h3
            obtain ⟨c1, c2, c3, c4⟩ := h3
            have h' := Option.some.inj h
            simp only [Prod.mk.injEq] at h'
            obtain ⟨rfl, hnn⟩ := h'
            obtain ⟨x, u, e1, hx⟩ : ∃ x u e1, gText s t = (x, u, e1) := ⟨_, _, _, rfl⟩
            rw [hx] at h1 he h2 c3 c4 hnn
            simp only at h1 he h2 c3 c4 hnn
            obtain ⟨y, v, e2, hy⟩ : ∃ y v e2, gNum s u = (y, v, e2) := ⟨_, _, _, rfl⟩
            rw [hy] at h2 c3 c4 hnn
            simp only at h2 c3 c4 hnn
            have h1' : e1 = 0 := by simpa using h1
            have h2' : e2 = 0 := by simpa using h2
            subst h1' h2' hnn
            obtain ⟨a1, a2, a3, a4, a5⟩ := rNums_enc hq (by omega)
            have a5' := a5 (by omega)
            obtain ⟨b1, b2, b3, b4, b5⟩ := gText_enc hx
            obtain ⟨d1, d2, d3, d4, d5⟩ := gNum_enc hy
            obtain ⟨f1, f2⟩ := evGet_enc he
            have hm : recMay ⟨q, b, p, e⟩ = true := by simpa using c2
            have hc : cIs ts (recT ⟨q, b, p, e⟩) y = true := by simpa using c3
            have hz : s.drop v.toNat = List.replicate (64 - v.toNat) 0 := by simpa using c4
            have hl : s.length = 64 := by simpa using c1
            refine ⟨hm, d1, (cIs_iff hn).1 hc, ?_⟩
            have es : nS y = nE y := by simp [nS, d1]
            have w1 : s = s.take t.toNat ++ ((s.drop t.toNat).take (u - t).toNat ++ ((s.drop u.toNat).take (v - u).toNat ++ s.drop v.toNat)) := by
              have g1 : s.drop v.toNat = (s.drop u.toNat).drop (v - u).toNat := by rw [List.drop_drop]; congr 1; omega
              have g2 : s.drop u.toNat = (s.drop t.toNat).drop (u - t).toNat := by rw [List.drop_drop]; congr 1; omega
              rw [g1, List.take_append_drop, g2, List.take_append_drop, List.take_append_drop]
            have w2 : s.take t.toNat = nAll [q, b, p] := by rw [← a4]; simp
            rw [w2, b5, d5, hz, ← es, f1] at w1
            have w3 : (recBody ⟨q, b, p, e⟩ ++ nS y).length = v.toNat := by
              have := congrArg List.length w1
              simp only [recBody, List.length_append, List.length_replicate] at this ⊢
              rw [hl] at this
              omega
            rw [pad, w3]
            conv => lhs; rw [w1]
            simp [recBody]
      · simp at h
  · simp at h
/-- What is written is read. -/
theorem recRead_dec {ts : List Bs0} (hn : ts.Nodup) {r : Rec} {n : Int} (hm : recMay r = true) (hnm : nMay n = true) (hb : bTerm ts n = (recT r, 0)) (hl : (recBody r ++ nS n).length ≤ 64) : recRead ts (pad (recBody r ++ nS n)) = some (r, n) := by
  obtain ⟨m1, m2, m3, m4, m5, m6, m7⟩ := recMay_all hm
  obtain ⟨q, b, p, e⟩ := r
  simp only at m1 m2 m3 m4 m5 m6 m7
  have hlen := pad_len hl
  have es : nS n = nE n := by simp [nS, hnm]
  have ep : pad (recBody ⟨q, b, p, e⟩ ++ nS n) = nAll [q, b, p] ++ (nS (evPut e).length ++ (evPut e ++ (nE n ++ List.replicate (64 - (recBody ⟨q, b, p, e⟩ ++ nS n).length) 0))) := by
    simp [pad, recBody, es]
  obtain ⟨z, hz⟩ : ∃ z, List.replicate (64 - (recBody ⟨q, b, p, e⟩ ++ nS n).length) (0 : UInt8) = z := ⟨_, rfl⟩
  rw [hz] at ep
  have r1 := rNums_dec [q, b, p] [] (nS (evPut e).length ++ (evPut e ++ (nE n ++ z))) (by simp [m3, m5, m6])
  simp only [List.nil_append, List.length_nil, List.length_cons, Nat.zero_add] at r1
  have z0 : ((0 : Nat) : Int) = 0 := rfl
  rw [z0, Int.zero_add] at r1
  have r2 := gText_dec (x := evPut e) (by omega) (nAll [q, b, p]) (nE n ++ z)
  have r3 := gNum_dec hnm (nAll [q, b, p] ++ (nS (evPut e).length ++ evPut e)) z
  have e3 : (nAll [q, b, p] ++ (nS (evPut e).length ++ evPut e)) ++ (nE n ++ z) = nAll [q, b, p] ++ (nS (evPut e).length ++ (evPut e ++ (nE n ++ z))) := by simp
  rw [e3] at r3
  have e4 : (((nAll [q, b, p] ++ (nS (evPut e).length ++ evPut e)).length : Nat) : Int) = ((nAll [q, b, p]).length : Int) + (nS (evPut e).length).length + (evPut e).length := by simp; omega
  rw [e4] at r3
  unfold recRead
  rw [ep, r1]
  simp only
  rw [r2]
  simp only [ne_eq, not_true_eq_false, if_false]
  rw [evGet_dec m1]
  simp only
  rw [r3]
  simp only [ne_eq, not_true_eq_false, if_false]
  rw [if_neg]
  rw [← ep]
  rintro (h | h | h | h)
  · exact h hlen
  · rw [hm] at h; simp at h
  · rw [(cIs_iff hn).2 hb] at h; simp at h
  · apply h
    have e5 : (((nAll [q, b, p]).length : Int) + (nS (evPut e).length).length + (evPut e).length + (nE n).length).toNat = (recBody ⟨q, b, p, e⟩ ++ nS n).length := by simp [recBody, es]; omega
    rw [e5, pad, List.drop_left]
end Go.AI
