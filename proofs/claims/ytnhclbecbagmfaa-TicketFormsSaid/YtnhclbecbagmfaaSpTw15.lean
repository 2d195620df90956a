/- Twins of books, the statements of layer 15. -/
import Derived.Test.YtnhclbecbagmfaaSpCraftAt
set_option linter.all false
namespace Go.AI
variable {A : Type} {R : Adts A}
section
variable {bk rbk : Int → List Bs → A}
theorem law15_twin_ok (hR : R.Ok) (hB : HasBook R bk) (hB' : HasRBook R rbk) (m : Int) {h : AHeap A} {K : AVal → AHeap A → Prop}
    (hk : if 1 ≤ m ∧ m ≤ 65536 then K (.tup [.ptr h.length 0, .ptr (h.length + 1) 0]) (h ++ [.adt (bk m []), .adt (rbk m [])]) else K (.tup [.nilp, .nilp]) h) : Tri Pr R n_law15_twin [.int .i64 m, .nils] h K := by
  apply c_law15_twin
  unfold p_law15_twin
  refine book_New_ok hR hB m ?_
  by_cases hm : 1 ≤ m ∧ m ≤ 65536
  · rw [if_pos hm] at hk ⊢
    simp
    refine rbook_New_ok hR hB' m ?_
    rw [if_pos hm]
    simp
    refine num14_ok ?_
    simp
    refine loopP_unr 1 ?_
    rw [unr]
    simpa using hk
  · rw [if_neg hm] at hk ⊢
    simp
    refine rbook_New_ok hR hB' m ?_
    rw [if_neg hm]
    simp
    refine num14_ok ?_
    simpa using hk
theorem same15_ok (hR : R.Ok) (hB : HasBook R bk) (hB' : HasRBook R rbk) {m : Int} {ts : List Bs} (hok : bOk m ts) {K : AVal → AHeap A → Prop} (hk : K (.bool true) [.adt (bk m ts), .adt (rbk m ts)]) :
    Tri Pr R n_law15_sameBooks [.ptr 0 0, .ptr 1 0] [.adt (bk m ts), .adt (rbk m ts)] K := by
  have hm := hok.most
  have hl := hok.len
  refine Tri.post (Tri.pre (Gives.opened 1 rfl (by simp) fun g hg => ?_))
  obtain rfl := (hB'.lay _ _ _).1 hg
  refine Gives.done (by simp) ?_
  apply c_law15_sameBooks
  unfold p_law15_sameBooks
  by_cases h0 : ts = []
  · subst h0
    simp -implicitDefEqProofs [rbookG, GC.at]
    refine book_Len_ok hR hB rfl ?_
    simp -implicitDefEqProofs
    refine loopP_unr 1 ?_
    rw [unr]
    simp -implicitDefEqProofs
    exact rbook_shutA hR hB' (book_low hB _ _) rfl ⟨_, rfl, hk⟩
  · have e1 := w64 (n := (ts.length : Int) - 40) (by omega)
    simp -implicitDefEqProofs [rbookG, GC.at, h0]
    refine book_Len_ok hR hB rfl ?_
    simp -implicitDefEqProofs [e1]
    refine loopP_go (SameI bk m ts) _
      (Gives.done (by simp) ⟨(if 0 < (ts.length : Int) - 40 then (ts.length : Int) - 40 else 0).toNat, by congr 2; split <;> omega, rfl, by split <;> omega, rfl⟩) ?_
    rintro k y g ⟨i, rfl, rfl, hi, rfl⟩
    by_cases h1 : i < ts.length
    · have e2 := w64 (n := (i : Int) + 1) (by omega)
      simp -implicitDefEqProofs [h1]
      refine book_Term_ok hR hB i rfl ?_
      have hb : bTerm ts i = (ts[i], 0) := by simp [bTerm, h1]
      rw [hb]
      simp -implicitDefEqProofs
      refine num14_ok ?_
      simp -implicitDefEqProofs [h1, e2]
      exact Gives.done (by simp) ⟨ts.length - (i + 1), by omega, i + 1, rfl, rfl, by omega, rfl⟩
    · simp -implicitDefEqProofs [h1]
      exact rbook_shutB hR hB' h0 (book_low hB _ _) rfl ⟨_, rfl, hk⟩
theorem law15_twins_ok (hR : R.Ok) (hB : HasBook R bk) (hB' : HasRBook R rbk) (m : Int) (a : AVal) (l : List Bs) (ha : IsStrs a l) {h : AHeap A} {K : AVal → AHeap A → Prop}
    (hk : if 1 ≤ m ∧ m ≤ 65536 then ∀ ts, bOk m ts → K (.tup [.ptr h.length 0, .ptr (h.length + 1) 0]) (h ++ [.adt (bk m ts), .adt (rbk m ts)]) else K (.tup [.nilp, .nilp]) h) : Tri Pr R n_law15_twin [.int .i64 m, a] h K := by
  by_cases hm : 1 ≤ m ∧ m ≤ 65536
  · rw [if_pos hm] at hk
    have hok : ∀ i, bOk m (bNames m l i) := fun i => bNames_ok hm l i
    obtain ⟨q, hq⟩ : ∃ q, q = 400 := ⟨_, rfl⟩
    refine Tri.make hR (v0 := .tup [.ptr 0 0, .ptr 1 0]) (h0 := [.adt (bk m (bNames m l (min l.length q))), .adt (rbk m (bNames m l (min l.length q)))]) (by simp [ixs, AVal.ix, ha.ix]) (Tri.post ?_) (by simpa [AVal.ren, rens, AObj.ren, hB.ren, hB'.ren] using hk _ (hok _))
    apply c_law15_twin
    unfold p_law15_twin
    refine book_New_ok hR hB m ?_
    rw [if_pos hm]
    simp -implicitDefEqProofs
    refine rbook_New_ok hR hB' m ?_
    rw [if_pos hm]
    simp -implicitDefEqProofs
    refine num14_ok ?_
    simp -implicitDefEqProofs
    refine loopP_go (TwinI q bk rbk m l) q (Gives.done (by simp) ⟨0, rfl, rfl, by omega, by omega, rfl⟩) ?_
    rintro k y g ⟨i, rfl, rfl, i0, i1, rfl⟩
    have e1 := w64 (n := (i : Int) + 1) (by omega)
    simp -implicitDefEqProofs [ha.len]
    by_cases h1 : i < l.length
    · by_cases h2 : (i : Int) < 400
      · simp -implicitDefEqProofs [h1, h2]
        obtain ⟨bb, oo, cs, hg⟩ := ha.get h1
        simp -implicitDefEqProofs [hg]
        refine book_Name_ok hR hB (hok i) _ rfl ?_
        simp -implicitDefEqProofs [hg]
        refine rbook_Name_ok hR hB' (hok i) _ rfl ?_
        simp -implicitDefEqProofs [e1]
        exact Gives.done (by simp) ⟨q - (i + 1), by omega, i + 1, rfl, by rw [bNames_succ h1], by omega, by omega, rfl⟩
      · have : min l.length q = i := by omega
        simp -implicitDefEqProofs [h1, h2, this]
        exact Gives.done (by simp) ⟨_, rfl, rfl, rfl⟩
    · have : min l.length q = i := by omega
      simp -implicitDefEqProofs [h1, this]
      exact Gives.done (by simp) ⟨_, rfl, rfl, rfl⟩
  · rw [if_neg hm] at hk
    apply c_law15_twin
    unfold p_law15_twin
    refine book_New_ok hR hB m ?_
    rw [if_neg hm]
    simp -implicitDefEqProofs
    refine rbook_New_ok hR hB' m ?_
    rw [if_neg hm]
    simp -implicitDefEqProofs
    refine num14_ok ?_
    simpa using hk
end
end Go.AI
