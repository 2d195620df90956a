/- TotpLeast. -/
import Derived.Test.YtlhmikjjnndjcaaSpLaw12b
set_option linter.all false
namespace Go.AI
variable {A : Type} {R : Adts A}
/-- Names that were told, behind two objects. -/
def TRow2 (o1 o2 : AObj A) (tags : List Int) (x : AVal) (g : AHeap A) : Prop :=
  (tags = [] ∧ x = .nils ∧ g = [o1, o2]) ∨ (tags ≠ [] ∧ x = .sl 2 0 tags.length tags.length false ∧ g = [o1, o2, .cells t_int (tags.map (.int .i64))])
section
variable {bk rbk : Int → List Bs → A}
def LeastI (bk rbk : Int → List Bs → A) (p i0 e : Int) (m : Nat) (y : List AVal) (g : AHeap A) : Prop :=
  ∃ (i : Int) (ts : List Bs) (tags : List Int) (x : AVal), y = [x, .int .i64 i] ∧ TRow2 (.adt (bk 99 ts)) (.adt (rbk 99 [])) tags x g ∧ bOk 99 ts ∧ ts.length ≤ 2 * (i - i0) ∧ tags.length = i - i0 ∧
    (∀ c ∈ tags, ∃ j, 1 ≤ j ∧ j < i ∧ bTerm ts c = (77 :: (nS p ++ cTerm j), 0)) ∧ i0 ≤ i ∧ i ≤ e + 1 ∧ m = (e + 1 - i).toNat
def LeastR (h : AHeap A) (n : Nat) (m : Nat) (y : List AVal) (g : AHeap A) : Prop := ∃ j : Nat, y = [.int .i64 j] ∧ g = h ∧ j ≤ n ∧ m = n - j
theorem TotpLeast_ok (hR : R.Ok) (hB : HasBook R bk) (hB' : HasRBook R rbk) (a c tick last : Int) : Tri Pr R n_law12_TotpLeast [.int .i64 a, .int .i64 c, .int .i64 tick, .int .i64 last] [] fun u _ => u = .bool true := by
  apply c_law12_TotpLeast
  unfold p_law12_TotpLeast
  refine awake12_ok hR hB hB' ?_
  simp -implicitDefEqProofs
  refine law12_twin_ok hR hB hB' 99 ?_
  rw [if_pos (by omega)]
  simp -implicitDefEqProofs
  rw [bits_mask tick 10 (by omega) 1023 (by decide), bits_mask a 30 (by omega) 1073741823 (by decide), bits_mask c 30 (by omega) 1073741823 (by decide)]
  obtain ⟨t, ht, t0, t1⟩ : ∃ t, tick % 2 ^ 10 = t ∧ 0 ≤ t ∧ t < 1024 := ⟨_, rfl, by omega, by omega⟩
  obtain ⟨p, hp, p0⟩ : ∃ q, a % 2 ^ 30 = q ∧ nMay q = true := ⟨_, rfl, by simp [nMay]; omega⟩
  obtain ⟨q, hq, q0⟩ : ∃ q, c % 2 ^ 30 = q ∧ nMay q = true := ⟨_, rfl, by simp [nMay]; omega⟩
  rw [ht, hp, hq]
  have hqt : t.tdiv 30 = t / 30 := Int.tdiv_eq_ediv_of_nonneg t0
  have e5 := w64 (n := t / 30) (by omega)
  obtain ⟨s, hs, s0, s1⟩ : ∃ s, t / 30 + 1 = s ∧ 1 ≤ s ∧ s ≤ 35 := ⟨_, rfl, by omega, by omega⟩
  have e6 := w64 (n := s) (by omega)
  have hst : tStep t = s := by rw [tStep, if_pos (by omega), hs]
  have e7 := w64 (n := s + 3) (by omega)
  have e8 := w64 (n := s - 2) (by omega)
  have e9 := w64 (n := s + 2) (by omega)
  have e10 := w64 (n := s - 1) (by omega)
  have e11 := w64 (n := s + 1) (by omega)
  have e12 : ¬ s + 3 = 0 := by omega
  obtain ⟨k, hk⟩ : ∃ k, last.tmod (s + 3) = k := ⟨_, rfl⟩
  obtain ⟨i0, g0, g1, g2⟩ : ∃ i0, (if 1 < s - 2 then s - 2 else 1) = i0 ∧ 1 ≤ i0 ∧ s - 2 ≤ i0 ∧ i0 ≤ s := ⟨_, rfl, by split <;> omega, by split <;> omega, by split <;> omega⟩
  have b0 : bOk 99 [] := bOk_nil (by omega)
  simp -implicitDefEqProofs [hqt, e5, hs, e6, e7, e8, e9, e12, hk, g0]
  refine loopP_go (LeastI bk rbk p i0 (s + 2)) (s + 3 - i0).toNat (Gives.done (by simp) ⟨i0, [], [], _, rfl, .inl ⟨rfl, rfl, rfl⟩, b0, by simp, by simp, by simp, by omega, by omega, by congr 1; omega⟩) ?_
  rintro m y g ⟨i, ts, tags, x, rfl, hrow, ok, tl, gl, hall, hi0, hi1, rfl⟩
  have e14 := w64 (n := i + 1) (by omega)
  by_cases h1 : i ≤ s + 2
  · obtain ⟨ts1, n1, k1, k2, k3, k4⟩ := tCode_step (m := 99) (ts := ts) (s := i) p0 (by omega) (by omega) (by omega)
    have ok1 := bOk_code ok k1
    obtain ⟨ts2, n2, j1, j2, j3, j4⟩ := tCode_step (m := 99) (ts := ts1) (s := i) q0 (by omega) (by omega) (by omega)
    have ok2 := bOk_code ok1 j1
    have hn1 := j4 _ _ k2
    have him : nMay i = true := by simp [nMay]; omega
    have hsame : (n1 == n2) = (p == q) := by
      rw [Bool.eq_iff_iff]
      simp
      constructor
      · rintro rfl
        rw [hn1] at j2
        simp at j2
        exact (nS_head p0 q0 (s := []) (t := []) (by simpa using j2)).1
      · rintro rfl
        obtain ⟨x1, rfl, h3⟩ := bTerm_iff.1 hn1
        obtain ⟨x2, rfl, h4⟩ := bTerm_iff.1 j2
        rw [nd_get ok2.nd h3 h4]
    have hacc := tAccept_code ok2.nd (secret := p) (last := k) (tick := t) p0 (s := i) (by omega) (by omega) hn1
    rw [hst] at hacc
    have hnew : ∀ c ∈ tags, (c == n1) = false := by
      intro c hc
      obtain ⟨j, a1, a2, a3⟩ := hall c hc
      have a4 := j4 _ _ (k4 _ _ a3)
      simp
      rintro rfl
      rw [a4] at hn1
      simp at hn1
      have := cTerm_inj (by simp [nMay]; omega) him hn1
      omega
    have hall2 : ∀ c ∈ tags ++ [n1], ∃ j, 1 ≤ j ∧ j < i + 1 ∧ bTerm ts2 c = (77 :: (nS p ++ cTerm j), 0) := by
      intro c hc
      rcases List.mem_append.1 hc with hc | hc
      · obtain ⟨j, a1, a2, a3⟩ := hall c hc
        exact ⟨j, a1, by omega, j4 _ _ (k4 _ _ a3)⟩
      · simp at hc; subst hc; exact ⟨i, by omega, by omega, hn1⟩
    have hlow : ∀ m, AObj.low R m (.adt (bk 99 ts2)) := fun m => book_low hB _ _
    have hlow2 : ∀ m, AObj.low R m (.adt (rbk 99 [])) := fun m => rbook_low hB' _ _
    rcases hrow with ⟨rfl, rfl, rfl⟩ | ⟨hne, rfl, rfl⟩
    · simp -implicitDefEqProofs [h1]
      refine Code_at hR hB ok k1 rfl ?_
      simp -implicitDefEqProofs
      refine Code_at hR hB ok1 j1 rfl ?_
      simp -implicitDefEqProofs
      refine num14_ok ?_
      simp -implicitDefEqProofs
      refine num14_ok ?_
      simp -implicitDefEqProofs [hsame]
      refine loopP_unr 1 ?_
      rw [unr]
      have end1 : Gives Pr R 2 [.adt (bk 99 ts2), .adt (rbk 99 []), .cells t_int [.int .i64 n1], .cells t_int [.int .i64 n1]] [.sl 3 0 1 1 false, .int .i64 (i + 1)] fun z k => ∃ m', m' < (s + 2 + 1 - i).toNat ∧ LeastI bk rbk p i0 (s + 2) m' z k :=
        Gives.pick hR [.adt (bk 99 ts2), .adt (rbk 99 [])] [.cells t_int [.int .i64 n1]] (.cells t_int (([] ++ [n1]).map (.int .i64))) _ [.sl 2 0 1 1 false, .int .i64 (i + 1)] rfl (by simp) (by simp; exact ⟨hlow _, hlow2 _⟩) (ints_fix _) (by simp [rens, AVal.ren]) rfl (by
          exact ⟨(s + 2 + 1 - (i + 1)).toNat, by omega, i + 1, ts2, [] ++ [n1], _, rfl, .inr ⟨by simp, by simp, rfl⟩, ok2, by omega, by simp at gl ⊢; omega, hall2, by omega, by omega, rfl⟩)
      simp -implicitDefEqProofs [appP, appV, srcOf, cellsAt]
      by_cases c1 : s - 1 ≤ i
      · by_cases c2 : i ≤ s + 1
        · by_cases c3 : k < i
          · rw [if_pos (by omega)] at hacc
            refine Accept_at hR hB hacc rfl ?_
            simp -implicitDefEqProofs [e10, e11, e14, c1, c2, c3]
            simpa using end1
          · rw [if_neg (by omega)] at hacc
            refine Accept_at hR hB hacc rfl ?_
            simp -implicitDefEqProofs [e10, e11, e14, c1, c2, c3]
            simpa using end1
        · rw [if_neg (by omega)] at hacc
          refine Accept_at hR hB hacc rfl ?_
          simp -implicitDefEqProofs [e10, e11, e14, c1, c2]
          simpa using end1
      · rw [if_neg (by omega)] at hacc
        refine Accept_at hR hB hacc rfl ?_
        simp -implicitDefEqProofs [e10, e11, e14, c1]
        simpa using end1
      
    · simp -implicitDefEqProofs [h1]
      refine Code_at hR hB ok k1 rfl ?_
      simp -implicitDefEqProofs
      refine Code_at hR hB ok1 j1 rfl ?_
      simp -implicitDefEqProofs
      refine num14_ok ?_
      simp -implicitDefEqProofs
      refine num14_ok ?_
      simp -implicitDefEqProofs [hsame]
      have hts : tags.length ≤ 100 := by omega
      refine loopP_go (LeastR [.adt (bk 99 ts2), .adt (rbk 99 []), .cells t_int (tags.map (.int .i64))] tags.length) tags.length (Gives.done (by simp) ⟨0, rfl, rfl, by omega, rfl⟩) ?_
      rintro m y g ⟨j, rfl, rfl, hj, rfl⟩
      have e15 := w64 (n := (j : Int) + 1) (by omega)
      by_cases h5 : j < tags.length
      · have hx := hnew tags[j] (List.getElem_mem h5)
        simp -implicitDefEqProofs [h5, hx, e15]
        exact Gives.done (by simp) ⟨tags.length - (j + 1), by omega, j + 1, rfl, rfl, by omega, rfl⟩
      · have h6 : ¬ tags.length + 1 ≤ tags.length := by omega
        have h7 : (2 * (tags.length + 1) + 1000) * 8 ≤ 140737488355328 := by omega
        have t1' : List.take tags.length (tags.map (AVal.int IntKind.i64)) = tags.map (AVal.int IntKind.i64) := List.take_of_length_le (by simp)
        have end1 : Gives Pr R 2 [.adt (bk 99 ts2), .adt (rbk 99 []), .dead, .cells t_int [.int .i64 n1], .cells t_int ((tags ++ [n1]).map (.int .i64))] [.sl 4 0 (tags.length + 1) (tags.length + 1) false, .int .i64 (i + 1)] fun z k => ∃ m', m' < (s + 2 + 1 - i).toNat ∧ LeastI bk rbk p i0 (s + 2) m' z k :=
          Gives.pick hR [.adt (bk 99 ts2), .adt (rbk 99 [])] [.dead, .cells t_int [.int .i64 n1]] (.cells t_int ((tags ++ [n1]).map (.int .i64))) _ [.sl 2 0 (tags.length + 1) (tags.length + 1) false, .int .i64 (i + 1)] rfl (by simp) (by simp; exact ⟨hlow _, hlow2 _⟩) (ints_fix _) (by simp [rens, AVal.ren]) rfl
            ⟨(s + 2 + 1 - (i + 1)).toNat, by omega, i + 1, ts2, tags ++ [n1], _, rfl, .inr ⟨by simp, by simp, rfl⟩, ok2, by omega, by simp; omega, hall2, by omega, by omega, rfl⟩
        simp -implicitDefEqProofs [appP, appV, srcOf, cellsAt, h5, h6, h7, t1']
        by_cases c1 : s - 1 ≤ i
        · by_cases c2 : i ≤ s + 1
          · by_cases c3 : k < i
            · rw [if_pos (by omega)] at hacc
              refine Accept_at hR hB hacc rfl ?_
              simp -implicitDefEqProofs [e10, e11, e14, c1, c2, c3]
              simpa using end1
            · rw [if_neg (by omega)] at hacc
              refine Accept_at hR hB hacc rfl ?_
              simp -implicitDefEqProofs [e10, e11, e14, c1, c2, c3]
              simpa using end1
          · rw [if_neg (by omega)] at hacc
            refine Accept_at hR hB hacc rfl ?_
            simp -implicitDefEqProofs [e10, e11, e14, c1, c2]
            simpa using end1
        · rw [if_neg (by omega)] at hacc
          refine Accept_at hR hB hacc rfl ?_
          simp -implicitDefEqProofs [e10, e11, e14, c1]
          simpa using end1
        
  · simp -implicitDefEqProofs [h1]
end
end Go.AI
