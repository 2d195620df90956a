/- WindowForms. -/
import Derived.Test.YtlhmikjjnndjcaaSpLaw17
set_option linter.all false
namespace Go.AI
variable {A : Type} {R : Adts A}
theorem cvi_mod (x : Int) (m : Int) (hm : 0 < m) (hm2 : m < 1000) : ∃ k, IntKind.i64.wrap ((IntKind.u64.wrap x).tmod m) = k ∧ 0 ≤ k ∧ k < m := by
  have h1 : 0 ≤ IntKind.u64.wrap x := by simp [IntKind.wrap, IntKind.signed, IntKind.bits]; omega
  have h2 := Int.tmod_nonneg m h1
  have h3 := Int.tmod_lt_of_pos (IntKind.u64.wrap x) hm
  exact ⟨_, rfl, by rw [w64 (by omega)]; omega, by rw [w64 (by omega)]; omega⟩
theorem wMay_full : wMay 1048575 4294967295 = true := by
  have := pow2_le (show 32 ≤ Int.toNat 1048575 + 1 by decide)
  simp only [wMay, Bool.or_eq_true, decide_eq_true_eq]
  omega
attribute [local irreducible] wMay in
set_option maxHeartbeats 2000000 in
theorem WindowForms_ok (hR : R.Ok) (which x : Int) : Tri Pr R n_law17_WindowForms [.int .i64 which, .int .i64 x] [] fun u _ => u = .bool true := by
  apply c_law17_WindowForms
  unfold p_law17_WindowForms
  refine awake17_ok hR ?_
  simp
  obtain ⟨k, hk, k0, k1⟩ := cvi_mod which 9 (by omega) (by omega)
  rw [hk, bits_mask x 10 (by omega) 1023 (by decide)]
  obtain ⟨d, hd, d0, d1⟩ : ∃ d, x % 2 ^ 10 = d ∧ 0 ≤ d ∧ d < 1024 := ⟨_, rfl, by omega, by omega⟩
  rw [hd]
  clear hd hk
  simp (disch := omega) only [w64]
  have hw : k = 0 ∨ k = 1 ∨ k = 2 ∨ k = 3 ∨ k = 4 ∨ k = 5 ∨ k = 6 ∨ k = 7 ∨ k = 8 := by omega
  have ew : ∀ hi b s, wMay hi b = false → wAdd hi b s = (0, 0, 1700) := fun hi b s h => wAdd_bad (.inl h)
  have e1 : wMay (-1 - (1 + d)) 0 = false := by simp [wMay]; omega
  have e2 : wMay (-1) (1 + d) = false := by simp [wMay]; omega
  have e3 : wMay (1048575 + (1 + d)) 1 = false := by simp [wMay]; omega
  have e4 : wMay 50 0 = false := by simp [wMay]
  have e5 : wMay 50 2 = false := by simp [wMay]
  have e6 : wMay 50 (-(1 + d)) = false := by simp [wMay]; omega
  have e7 : wMay 50 4294967297 = false := by simp [wMay]
  have e8 : wMay 3 17 = false := by simp [wMay]
  have e9 : wMay 0 0 = false := by simp [wMay]
  have f1 : wAdd 1048575 4294967295 (1048575 + (1 + d)) = (0, 0, 1700) := wAdd_bad (by omega)
  have f2 : wAdd 1048575 4294967295 (-(1 + d)) = (0, 0, 1700) := wAdd_bad (by omega)
  have f3 : wAdd 1048575 4294967295 1048575 = (0, 0, 1701) := by
    rw [wAdd_old wMay_full (by omega) (by omega) (by omega), if_pos (.inr (by decide))]
  rcases hw with rfl | rfl | rfl | rfl | rfl | rfl | rfl | rfl | rfl <;> simp
  all_goals (
    refine add_at hR (x := 0) (y := 0) (e := 1700) (ew _ _ _ (by assumption)) ?_
    simp
    refine add_at hR f1 ?_
    simp
    refine add_at hR f2 ?_
    simp
    refine add_at hR f3 ?_
    simp
    refine add_at hR (x := 3) (y := 9) (e := 0) (by decide +kernel) ?_
    simp
    refine may_at hR (c := false) (by assumption) ?_
    simp
    refine num_ok ?_
    simp
    refine may_at hR wMay_full ?_
    simp
    repeat (refine num_ok ?_; simp [shEq, shEqs]))
end Go.AI
