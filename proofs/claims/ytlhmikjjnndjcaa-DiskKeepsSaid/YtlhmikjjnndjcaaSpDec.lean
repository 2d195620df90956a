/- Small numbers in decimal: some short text. -/
import Derived.Test.YtlhmikjjnndjcaaSpUse
import Derived.Test.YtlhmikjjnndjcaaSpBits
import Derived.Test.YtlhmikjjnndjcaaSpNum
import Derived.Test.YtlhmikjjnndjcaaSpBook
import Derived.Test.YtlhmikjjnndjcaaFn4
set_option linter.all false
namespace Go.AI
variable {A : Type} {R : Adts A}
def IsDec (v : AVal) : Prop := ∃ s : Bs, s.length ≤ 2 ∧ v = .str s
theorem Decimal_some (hR : R.Ok) (x : Int) (h0 : 0 ≤ x) (h1 : x < 100) {h : AHeap A} {K : AVal → AHeap A → Prop} (hk : ∀ s : Bs, s.length ≤ 2 → K (.str s) h) : Tri Pr R n_ref0_Decimal [.int .i64 x] h K := by
  refine Tri.fn hR IsDec rfl ?_ (fun v ⟨s, hs, e⟩ _ => by subst e; exact hk s hs)
  apply c_ref0_Decimal
  unfold p_ref0_Decimal
  have e1 := wu64 (n := x) (by omega)
  have h2 : ¬ x < 0 := by omega
  obtain ⟨q, hq⟩ : ∃ q, x.tdiv 10 = q := ⟨_, rfl⟩
  have hq2 : q = x / 10 := by rw [← hq, Int.tdiv_eq_ediv_of_nonneg h0]
  obtain ⟨a, ha⟩ : ∃ a, IntKind.u8.wrap (IntKind.u64.wrap (48 + x.tmod 10)) = a := ⟨_, rfl⟩
  obtain ⟨b, hb⟩ : ∃ a, IntKind.u8.wrap (IntKind.u64.wrap (48 + q.tmod 10)) = a := ⟨_, rfl⟩
  have e2 := wu64 (n := q) (by omega)
  have e3 : q.tdiv 10 = 0 := by rw [Int.tdiv_eq_ediv_of_nonneg (by omega)]; omega
  have b1 : ∀ z, byteOf (.int .u8 z) = some (UInt8.ofNat z.toNat) := fun z => rfl
  simp [e1]
  refine joinP_go ?_
  simp [h2]
  refine loopP_unr 3 ?_
  rw [unr]
  by_cases hx : 0 < x
  · simp [appP, appV, srcOf, cellsAt, hx, hq, ha, e2]
    refine Gives.done (by simp) ?_
    rw [unr]
    by_cases hq0 : 0 < q
    · simp [appP, appV, srcOf, cellsAt, hq0, e3, hb]
      refine Gives.done (by simp) ?_
      rw [unr]
      simp
      refine joinP_go ?_
      simp [h2, b2sP, cellsAt, b1]
      exact ⟨⟨_, by simp, rfl⟩, rfl⟩
    · have e4 : q = 0 := by omega
      simp [e4]
      refine joinP_go ?_
      simp [h2, b2sP, cellsAt, b1]
      exact ⟨⟨_, by simp, rfl⟩, rfl⟩
  · have e4 : q = 0 := by omega
    simp [appP, appV, srcOf, cellsAt, hx, hq, ha, e4]
    refine Gives.done (by simp) ?_
    rw [unr]
    simp
    refine joinP_go ?_
    simp [h2, b2sP, cellsAt, b1]
    exact ⟨⟨_, by simp, rfl⟩, rfl⟩
end Go.AI
