/-
  What is proved: for every input, the statement's function returns true and leaves its arguments as they were. No condition.
-/
import Derived.Test.YtlhmikjjnndjcaaRows
import Derived.Test.YtlhmikjjnndjcaaAiT
import Derived.Test.YtlhmikjjnndjcaaSpLaw0
import Derived.WalkKit
import Derived.ProofKit
import Derived.SizedLaws
set_option linter.all false
namespace Go.Proofs.Ytlhmikjjnndjcaa
open Go.ChangeShapes Go.WideShapes Go.ChangeAt Go.RowKit
namespace LBastionNames
theorem own : ownKnob Try.prog.godebug = none := by kernel_rfl
theorem laid : laidOutB Try.prog = true := by kernel_rfl
set_option maxRecDepth 100000 in
theorem lifted (os : Os) (started : os.Started) (H : Type) (enc : TypeId × Value → H) :
    ReturnsInHanded {} Try.checked os 3 .any (Rows.bastionNamesSpec.pre6 enc Try.prog Try.f3 Rows.bastionNamesRow.domain false) (Rows.bastionNamesSpec.post enc Try.prog Try.f3 false true false false) := by
  refine returnsInHanded_of_change_sized (C := Try.checked) own started (by kernel_rfl) Try.func3
    (ChangeSpec.witness6 (enc := enc) (C := Try.checked) false ⟨#[], #[], []⟩ 8 (by kernel_rfl) (by kernel_rfl) (by kernel_rfl) (by kernel_rfl)) ?_
  intro W base args ds gs before hval0 hW hcnd hwt _
  have hval : ∀ (j : Nat) t v, Try.f3.params[j]? = some t → args[j]? = some v → Value.okWide Try.prog W .any base t v := hval0
  have hW' := hW
  obtain ⟨p, q, hA0, hV, rfl, hfz, hnd⟩ := hW
  have hA : DataW.TrodAll enc Try.prog W 0 (fun _ => true) true Try.f3.params.toList args.toList ds p := hA0
  obtain ⟨rfl, rfl⟩ := trodVars_none hV
  have hpar : Try.f3.params.toList = [] := by kernel_rfl
  obtain ⟨ass, a1, a2, a3, a4⟩ := Go.AI.args_TR (base := base) hA (by rw [hpar]; intro t ht; cases ht) (fun j t v h1 h2 => hval j t v (by simpa using h1) (by simpa using h2))
  rw [hpar] at a1 a2 a3 a4 hA
  obtain rfl : ass = [] := List.length_eq_zero_iff.mp a1
  obtain rfl : ds = [] := by
    cases ds with
    | nil => rfl
    | cons d ds => simp [DataW.TrodAll] at hA
  refine (Go.AI.law_walk (Go.AI.BastionNames_ok Go.AI.R0_ok) a3 a4).mono ?_
  rintro e W' ⟨rfl, hleft⟩
  exact ⟨_, rfl, Go.AI.law_post laid (by rw [hpar]; intro t ht; cases ht) rfl (tb := 4) (by kernel_rfl) Try.underlying4 rfl hW' hleft⟩
theorem over : Rows.bastionNamesRow.holds Try.pinned (OpenSpec.ofChange Rows.bastionNamesSpec) :=
  OpenClaim.holds_of_wide 3 Try.f3 rfl rfl rfl rfl rfl rfl rfl ⟨rfl, rfl, rfl, rfl, rfl⟩ rfl rfl rfl rfl rfl (by kernel_rfl) Try.func3 (by kernel_rfl)
    (of_decide_eq_true (by kernel_rfl)) (by unfold Func.isWrapper; first | (rw [if_pos (by decide +kernel)]; kernel_rfl) | (rw [if_neg (by decide +kernel)]; exact ⟨rfl, rfl⟩))
    (fun os started H enc _ => lifted os started H enc)
end LBastionNames
theorem bastionNames_holds : Rows.BastionNamesSaid := LBastionNames.over
end Go.Proofs.Ytlhmikjjnndjcaa
