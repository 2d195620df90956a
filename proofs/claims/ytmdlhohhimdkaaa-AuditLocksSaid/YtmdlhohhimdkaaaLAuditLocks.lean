/-
  What is proved: for every input, the statement's function returns true and leaves its arguments as they were. No condition.
-/
import Derived.Test.YtmdlhohhimdkaaaRows
import Derived.Test.YtmdlhohhimdkaaaAiT
import Derived.WalkKit
import Derived.ProofKit
import Derived.SizedLaws
import Derived.Test.YtmdlhohhimdkaaaMcAuditLocks
set_option linter.all false
namespace Go.Proofs.Ytmdlhohhimdkaaa
open Go.ChangeShapes Go.WideShapes Go.ChangeAt Go.RowKit
namespace LAuditLocks
theorem own : ownKnob Try.prog.godebug = none := by kernel_rfl
theorem laid : laidOutB Try.prog = true := by kernel_rfl
set_option maxRecDepth 100000 in
theorem lifted (os : Os) (started : os.Started) (H : Type) (enc : TypeId × Value → H) :
    ReturnsInHanded {} Try.checked os 7 .any (Rows.auditLocksSpec.pre6 enc Try.prog Try.f7 Rows.auditLocksRow.domain false) (Rows.auditLocksSpec.post enc Try.prog Try.f7 false true false false) := by
  refine returnsInHanded_of_change_sized (C := Try.checked) own started (by kernel_rfl) Try.func7
    (ChangeSpec.witness6 (enc := enc) (C := Try.checked) false ⟨#[], #[.slice none 0 0, .int .i64 0], []⟩ 8 (by kernel_rfl) (by kernel_rfl) (by kernel_rfl) (by kernel_rfl)) ?_
  intro W base args ds gs before hval0 hW hcnd hwt _
  have hval : ∀ (j : Nat) t v, Try.f7.params[j]? = some t → args[j]? = some v → Value.okWide Try.prog W .any base t v := hval0
  have hW' := hW
  obtain ⟨p, q, hA0, hV, rfl, hfz, hnd⟩ := hW
  have hA : DataW.TrodAll enc Try.prog W 0 (fun _ => true) true Try.f7.params.toList args.toList ds p := hA0
  obtain ⟨rfl, rfl⟩ := trodVars_none hV
  have hpar : Try.f7.params.toList = [33, 3] := by kernel_rfl
  obtain ⟨ass, a1, a2, a3, a4⟩ := Go.AI.args_TR (base := base) hA (by rw [hpar]; intro t ht; simp only [List.mem_cons, List.not_mem_nil, or_false] at ht; rcases ht with rfl | rfl <;> kernel_rfl) (fun j t v h1 h2 => hval j t v (by simpa using h1) (by simpa using h2)) hwt
  rw [hpar] at a1 a2 a3 a4 hA
  obtain ⟨as0, as1, rfl⟩ := Go.AI.len_2 a1
  obtain ⟨b0, l0, rfl, hl0, _⟩ := Go.AI.ints_TR Try.underlying33 Try.underlying3 (a2 0 _ _ rfl rfl)
  obtain ⟨x1, rfl, _⟩ := Go.AI.TR_int Try.underlying3 (a2 1 _ _ rfl rfl)
  have g33 : Go.AI.aggT Try.prog 33 = false := by kernel_rfl
  have g3 : Go.AI.aggT Try.prog 3 = false := by kernel_rfl
  simp [Go.AI.pack, g33, g3] at a3 a4
  have hds : ∃ d0 d1, ds = [d0, d1] := by
    exact Go.AI.data_2 hA
  obtain ⟨d0, d1, rfl⟩ := hds
  refine (Go.AI.law_walk (Go.AI.AuditLocks_ok Go.AI.R0_ok _ _ hl0 _) a3 a4).mono ?_
  rintro e W' ⟨rfl, hleft⟩
  exact ⟨_, rfl, Go.AI.law_post laid (by rw [hpar]; intro t ht; simp only [List.mem_cons, List.not_mem_nil, or_false] at ht; rcases ht with rfl | rfl <;> exact ⟨by kernel_rfl, of_decide_eq_true (by kernel_rfl)⟩) rfl (tb := 4) (by kernel_rfl) Try.underlying4 rfl hW' hleft⟩
theorem over : Rows.auditLocksRow.holds Try.pinned (OpenSpec.ofChange Rows.auditLocksSpec) :=
  OpenClaim.holds_of_wide 7 Try.f7 rfl rfl rfl rfl rfl rfl rfl ⟨rfl, rfl, rfl, rfl, rfl⟩ rfl rfl rfl rfl rfl (by kernel_rfl) Try.func7 (by kernel_rfl)
    (of_decide_eq_true (by kernel_rfl)) (by unfold Func.isWrapper; first | (rw [if_pos (by decide +kernel)]; kernel_rfl) | (rw [if_neg (by decide +kernel)]; exact ⟨rfl, rfl⟩))
    (fun os started H enc _ => lifted os started H enc)
end LAuditLocks
theorem auditLocks_holds : Rows.AuditLocksSaid := LAuditLocks.over
end Go.Proofs.Ytmdlhohhimdkaaa
