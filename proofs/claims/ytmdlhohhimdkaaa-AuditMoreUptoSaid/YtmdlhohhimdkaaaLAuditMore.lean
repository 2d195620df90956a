/-
  What is proved: for every input, the statement's function returns true and leaves its arguments as they were. No condition.
-/
import Derived.Test.YtmdlhohhimdkaaaRows
import Derived.Test.YtmdlhohhimdkaaaAiT
import Derived.WalkKit
import Derived.ProofKit
import Derived.SizedLaws
import Derived.Deep.CondSized
import Derived.Test.YtmdlhohhimdkaaaMcAuditMore
set_option linter.all false
namespace Go.Proofs.Ytmdlhohhimdkaaa
open Go.ChangeShapes Go.WideShapes Go.ChangeAt Go.RowKit
namespace LAuditMore
theorem own : ownKnob Try.prog.godebug = none := by kernel_rfl
theorem laid : laidOutB Try.prog = true := by kernel_rfl
theorem bulk_one {H : Type} (d : DataW H) : 1 ≤ Rows.uptoBulk d := by
  cases d with
  | lit l => cases l <;> simp [Rows.uptoBulk]
  | _ => simp [Rows.uptoBulk]
theorem bulk_all {H : Type} : ∀ l : List (DataW H), l.length ≤ Rows.uptoBulkAll l ∧ ∀ d ∈ l, Rows.uptoBulk d ≤ Rows.uptoBulkAll l
  | [] => by simp
  | x :: r => by
    obtain ⟨h1, h2⟩ := bulk_all r
    have h3 := bulk_one x
    simp only [Rows.uptoBulkAll, List.length_cons]
    refine ⟨by omega, fun d hd => ?_⟩
    rcases List.mem_cons.1 hd with rfl | hd
    · omega
    · have := h2 d hd; omega
theorem bulk_slice {H : Type} (es rest : List (DataW H)) (h : Rows.uptoBulk (.slice es rest) ≤ 1048576) : es.length ≤ 1048576 ∧ ∀ d ∈ es, Rows.uptoBulk d ≤ 1048576 := by
  simp only [Rows.uptoBulk] at h
  obtain ⟨h1, h2⟩ := bulk_all es
  exact ⟨by omega, fun d hd => by have := h2 d hd; omega⟩
theorem bulk_agg {H : Type} (ps : List (DataW H)) (h : Rows.uptoBulk (.agg ps) ≤ 1048576) : ∀ d ∈ ps, Rows.uptoBulk d ≤ 1048576 := by
  simp only [Rows.uptoBulk] at h
  obtain ⟨h1, h2⟩ := bulk_all ps
  exact fun d hd => by have := h2 d hd; omega
set_option maxRecDepth 100000 in
theorem lifted (os : Os) (started : os.Started) (H : Type) (enc : TypeId × Value → H) (F : Stop.Interp) :
    ReturnsInHanded {} Try.checked os 4 .any ((Rows.OpenSpec.upto Rows.auditMoreSpec).pre6 enc Try.prog Try.f4 Rows.auditMoreUptoRow.domain false) (((Rows.OpenSpec.upto Rows.auditMoreSpec).at F).post enc Try.prog Try.f4 false true false false) := by
  refine returnsInHanded_of_cond_sized (C := Try.checked) (s := (Rows.OpenSpec.upto Rows.auditMoreSpec)) (k := Rows.uptoSmall) rfl own started (by kernel_rfl) Try.func4
    (OpenSpec.witness (enc := enc) (C := Try.checked) (s := (Rows.OpenSpec.upto Rows.auditMoreSpec)) (k := Rows.uptoSmall) rfl false ⟨#[], #[.agg #[.int .i64 0, .int .i64 0, .int .i64 0, .int .i64 0, .int .i64 0, .int .i64 0, .int .i64 0, .int .i64 0, .int .i64 0, .int .i64 0, .int .i64 0, .int .i64 0], .slice none 0 0, .int .i64 0], []⟩ 8 (by kernel_rfl) (by kernel_rfl) (by kernel_rfl)
      (x := ([.agg [.lit (.int .i64 0), .lit (.int .i64 0), .lit (.int .i64 0), .lit (.int .i64 0), .lit (.int .i64 0), .lit (.int .i64 0), .lit (.int .i64 0), .lit (.int .i64 0), .lit (.int .i64 0), .lit (.int .i64 0), .lit (.int .i64 0), .lit (.int .i64 0)], .nil, .lit (.int .i64 0)], [], [])) (by kernel_rfl) rfl (by kernel_rfl)) ?_
  intro W base args ds gs before hval0 hW hcnd hk hwt _
  have hval : ∀ (j : Nat) t v, Try.f4.params[j]? = some t → args[j]? = some v → Value.okWide Try.prog W .any base t v := hval0
  have hW' := hW
  obtain ⟨p, q, hA0, hV, rfl, hfz, hnd⟩ := hW
  have hA : DataW.TrodAll enc Try.prog W 0 (fun _ => true) true Try.f4.params.toList args.toList ds p := hA0
  obtain ⟨rfl, rfl⟩ := trodVars_none hV
  have hpar : Try.f4.params.toList = [23, 24, 3] := by kernel_rfl
  have hkb : Rows.uptoBulkAll (ds ++ []) ≤ 1048576 := of_decide_eq_true hk
  obtain ⟨ass, a1, a2, a3, a4⟩ := Go.AI.args_TR2 (B := 1048576) (Q := fun d => Rows.uptoBulk d ≤ 1048576) bulk_slice bulk_agg (base := base) hA (by rw [hpar]; intro t ht; simp only [List.mem_cons, List.not_mem_nil, or_false] at ht; rcases ht with rfl | rfl | rfl <;> kernel_rfl) (fun j t v h1 h2 => hval j t v (by simpa using h1) (by simpa using h2)) hwt (fun d hd => by have := (bulk_all (ds ++ [])).2 d (by simpa using hd); omega)
  rw [hpar] at a1 a2 a3 a4 hA
  obtain ⟨as0, as1, as2, rfl⟩ := Go.AI.len_3 a1
  obtain ⟨x0, rfl⟩ := Go.AI.cfg25_TR2 Try.underlying23 Try.underlying3 (by kernel_rfl) (by kernel_rfl) ⟨⟨rfl, rfl⟩, ⟨rfl, rfl⟩, ⟨rfl, rfl⟩, ⟨rfl, rfl⟩, ⟨rfl, rfl⟩, ⟨rfl, rfl⟩, ⟨rfl, rfl⟩, ⟨rfl, rfl⟩, ⟨rfl, rfl⟩, ⟨rfl, rfl⟩, ⟨rfl, rfl⟩, ⟨rfl, rfl⟩⟩ (a2 0 _ _ rfl rfl)
  obtain ⟨b1, l1, rfl, hl1, hb1⟩ := Go.AI.evs25s_TR2 Try.underlying24 Try.underlying42 Try.underlying3 (by kernel_rfl) (by kernel_rfl) ⟨⟨rfl, rfl⟩, ⟨rfl, rfl⟩, ⟨rfl, rfl⟩, ⟨rfl, rfl⟩, ⟨rfl, rfl⟩, ⟨rfl, rfl⟩, ⟨rfl, rfl⟩, ⟨rfl, rfl⟩⟩ (a2 1 _ _ rfl rfl)
  obtain ⟨x2, rfl, _⟩ := Go.AI.TR2_int Try.underlying3 (a2 2 _ _ rfl rfl)
  have g23 : Go.AI.aggT Try.prog 23 = true := by kernel_rfl
  have g24 : Go.AI.aggT Try.prog 24 = false := by kernel_rfl
  have g3 : Go.AI.aggT Try.prog 3 = false := by kernel_rfl
  simp [Go.AI.pack, g23, g24, g3] at a3 a4
  have hds : ∃ d0 d1 d2, ds = [d0, d1, d2] := by
    exact Go.AI.data_3 hA
  obtain ⟨d0, d1, d2, rfl⟩ := hds
  refine (Go.AI.law_walk (Go.AI.AuditMore_ok Go.AI.R0_ok _ _ _ hl1 hb1 _) a3 a4).mono ?_
  rintro e W' ⟨rfl, hleft⟩
  exact ⟨_, rfl, Go.AI.law_post laid (by rw [hpar]; intro t ht; simp only [List.mem_cons, List.not_mem_nil, or_false] at ht; rcases ht with rfl | rfl | rfl <;> exact ⟨by kernel_rfl, of_decide_eq_true (by kernel_rfl)⟩) rfl (tb := 4) (by kernel_rfl) Try.underlying4 rfl hW' hleft⟩
theorem over : Rows.auditMoreUptoRow.holds Try.pinned (Rows.OpenSpec.upto Rows.auditMoreSpec) :=
  OpenClaim.holds_of_cond 4 Try.f4 rfl rfl rfl rfl rfl rfl rfl ⟨rfl, rfl, rfl, rfl, rfl⟩ rfl rfl rfl rfl rfl (by kernel_rfl) Try.func4 (by kernel_rfl)
    (of_decide_eq_true (by kernel_rfl)) (by unfold Func.isWrapper; first | (rw [if_pos (by decide +kernel)]; kernel_rfl) | (rw [if_neg (by decide +kernel)]; exact ⟨rfl, rfl⟩))
    (fun os started H enc _ F => lifted os started H enc F)
end LAuditMore
theorem auditMoreUpto_holds : Rows.AuditMoreUptoSaid := LAuditMore.over
end Go.Proofs.Ytmdlhohhimdkaaa
