/-
  What is proved: for every input, the statement's function returns true and leaves its arguments as they were. No condition.
-/
import Derived.Test.YtmdlhohhimdkaaaGreatRows
import Derived.Test.YtmdlhohhimdkaaaGreatAiT
import Derived.WalkKit
import Derived.ProofKit
import Derived.SizedLaws
import Derived.Deep.CondSized
import Derived.Test.YtmdlhohhimdkaaaGreatMeAudits
set_option linter.all false
namespace Go.Proofs.YtmdlhohhimdkaaaGreat
open Go.ChangeShapes Go.WideShapes Go.ChangeAt Go.RowKit
namespace LAudits
theorem own : ownKnob Tryz.prog.godebug = none := by kernel_rfl
theorem laid : laidOutB Tryz.prog = true := by kernel_rfl
theorem bulk_one {H : Type} (d : DataW H) : 1 ≤ Rows.uptoBulk d := by
  cases d with
  | lit l => cases l <;> simp [Rows.uptoBulk]
  | _ => simp [Rows.uptoBulk]
theorem bulk_all {H : Type} : ∀ l : List (DataW H), l.length ≤ Rows.uptoBulkAll l ∧ ∀ d ∈ l, Rows.uptoBulk d ≤ Rows.uptoBulkAll l
  | [] => by simp
  | x :: r => by
    obtain ⟨h1, h2⟩ := bulk_all r
    have h3 := bulk_one x
    simp only [Rows.uptoBulkAll, List.length_cons]
    refine ⟨by omega, fun d hd => ?_⟩
    rcases List.mem_cons.1 hd with rfl | hd
    · omega
    · have := h2 d hd; omega
theorem bulk_slice {H : Type} (es rest : List (DataW H)) (h : Rows.uptoBulk (.slice es rest) ≤ 1048576) : es.length ≤ 1048576 ∧ ∀ d ∈ es, Rows.uptoBulk d ≤ 1048576 := by
  simp only [Rows.uptoBulk] at h
  obtain ⟨h1, h2⟩ := bulk_all es
  exact ⟨by omega, fun d hd => by have := h2 d hd; omega⟩
theorem bulk_agg {H : Type} (ps : List (DataW H)) (h : Rows.uptoBulk (.agg ps) ≤ 1048576) : ∀ d ∈ ps, Rows.uptoBulk d ≤ 1048576 := by
  simp only [Rows.uptoBulk] at h
  obtain ⟨h1, h2⟩ := bulk_all ps
  exact fun d hd => by have := h2 d hd; omega
set_option maxRecDepth 100000 in
theorem lifted (os : Os) (started : os.Started) (H : Type) (enc : TypeId × Value → H) (F : Stop.Interp) :
    ReturnsInHanded {} Tryz.checked os 3 .any ((Rows.OpenSpec.upto Rows.auditsSpec).pre6 enc Tryz.prog Tryz.f3 Rows.auditsUptoRow.domain false) (((Rows.OpenSpec.upto Rows.auditsSpec).at F).post enc Tryz.prog Tryz.f3 false true false false) := by
  refine returnsInHanded_of_cond_sized (C := Tryz.checked) (s := (Rows.OpenSpec.upto Rows.auditsSpec)) (k := Rows.uptoSmall) rfl own started (by kernel_rfl) Tryz.func3
    (OpenSpec.witness (enc := enc) (C := Tryz.checked) (s := (Rows.OpenSpec.upto Rows.auditsSpec)) (k := Rows.uptoSmall) rfl false ⟨#[], #[.agg #[.int .i64 0, .int .i64 0, .int .i64 0, .int .i64 0, .int .i64 0, .int .i64 0, .int .i64 0, .int .i64 0, .int .i64 0, .int .i64 0, .int .i64 0, .int .i64 0], .slice none 0 0, .int .i64 0, .int .i64 0], []⟩ 8 (by kernel_rfl) (by kernel_rfl) (by kernel_rfl)
      (x := ([.agg [.lit (.int .i64 0), .lit (.int .i64 0), .lit (.int .i64 0), .lit (.int .i64 0), .lit (.int .i64 0), .lit (.int .i64 0), .lit (.int .i64 0), .lit (.int .i64 0), .lit (.int .i64 0), .lit (.int .i64 0), .lit (.int .i64 0), .lit (.int .i64 0)], .nil, .lit (.int .i64 0), .lit (.int .i64 0)], [], [])) (by kernel_rfl) rfl (by kernel_rfl)) ?_
  intro W base args ds gs before hval0 hW hcnd hk hwt _
  have hval : ∀ (j : Nat) t v, Tryz.f3.params[j]? = some t → args[j]? = some v → Value.okWide Tryz.prog W .any base t v := hval0
  have hW' := hW
  obtain ⟨p, q, hA0, hV, rfl, hfz, hnd⟩ := hW
  have hA : DataW.TrodAll enc Tryz.prog W 0 (fun _ => true) true Tryz.f3.params.toList args.toList ds p := hA0
  obtain ⟨rfl, rfl⟩ := trodVars_none hV
  have hpar : Tryz.f3.params.toList = [23, 24, 3, 3] := by kernel_rfl
  have hkb : Rows.uptoBulkAll (ds ++ []) ≤ 1048576 := of_decide_eq_true hk
  obtain ⟨ass, a1, a2, a3, a4⟩ := Go.AI.args_TR2 (B := 1048576) (Q := fun d => Rows.uptoBulk d ≤ 1048576) bulk_slice bulk_agg (base := base) hA (by rw [hpar]; intro t ht; simp only [List.mem_cons, List.not_mem_nil, or_false] at ht; rcases ht with rfl | rfl | rfl | rfl <;> kernel_rfl) (fun j t v h1 h2 => hval j t v (by simpa using h1) (by simpa using h2)) hwt (fun d hd => by have := (bulk_all (ds ++ [])).2 d (by simpa using hd); omega)
  rw [hpar] at a1 a2 a3 a4 hA
  obtain ⟨as0, as1, as2, as3, rfl⟩ := Go.AI.len_4 a1
  obtain ⟨x0, rfl⟩ := Go.AI.cfg25_TR2 Tryz.underlying23 Tryz.underlying3 (by kernel_rfl) (by kernel_rfl) ⟨⟨rfl, rfl⟩, ⟨rfl, rfl⟩, ⟨rfl, rfl⟩, ⟨rfl, rfl⟩, ⟨rfl, rfl⟩, ⟨rfl, rfl⟩, ⟨rfl, rfl⟩, ⟨rfl, rfl⟩, ⟨rfl, rfl⟩, ⟨rfl, rfl⟩, ⟨rfl, rfl⟩, ⟨rfl, rfl⟩⟩ (a2 0 _ _ rfl rfl)
  obtain ⟨b1, l1, rfl, hl1, hb1⟩ := Go.AI.evs25_TR2 Tryz.underlying24 Tryz.underlying48 Tryz.underlying3 (by kernel_rfl) (by kernel_rfl) ⟨⟨rfl, rfl⟩, ⟨rfl, rfl⟩, ⟨rfl, rfl⟩, ⟨rfl, rfl⟩, ⟨rfl, rfl⟩, ⟨rfl, rfl⟩, ⟨rfl, rfl⟩, ⟨rfl, rfl⟩⟩ (a2 1 _ _ rfl rfl)
  obtain ⟨x2, rfl, _⟩ := Go.AI.TR2_int Tryz.underlying3 (a2 2 _ _ rfl rfl)
  obtain ⟨x3, rfl, _⟩ := Go.AI.TR2_int Tryz.underlying3 (a2 3 _ _ rfl rfl)
  have g23 : Go.AI.aggT Tryz.prog 23 = true := by kernel_rfl
  have g24 : Go.AI.aggT Tryz.prog 24 = false := by kernel_rfl
  have g3 : Go.AI.aggT Tryz.prog 3 = false := by kernel_rfl
  simp [Go.AI.pack, g23, g24, g3] at a3 a4
  have hds : ∃ d0 d1 d2 d3, ds = [d0, d1, d2, d3] := by
    exact Go.AI.data_4 hA
  obtain ⟨d0, d1, d2, d3, rfl⟩ := hds
  refine (Go.AI.law_walk (Go.AI.Audits_ok Go.AI.R0_ok _ _ _ _ _ hl1 hb1) a3 a4).mono ?_
  rintro e W' ⟨rfl, hleft⟩
  exact ⟨_, rfl, Go.AI.law_post laid (by rw [hpar]; intro t ht; simp only [List.mem_cons, List.not_mem_nil, or_false] at ht; rcases ht with rfl | rfl | rfl | rfl <;> exact ⟨by kernel_rfl, of_decide_eq_true (by kernel_rfl)⟩) rfl (tb := 4) (by kernel_rfl) Tryz.underlying4 rfl hW' hleft⟩
theorem over : Rows.auditsUptoRow.holds Tryz.pinned (Rows.OpenSpec.upto Rows.auditsSpec) :=
  OpenClaim.holds_of_cond 3 Tryz.f3 rfl rfl rfl rfl rfl rfl rfl ⟨rfl, rfl, rfl, rfl, rfl⟩ rfl rfl rfl rfl rfl (by kernel_rfl) Tryz.func3 (by kernel_rfl)
    (of_decide_eq_true (by kernel_rfl)) (by unfold Func.isWrapper; first | (rw [if_pos (by decide +kernel)]; kernel_rfl) | (rw [if_neg (by decide +kernel)]; exact ⟨rfl, rfl⟩))
    (fun os started H enc _ F => lifted os started H enc F)
end LAudits
theorem auditsUpto_holds : Rows.AuditsUptoSaid := LAudits.over
end Go.Proofs.YtmdlhohhimdkaaaGreat
