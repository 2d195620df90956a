/- The functions as texts over the abstract heap. -/
import Derived.Test.YtmdlhohhimdkaaaNm
import Derived.KernelRfl
set_option linter.all false
namespace Go.AI
open Go.Proofs
set_option maxRecDepth 1000000
variable {A : Type}
/-- bastion/audit.Lines -/
def p_audit_Lines (S : FuncId → List AVal → AHeap A → (AVal → AHeap A → Prop) → Prop) (G : Nat → AHeap A → List AVal → (List AVal → AHeap A → Prop) → Prop) (a0 a1 : AVal) (h : AHeap A) (K : AVal → AHeap A → Prop) : Prop :=
 boxP t_api_Config 12 a0 h fun v1 h =>
 mkmP h fun v2 h =>
 newP t_audit_lines [.nilm] h fun v3 h =>
 stP 1 v3 v2 h fun h =>
 newP t_bool [.bool false] h fun v4 h =>
 stP 1 v4 (.bool false) h fun h =>
 ldP 12 true v1 h fun v5 =>
 mkfP (.func n_audit_Lines_c1) [] [v3, v4, v1] fun v6 =>
 S n_audit_walk [v5, a1, v6] h fun v7 h =>
 extP v7 0 fun v8 =>
 extP v7 1 fun v9 =>
 newP t_api_State [.int .i64 0, .int .i64 0, .int .i64 0, .nils, .nils, .nils, .nils] h fun v10 h =>
 stP 7 v10 v8 h fun h =>
 S n_audit_bad [v9] h fun v11 h =>
 iteP v11
 (K (.tup [.nils, .int .i64 2500]) h)
 (fadP 4 v10 fun v12 =>
 ldP 1 false v12 h fun v13 =>
 lenP v13 fun v14 =>
 loopP G (fun v57 h k16 =>
 (fun v15 =>
 binP .lss .other v15 v14 fun v17 =>
 iteP v17
 (idxP 4 v13 v15 fun v18 =>
 ldP 4 true v18 h fun v19 =>
 newP t_api_Session [.int .i64 0, .int .i64 0, .int .i64 0, .int .i64 0] h fun v20 h =>
 stP 4 v20 v19 h fun h =>
 ldP 1 false v3 h fun v21 =>
 fadP 1 v20 fun v22 =>
 ldP 1 false v22 h fun v23 =>
 S n_audit_lines_line [v21, v23] h fun v24 h =>
 nilP v24 fun v25 =>
 fadP 5 v25 fun v26 =>
 ldP 1 false v26 h fun v27 =>
 binP .add .other v27 (.int .i64 1) fun v28 =>
 nilP v24 fun v29 =>
 fadP 5 v29 fun v30 =>
 stP 1 v30 v28 h fun h =>
 binP .add .other v15 (.int .i64 1) fun v31 =>
 k16 [v31] h)
 (fadP 3 v10 fun v32 =>
 ldP 1 false v32 h fun v33 =>
 lenP v33 fun v34 =>
 loopP G (fun v56 h k37 =>
 (fun v35 v36 =>
 binP .lss .other v36 v34 fun v38 =>
 iteP v38
 (idxP 9 v33 v36 fun v39 =>
 ldP 9 true v39 h fun v40 =>
 newP t_api_User (reps 9 (.int .i64 0)) h fun v41 h =>
 stP 9 v41 v40 h fun h =>
 ldP 1 false v3 h fun v42 =>
 fadP 0 v41 fun v43 =>
 ldP 1 false v43 h fun v44 =>
 S n_audit_lines_line [v42, v44] h fun v45 h =>
 nilP v45 fun v46 =>
 ldP 7 true v46 h fun v47 =>
 newP t_api_Line [.int .i64 0, .int .i64 0, .int .i64 0, .int .i64 0, .int .i64 0, .int .i64 0, .int .i64 0] h fun v48 h =>
 stP 7 v48 v47 h fun h =>
 fadP 4 v41 fun v49 =>
 ldP 1 false v49 h fun v50 =>
 fadP 6 v48 fun v51 =>
 stP 1 v51 v50 h fun h =>
 ldP 7 true v48 h fun v52 =>
 bslP t_api_Line 1 [.int .i64 0, .int .i64 0, .int .i64 0, .int .i64 0, .int .i64 0, .int .i64 0, .int .i64 0] [(0, 7, v52)] h fun v53 h =>
 appP t_api_Line 7 56 v35 v53 h fun v54 h =>
 binP .add .other v36 (.int .i64 1) fun v55 =>
 k37 [v54, v55] h)
 (K (.tup [v35, .int .i64 0]) h)) (v56.getD 0 .any) (v56.getD 1 .any)) [.nils, .int .i64 0] h)) (v57.getD 0 .any)) [.int .i64 0] h)
theorem q_audit_Lines (S : FuncId → List AVal → AHeap A → (AVal → AHeap A → Prop) → Prop) (G : Nat → AHeap A → List AVal → (List AVal → AHeap A → Prop) → Prop) (a0 a1 : AVal) (h : AHeap A) (K : AVal → AHeap A → Prop) : funP Try.prog S G Try.f9 (.two none .leaf (.two none .leaf (.two none .leaf (.two none .leaf (.two none .leaf (.two none (.two none .leaf (.one [] (.one [29] .leaf))) (.two none .leaf (.two none (.two none .leaf (.one [] (.one [12, 47] .leaf))) .leaf)))))))) [a0, a1] h K = p_audit_Lines S G a0 a1 h K := by kernel_rfl
theorem c_audit_Lines {R : Adts A} {h : AHeap A} {K : AVal → AHeap A → Prop} {a0 a1 : AVal} (hk : p_audit_Lines (Tri Pr R) (Gives Pr R) a0 a1 h K) : Tri Pr R n_audit_Lines [a0, a1] h K :=
  tri_of_funP (by kernel_rfl) (fun _ _ _ _ h => h) (fun _ _ _ _ h => h) Try.func9 (by rw [q_audit_Lines]; exact hk)
/-- bastion/bastionlaw0.Num -/
def p_law0_Num (S : FuncId → List AVal → AHeap A → (AVal → AHeap A → Prop) → Prop) (G : Nat → AHeap A → List AVal → (List AVal → AHeap A → Prop) → Prop) (a0 : AVal) (h : AHeap A) (K : AVal → AHeap A → Prop) : Prop :=
 K a0 h
theorem q_law0_Num (S : FuncId → List AVal → AHeap A → (AVal → AHeap A → Prop) → Prop) (G : Nat → AHeap A → List AVal → (List AVal → AHeap A → Prop) → Prop) (a0 : AVal) (h : AHeap A) (K : AVal → AHeap A → Prop) : funP Try.prog S G Try.f10 .leaf [a0] h K = p_law0_Num S G a0 h K := by kernel_rfl
theorem c_law0_Num {R : Adts A} {h : AHeap A} {K : AVal → AHeap A → Prop} {a0 : AVal} (hk : p_law0_Num (Tri Pr R) (Gives Pr R) a0 h K) : Tri Pr R n_law0_Num [a0] h K :=
  tri_of_funP (by kernel_rfl) (fun _ _ _ _ h => h) (fun _ _ _ _ h => h) Try.func10 (by rw [q_law0_Num]; exact hk)
/-- bastion/audit.Holder -/
def p_audit_Holder (S : FuncId → List AVal → AHeap A → (AVal → AHeap A → Prop) → Prop) (G : Nat → AHeap A → List AVal → (List AVal → AHeap A → Prop) → Prop) (a0 a1 a2 : AVal) (h : AHeap A) (K : AVal → AHeap A → Prop) : Prop :=
 boxP t_api_Config 12 a0 h fun v1 h =>
 ldP 12 true v1 h fun v2 =>
 S n_audit_walk [v2, a2, .fn (.func n_audit_Holder_c1) [] []] h fun v3 h =>
 extP v3 0 fun v4 =>
 extP v3 1 fun v5 =>
 newP t_api_State [.int .i64 0, .int .i64 0, .int .i64 0, .nils, .nils, .nils, .nils] h fun v6 h =>
 stP 7 v6 v4 h fun h =>
 S n_audit_bad [v5] h fun v7 h =>
 condP v7 false (fun k8 =>
 binP .lss .other a1 (.int .i64 0) fun v9 =>
 k8 v9 h)
 (.bool true) h fun v10 h =>
 condP v10 false (fun k11 =>
 fadP 5 v6 fun v12 =>
 ldP 1 false v12 h fun v13 =>
 lenP v13 fun v14 =>
 binP .geq .other a1 v14 fun v15 =>
 k11 v15 h)
 (.bool true) h fun v16 h =>
 iteP v16
 (K (.tup [.int .i64 0, .int .i64 0, .int .i64 2500]) h)
 (fadP 4 v6 fun v17 =>
 ldP 1 false v17 h fun v18 =>
 lenP v18 fun v19 =>
 loopP G (fun v34 h k21 =>
 (fun v20 =>
 binP .lss .other v20 v19 fun v22 =>
 iteP v22
 (idxP 4 v18 v20 fun v23 =>
 ldP 4 true v23 h fun v24 =>
 newP t_api_Session [.int .i64 0, .int .i64 0, .int .i64 0, .int .i64 0] h fun v25 h =>
 stP 4 v25 v24 h fun h =>
 fadP 2 v25 fun v26 =>
 ldP 1 false v26 h fun v27 =>
 binP .eql .other v27 a1 fun v28 =>
 iteP v28
 (fadP 1 v25 fun v29 =>
 fadP 0 v25 fun v30 =>
 ldP 1 false v29 h fun v31 =>
 ldP 1 false v30 h fun v32 =>
 ldV 1 false v29 h = some v31 ∧
 K (.tup [v31, v32, .int .i64 0]) h)
 (binP .add .other v20 (.int .i64 1) fun v33 =>
 k21 [v33] h))
 (K (.tup [.int .i64 (-1), .int .i64 (-1), .int .i64 0]) h)) (v34.getD 0 .any)) [.int .i64 0] h)
theorem q_audit_Holder (S : FuncId → List AVal → AHeap A → (AVal → AHeap A → Prop) → Prop) (G : Nat → AHeap A → List AVal → (List AVal → AHeap A → Prop) → Prop) (a0 a1 a2 : AVal) (h : AHeap A) (K : AVal → AHeap A → Prop) : funP Try.prog S G Try.f11 (.two none .leaf (.two none .leaf (.two none .leaf (.two none (.two none .leaf (.one [] (.one [35] (.two none .leaf (.two none .leaf (.two none (.one [] (.two none .leaf (.two none .leaf (.two none (.two none (.draw none (.take 0 (.take 2 (.load 1 (.take 4 (.alt 3 (.take 5 (.take 6 .stop)) .stop)))))) .leaf) .leaf)))) .leaf)))))) .leaf)))) [a0, a1, a2] h K = p_audit_Holder S G a0 a1 a2 h K := by kernel_rfl
theorem c_audit_Holder {R : Adts A} {h : AHeap A} {K : AVal → AHeap A → Prop} {a0 a1 a2 : AVal} (hk : p_audit_Holder (Tri Pr R) (Gives Pr R) a0 a1 a2 h K) : Tri Pr R n_audit_Holder [a0, a1, a2] h K :=
  tri_of_funP (by kernel_rfl) (fun _ _ _ _ h => h) (fun _ _ _ _ h => h) Try.func11 (by rw [q_audit_Holder]; exact hk)
/-- bastion/audit.Trace -/
def p_audit_Trace (S : FuncId → List AVal → AHeap A → (AVal → AHeap A → Prop) → Prop) (G : Nat → AHeap A → List AVal → (List AVal → AHeap A → Prop) → Prop) (a0 a1 a2 : AVal) (h : AHeap A) (K : AVal → AHeap A → Prop) : Prop :=
 boxP t_api_Config 12 a0 h fun v1 h =>
 boxP t_int 1 a1 h fun v2 h =>
 newP t_sl_api_Event [.nils] h fun v3 h =>
 ldP 12 true v1 h fun v4 =>
 mkfP (.func n_audit_Trace_c1) [] [v2, v3] fun v5 =>
 S n_audit_walk [v4, a2, v5] h fun v6 h =>
 extP v6 0 fun v7 =>
 extP v6 1 fun v8 =>
 newP t_api_State [.int .i64 0, .int .i64 0, .int .i64 0, .nils, .nils, .nils, .nils] h fun v9 h =>
 stP 7 v9 v7 h fun h =>
 S n_audit_bad [v8] h fun v10 h =>
 condP v10 false (fun k11 =>
 ldP 1 false v2 h fun v12 =>
 S n_state_User [v9, v12] h fun v13 h =>
 binP .eql .ptr v13 .nilp fun v14 =>
 k11 v14 h)
 (.bool true) h fun v15 h =>
 iteP v15
 (K (.tup [.nils, .int .i64 2500]) h)
 (ldP 1 false v3 h fun v16 =>
 K (.tup [v16, .int .i64 0]) h)
theorem q_audit_Trace (S : FuncId → List AVal → AHeap A → (AVal → AHeap A → Prop) → Prop) (G : Nat → AHeap A → List AVal → (List AVal → AHeap A → Prop) → Prop) (a0 a1 a2 : AVal) (h : AHeap A) (K : AVal → AHeap A → Prop) : funP Try.prog S G Try.f12 .leaf [a0, a1, a2] h K = p_audit_Trace S G a0 a1 a2 h K := by kernel_rfl
theorem c_audit_Trace {R : Adts A} {h : AHeap A} {K : AVal → AHeap A → Prop} {a0 a1 a2 : AVal} (hk : p_audit_Trace (Tri Pr R) (Gives Pr R) a0 a1 a2 h K) : Tri Pr R n_audit_Trace [a0, a1, a2] h K :=
  tri_of_funP (by kernel_rfl) (fun _ _ _ _ h => h) (fun _ _ _ _ h => h) Try.func12 (by rw [q_audit_Trace]; exact hk)
/-- bastion/bastionlaw25.Plain -/
def p_law25_Plain (S : FuncId → List AVal → AHeap A → (AVal → AHeap A → Prop) → Prop) (G : Nat → AHeap A → List AVal → (List AVal → AHeap A → Prop) → Prop) (h : AHeap A) (K : AVal → AHeap A → Prop) : Prop :=
 newP t_api_Config (reps 12 (.int .i64 0)) h fun v1 h =>
 bldP [.int .i64 0, .int .i64 0, .int .i64 0, .int .i64 0, .int .i64 0, .int .i64 0, .int .i64 0, .int .i64 0, .int .i64 0, .int .i64 0, .int .i64 0, .int .i64 0] [(0, 1, .int .i64 100), (1, 1, .int .i64 2), (2, 1, .int .i64 2), (3, 1, .int .i64 3), (4, 1, .int .i64 2), (5, 1, .int .i64 20), (6, 1, .int .i64 10), (7, 1, .int .i64 15), (8, 1, .int .i64 60), (9, 1, .int .i64 8), (10, 1, .int .i64 50), (11, 1, .int .i64 1)] fun v2 =>
 stP 12 v1 v2 h fun h =>
 ldP 12 true v1 h fun v3 =>
 K v3 h
theorem q_law25_Plain (S : FuncId → List AVal → AHeap A → (AVal → AHeap A → Prop) → Prop) (G : Nat → AHeap A → List AVal → (List AVal → AHeap A → Prop) → Prop) (h : AHeap A) (K : AVal → AHeap A → Prop) : funP Try.prog S G Try.f13 .leaf [] h K = p_law25_Plain S G h K := by kernel_rfl
theorem c_law25_Plain {R : Adts A} {h : AHeap A} {K : AVal → AHeap A → Prop} (hk : p_law25_Plain (Tri Pr R) (Gives Pr R) h K) : Tri Pr R n_law25_Plain [] h K :=
  tri_of_funP (by kernel_rfl) (fun _ _ _ _ h => h) (fun _ _ _ _ h => h) Try.func13 (by rw [q_law25_Plain]; exact hk)
/-- bastion/bastionlaw0.SameLines -/
def p_law0_SameLines (S : FuncId → List AVal → AHeap A → (AVal → AHeap A → Prop) → Prop) (G : Nat → AHeap A → List AVal → (List AVal → AHeap A → Prop) → Prop) (a0 a1 : AVal) (h : AHeap A) (K : AVal → AHeap A → Prop) : Prop :=
 lenP a0 fun v1 =>
 lenP a1 fun v2 =>
 binP .neq .other v1 v2 fun v3 =>
 iteP v3
 (K (.bool false) h)
 (loopP G (fun v14 h k5 =>
 (fun v4 =>
 lenP a0 fun v6 =>
 binP .lss .other v4 v6 fun v7 =>
 iteP v7
 (idxP 7 a0 v4 fun v8 =>
 idxP 7 a1 v4 fun v9 =>
 ldP 7 true v8 h fun v10 =>
 ldP 7 true v9 h fun v11 =>
 ldV 7 true v8 h = some v10 ∧
 binP .neq (.shape (.st [(0, 1, .i), (1, 1, .i), (2, 1, .i), (3, 1, .i), (4, 1, .i), (5, 1, .i), (6, 1, .i)])) v10 v11 fun v12 =>
 iteP v12
 (K (.bool false) h)
 (binP .add .other v4 (.int .i64 1) fun v13 =>
 k5 [v13] h))
 (K (.bool true) h)) (v14.getD 0 .any)) [.int .i64 0] h)
theorem q_law0_SameLines (S : FuncId → List AVal → AHeap A → (AVal → AHeap A → Prop) → Prop) (G : Nat → AHeap A → List AVal → (List AVal → AHeap A → Prop) → Prop) (a0 a1 : AVal) (h : AHeap A) (K : AVal → AHeap A → Prop) : funP Try.prog S G Try.f14 (.two none .leaf (.two none .leaf (.two none (.two none .leaf (.one [] (.one [5] (.two none .leaf (.two none (.one [] (.two none (.draw none (.take 0 (.take 1 (.take 2 (.take 4 (.take 5 (.take 6 (.load 3 (.alt 7 (.take 8 .stop) .stop))))))))) .leaf)) .leaf))))) .leaf))) [a0, a1] h K = p_law0_SameLines S G a0 a1 h K := by kernel_rfl
theorem c_law0_SameLines {R : Adts A} {h : AHeap A} {K : AVal → AHeap A → Prop} {a0 a1 : AVal} (hk : p_law0_SameLines (Tri Pr R) (Gives Pr R) a0 a1 h K) : Tri Pr R n_law0_SameLines [a0, a1] h K :=
  tri_of_funP (by kernel_rfl) (fun _ _ _ _ h => h) (fun _ _ _ _ h => h) Try.func14 (by rw [q_law0_SameLines]; exact hk)
/-- bastion/audit.walk -/
def p_audit_walk (S : FuncId → List AVal → AHeap A → (AVal → AHeap A → Prop) → Prop) (G : Nat → AHeap A → List AVal → (List AVal → AHeap A → Prop) → Prop) (a0 a1 a2 : AVal) (h : AHeap A) (K : AVal → AHeap A → Prop) : Prop :=
 boxP t_api_Config 12 a0 h fun v1 h =>
 newP t_api_State [.int .i64 0, .int .i64 0, .int .i64 0, .nils, .nils, .nils, .nils] h fun v2 h =>
 fadP 3 v1 fun v3 =>
 ldP 1 false v3 h fun v4 =>
 S n_state_New [v4] h fun v5 h =>
 extP v5 0 fun v6 =>
 extP v5 1 fun v7 =>
 newP t_api_State [.int .i64 0, .int .i64 0, .int .i64 0, .nils, .nils, .nils, .nils] h fun v8 h =>
 stP 7 v8 v6 h fun h =>
 binP .neq .other v7 (.int .i64 0) fun v9 =>
 iteP v9
 (bldP [.int .i64 0, .int .i64 0, .int .i64 0, .nils, .nils, .nils, .nils] [] fun v10 =>
 mkiP t_api_Errno v7 fun v11 =>
 bldP [.int .i64 0, .nili] [(0, 1, .int .i64 0), (1, 1, v11)] fun v12 =>
 boxP t_audit_refused 2 v12 h fun v13 h =>
 mkiP t_p_audit_refused v13 fun v14 =>
 stP 7 v2 v10 h fun h =>
 ldP 7 true v2 h fun v15 =>
 K (.tup [v15, v14]) h)
 (lenP a1 fun v16 =>
 loopP G (fun v51 h k18 =>
 (fun v17 =>
 binP .lss .other v17 v16 fun v19 =>
 iteP v19
 (joinP G h.length (fun k20 =>
 idxP 8 a1 v17 fun v21 =>
 ldP 12 true v1 h fun v22 =>
 ldP 7 true v8 h fun v23 =>
 ldP 8 true v21 h fun v24 =>
 (S n_state_Apply [v22, v23, v24] h fun v25 h =>
 extP v25 0 fun v26 =>
 extP v25 1 fun v27 =>
 newP t_api_State [.int .i64 0, .int .i64 0, .int .i64 0, .nils, .nils, .nils, .nils] h fun v28 h =>
 stP 7 v28 v26 h fun h =>
 k20 [v28, v27] h) ∧
 (newP t_api_State [.int .i64 0, .int .i64 0, .int .i64 0, .nils, .nils, .nils, .nils] h fun v29 h =>
 ldV 8 true v21 h = some v24 ∧
 ldV 7 true v8 h = some v23 ∧
 ldV 12 true v1 h = some v22 ∧
 S n_state_Apply [v22, v23, v24] h fun v30 h =>
 extP v30 0 fun v31 =>
 extP v30 1 fun v32 =>
 stP 7 v29 v31 h fun h =>
 k20 [v29, v32] h))
 (fun v48 h =>
 (fun v33 v34 =>
 binP .neq .other v34 (.int .i64 0) fun v35 =>
 iteP v35
 (bldP [.int .i64 0, .int .i64 0, .int .i64 0, .nils, .nils, .nils, .nils] [] fun v36 =>
 mkiP t_api_Errno v34 fun v37 =>
 bldP [.int .i64 0, .nili] [(0, 1, v17), (1, 1, v37)] fun v38 =>
 boxP t_audit_refused 2 v38 h fun v39 h =>
 mkiP t_p_audit_refused v39 fun v40 =>
 stP 7 v2 v36 h fun h =>
 ldP 7 true v2 h fun v41 =>
 K (.tup [v41, v40]) h)
 (idxP 8 a1 v17 fun v42 =>
 bldP [.int .i64 0, .nilp, .nilp, .nilp] [(0, 1, v17), (1, 1, v42), (2, 1, v8), (3, 1, v33)] fun v43 =>
 boxP t_audit_seen 4 v43 h fun v44 h =>
 dynP Pr S a2 [v44] h fun v45 h =>
 ldP 7 true v33 h fun v46 =>
 stP 7 v8 v46 h fun h =>
 binP .add .other v17 (.int .i64 1) fun v47 =>
 k18 [v47] h)) (v48.getD 0 .any) (v48.getD 1 .any)))
 (ldP 7 true v8 h fun v49 =>
 stP 7 v2 v49 h fun h =>
 ldP 7 true v2 h fun v50 =>
 K (.tup [v50, .nili]) h)) (v51.getD 0 .any)) [.int .i64 0] h)
theorem q_audit_walk (S : FuncId → List AVal → AHeap A → (AVal → AHeap A → Prop) → Prop) (G : Nat → AHeap A → List AVal → (List AVal → AHeap A → Prop) → Prop) (a0 a1 a2 : AVal) (h : AHeap A) (K : AVal → AHeap A → Prop) : funP Try.prog S G Try.f15 (.two none .leaf (.two none .leaf (.two none .leaf (.two none (.two none .leaf (.one [] (.one [29] (.two none .leaf (.two none .leaf (.two none (.one [] (.two none .leaf (.two none (.draw (some [11, 12]) (.take 2 (.take 3 (.take 4 (.load 0 (.load 1 (.load 5 (.alt 6 (.take 7 (.take 8 (.take 9 (.alt 10 (.alt 11 (.take 12 .stop) .stop) .stop)))) (.alt 10 (.alt 6 (.take 7 (.take 8 (.take 9 (.alt 11 (.take 12 .stop) .stop)))) .stop) .stop))))))))) .leaf))) .leaf)))))) .leaf)))) [a0, a1, a2] h K = p_audit_walk S G a0 a1 a2 h K := by kernel_rfl
theorem c_audit_walk {R : Adts A} {h : AHeap A} {K : AVal → AHeap A → Prop} {a0 a1 a2 : AVal} (hk : p_audit_walk (Tri Pr R) (Gives Pr R) a0 a1 a2 h K) : Tri Pr R n_audit_walk [a0, a1, a2] h K :=
  tri_of_funP (by kernel_rfl) (fun _ _ _ _ h => h) (fun _ _ _ _ h => h) Try.func15 (by rw [q_audit_walk]; exact hk)
/-- bastion/audit.Lines$1 -/
def p_audit_Lines_c1 (S : FuncId → List AVal → AHeap A → (AVal → AHeap A → Prop) → Prop) (G : Nat → AHeap A → List AVal → (List AVal → AHeap A → Prop) → Prop) (a0 a1 a2 a3 : AVal) (h : AHeap A) (K : AVal → AHeap A → Prop) : Prop :=
 ldP 1 false a1 h fun v1 =>
 ldP 1 false a2 h fun v2 =>
 fadP 4 a3 fun v3 =>
 ldP 1 false v3 h fun v4 =>
 S n_audit_lines_count [v1, a0, v2, v4] h fun v5 h =>
 nilP a0 fun v6 =>
 fadP 1 v6 fun v7 =>
 ldP 1 false v7 h fun v8 =>
 nilP v8 fun v9 =>
 fadP 0 v9 fun v10 =>
 ldP 1 false v10 h fun v11 =>
 binP .eql .other v11 (.int .i64 9) fun v12 =>
 stP 1 a2 v12 h fun h =>
 K (.tup []) h
theorem q_audit_Lines_c1 (S : FuncId → List AVal → AHeap A → (AVal → AHeap A → Prop) → Prop) (G : Nat → AHeap A → List AVal → (List AVal → AHeap A → Prop) → Prop) (a0 a1 a2 a3 : AVal) (h : AHeap A) (K : AVal → AHeap A → Prop) : funP Try.prog S G Try.f16 .leaf [a0, a1, a2, a3] h K = p_audit_Lines_c1 S G a0 a1 a2 a3 h K := by kernel_rfl
theorem c_audit_Lines_c1 {R : Adts A} {h : AHeap A} {K : AVal → AHeap A → Prop} {a0 a1 a2 a3 : AVal} (hk : p_audit_Lines_c1 (Tri Pr R) (Gives Pr R) a0 a1 a2 a3 h K) : Tri Pr R n_audit_Lines_c1 [a0, a1, a2, a3] h K :=
  tri_of_funP (by kernel_rfl) (fun _ _ _ _ h => h) (fun _ _ _ _ h => h) Try.func16 (by rw [q_audit_Lines_c1]; exact hk)
/-- (bastion/audit.lines).count -/
def p_audit_lines_count (S : FuncId → List AVal → AHeap A → (AVal → AHeap A → Prop) → Prop) (G : Nat → AHeap A → List AVal → (List AVal → AHeap A → Prop) → Prop) (a0 a1 a2 a3 : AVal) (h : AHeap A) (K : AVal → AHeap A → Prop) : Prop :=
 nilP a1 fun v1 =>
 fadP 1 v1 fun v2 =>
 ldP 1 false v2 h fun v3 =>
 nilP v3 fun v4 =>
 fadP 0 v4 fun v5 =>
 ldP 1 false v5 h fun v6 =>
 binP .eql .other v6 (.int .i64 3) fun v7 =>
 iteP v7
 (nilP a1 fun v8 =>
 fadP 1 v8 fun v9 =>
 ldP 1 false v9 h fun v10 =>
 nilP v10 fun v11 =>
 fadP 1 v11 fun v12 =>
 ldP 1 false v12 h fun v13 =>
 S n_audit_lines_line [a0, v13] h fun v14 h =>
 nilP v14 fun v15 =>
 fadP 1 v15 fun v16 =>
 ldP 1 false v16 h fun v17 =>
 binP .add .other v17 (.int .i64 1) fun v18 =>
 nilP v14 fun v19 =>
 fadP 1 v19 fun v20 =>
 stP 1 v20 v18 h fun h =>
 K (.tup []) h)
 (binP .eql .other v6 (.int .i64 2) fun v21 =>
 iteP v21
 (nilP a1 fun v22 =>
 fadP 1 v22 fun v23 =>
 ldP 1 false v23 h fun v24 =>
 nilP v24 fun v25 =>
 fadP 1 v25 fun v26 =>
 ldP 1 false v26 h fun v27 =>
 S n_audit_lines_line [a0, v27] h fun v28 h =>
 nilP v28 fun v29 =>
 fadP 3 v29 fun v30 =>
 ldP 1 false v30 h fun v31 =>
 binP .add .other v31 (.int .i64 1) fun v32 =>
 nilP v28 fun v33 =>
 fadP 3 v33 fun v34 =>
 stP 1 v34 v32 h fun h =>
 nilP a1 fun v35 =>
 fadP 3 v35 fun v36 =>
 nilP a1 fun v37 =>
 fadP 1 v37 fun v38 =>
 ldP 1 false v36 h fun v39 =>
 ldP 1 false v38 h fun v40 =>
 ldV 1 false v36 h = some v39 ∧
 nilP v40 fun v41 =>
 fadP 1 v41 fun v42 =>
 ldP 1 false v42 h fun v43 =>
 ldV 1 false v36 h = some v39 ∧
 S n_state_User [v39, v43] h fun v44 h =>
 nilP v44 fun v45 =>
 fadP 5 v45 fun v46 =>
 fadP 0 v46 fun v47 =>
 ldP 1 false v47 h fun v48 =>
 binP .eql .other v48 a3 fun v49 =>
 iteP v49
 (nilP v28 fun v50 =>
 fadP 4 v50 fun v51 =>
 ldP 1 false v51 h fun v52 =>
 binP .add .other v52 (.int .i64 1) fun v53 =>
 nilP v28 fun v54 =>
 fadP 4 v54 fun v55 =>
 stP 1 v55 v53 h fun h =>
 K (.tup []) h)
 (K (.tup []) h))
 (binP .eql .other v6 (.int .i64 5) fun v56 =>
 iteP v56
 (iteP a2
 (nilP a1 fun v57 =>
 fadP 1 v57 fun v58 =>
 ldP 1 false v58 h fun v59 =>
 nilP v59 fun v60 =>
 fadP 1 v60 fun v61 =>
 ldP 1 false v61 h fun v62 =>
 S n_audit_lines_line [a0, v62] h fun v63 h =>
 nilP v63 fun v64 =>
 fadP 2 v64 fun v65 =>
 ldP 1 false v65 h fun v66 =>
 binP .add .other v66 (.int .i64 1) fun v67 =>
 nilP v63 fun v68 =>
 fadP 2 v68 fun v69 =>
 stP 1 v69 v67 h fun h =>
 K (.tup []) h)
 (K (.tup []) h))
 (K (.tup []) h)))
theorem q_audit_lines_count (S : FuncId → List AVal → AHeap A → (AVal → AHeap A → Prop) → Prop) (G : Nat → AHeap A → List AVal → (List AVal → AHeap A → Prop) → Prop) (a0 a1 a2 a3 : AVal) (h : AHeap A) (K : AVal → AHeap A → Prop) : funP Try.prog S G Try.f17 (.two none .leaf (.one [] (.two none .leaf (.two none .leaf (.two none .leaf (.two none (.two none .leaf (.two none .leaf (.two none (.draw none (.take 0 (.take 1 (.take 2 (.take 4 (.take 5 (.take 6 (.take 16 (.load 3 (.alt 7 (.take 8 (.take 9 (.alt 10 (.alt 11 (.take 12 (.take 13 (.take 14 (.alt 15 (.take 17 .stop) .stop)))) .stop) .stop))) .stop)))))))))) .leaf))) .leaf)))))) [a0, a1, a2, a3] h K = p_audit_lines_count S G a0 a1 a2 a3 h K := by kernel_rfl
theorem c_audit_lines_count {R : Adts A} {h : AHeap A} {K : AVal → AHeap A → Prop} {a0 a1 a2 a3 : AVal} (hk : p_audit_lines_count (Tri Pr R) (Gives Pr R) a0 a1 a2 a3 h K) : Tri Pr R n_audit_lines_count [a0, a1, a2, a3] h K :=
  tri_of_funP (by kernel_rfl) (fun _ _ _ _ h => h) (fun _ _ _ _ h => h) Try.func17 (by rw [q_audit_lines_count]; exact hk)
/-- bastion/audit.bad -/
def p_audit_bad (S : FuncId → List AVal → AHeap A → (AVal → AHeap A → Prop) → Prop) (G : Nat → AHeap A → List AVal → (List AVal → AHeap A → Prop) → Prop) (a0 : AVal) (h : AHeap A) (K : AVal → AHeap A → Prop) : Prop :=
 mkiP t_api_Errno (.int .i64 2000) fun v1 =>
 S n_errors_Is [a0, v1] h fun v2 h =>
 condP v2 false (fun k3 =>
 mkiP t_api_Errno (.int .i64 2001) fun v4 =>
 S n_errors_Is [a0, v4] h fun v5 h =>
 k3 v5 h)
 (.bool true) h fun v6 h =>
 K v6 h
theorem q_audit_bad (S : FuncId → List AVal → AHeap A → (AVal → AHeap A → Prop) → Prop) (G : Nat → AHeap A → List AVal → (List AVal → AHeap A → Prop) → Prop) (a0 : AVal) (h : AHeap A) (K : AVal → AHeap A → Prop) : funP Try.prog S G Try.f18 .leaf [a0] h K = p_audit_bad S G a0 h K := by kernel_rfl
theorem c_audit_bad {R : Adts A} {h : AHeap A} {K : AVal → AHeap A → Prop} {a0 : AVal} (hk : p_audit_bad (Tri Pr R) (Gives Pr R) a0 h K) : Tri Pr R n_audit_bad [a0] h K :=
  tri_of_funP (by kernel_rfl) (fun _ _ _ _ h => h) (fun _ _ _ _ h => h) Try.func18 (by rw [q_audit_bad]; exact hk)
/-- (bastion/audit.lines).line -/
def p_audit_lines_line (S : FuncId → List AVal → AHeap A → (AVal → AHeap A → Prop) → Prop) (G : Nat → AHeap A → List AVal → (List AVal → AHeap A → Prop) → Prop) (a0 a1 : AVal) (h : AHeap A) (K : AVal → AHeap A → Prop) : Prop :=
 joinP G h.length (fun k1 =>
 lkP false .nilp false a0 a1 h fun v2 =>
 binP .eql .ptr v2 .nilp fun v3 =>
 iteP v3
 (bldP [.int .i64 0, .int .i64 0, .int .i64 0, .int .i64 0, .int .i64 0, .int .i64 0, .int .i64 0] [(0, 1, a1)] fun v4 =>
 boxP t_api_Line 7 v4 h fun v5 h =>
 mupP false a0 a1 v5 h fun h =>
 k1 [] h)
 (k1 [] h))
 (fun _ h =>
 lkP false .nilp false a0 a1 h fun v6 =>
 K v6 h)
theorem q_audit_lines_line (S : FuncId → List AVal → AHeap A → (AVal → AHeap A → Prop) → Prop) (G : Nat → AHeap A → List AVal → (List AVal → AHeap A → Prop) → Prop) (a0 a1 : AVal) (h : AHeap A) (K : AVal → AHeap A → Prop) : funP Try.prog S G Try.f19 (.two none .leaf (.two (some []) .leaf .leaf)) [a0, a1] h K = p_audit_lines_line S G a0 a1 h K := by kernel_rfl
theorem c_audit_lines_line {R : Adts A} {h : AHeap A} {K : AVal → AHeap A → Prop} {a0 a1 : AVal} (hk : p_audit_lines_line (Tri Pr R) (Gives Pr R) a0 a1 h K) : Tri Pr R n_audit_lines_line [a0, a1] h K :=
  tri_of_funP (by kernel_rfl) (fun _ _ _ _ h => h) (fun _ _ _ _ h => h) Try.func19 (by rw [q_audit_lines_line]; exact hk)
/-- bastion/audit.Holder$1 -/
def p_audit_Holder_c1 (S : FuncId → List AVal → AHeap A → (AVal → AHeap A → Prop) → Prop) (G : Nat → AHeap A → List AVal → (List AVal → AHeap A → Prop) → Prop) (a0 : AVal) (h : AHeap A) (K : AVal → AHeap A → Prop) : Prop :=
 K (.tup []) h
theorem q_audit_Holder_c1 (S : FuncId → List AVal → AHeap A → (AVal → AHeap A → Prop) → Prop) (G : Nat → AHeap A → List AVal → (List AVal → AHeap A → Prop) → Prop) (a0 : AVal) (h : AHeap A) (K : AVal → AHeap A → Prop) : funP Try.prog S G Try.f20 .leaf [a0] h K = p_audit_Holder_c1 S G a0 h K := by kernel_rfl
theorem c_audit_Holder_c1 {R : Adts A} {h : AHeap A} {K : AVal → AHeap A → Prop} {a0 : AVal} (hk : p_audit_Holder_c1 (Tri Pr R) (Gives Pr R) a0 h K) : Tri Pr R n_audit_Holder_c1 [a0] h K :=
  tri_of_funP (by kernel_rfl) (fun _ _ _ _ h => h) (fun _ _ _ _ h => h) Try.func20 (by rw [q_audit_Holder_c1]; exact hk)
/-- bastion/audit.Trace$1 -/
def p_audit_Trace_c1 (S : FuncId → List AVal → AHeap A → (AVal → AHeap A → Prop) → Prop) (G : Nat → AHeap A → List AVal → (List AVal → AHeap A → Prop) → Prop) (a0 a1 a2 : AVal) (h : AHeap A) (K : AVal → AHeap A → Prop) : Prop :=
 ldP 1 false a1 h fun v1 =>
 S n_audit_seen_of [a0] h fun v2 h =>
 ldV 1 false a1 h = some v1 ∧
 binP .eql .other v2 v1 fun v3 =>
 iteP v3
 (nilP a0 fun v4 =>
 fadP 1 v4 fun v5 =>
 ldP 1 false a2 h fun v6 =>
 ldP 1 false v5 h fun v7 =>
 ldV 1 false a2 h = some v6 ∧
 nilP v7 fun v8 =>
 ldP 8 true v8 h fun v9 =>
 ldV 1 false a2 h = some v6 ∧
 bslP t_api_Event 1 [.int .i64 0, .int .i64 0, .int .i64 0, .int .i64 0, .int .i64 0, .int .i64 0, .int .i64 0, .int .i64 0] [(0, 8, v9)] h fun v10 h =>
 ldV 1 false a2 h = some v6 ∧
 appP t_api_Event 8 64 v6 v10 h fun v11 h =>
 stP 1 a2 v11 h fun h =>
 K (.tup []) h)
 (K (.tup []) h)
theorem q_audit_Trace_c1 (S : FuncId → List AVal → AHeap A → (AVal → AHeap A → Prop) → Prop) (G : Nat → AHeap A → List AVal → (List AVal → AHeap A → Prop) → Prop) (a0 a1 a2 : AVal) (h : AHeap A) (K : AVal → AHeap A → Prop) : funP Try.prog S G Try.f21 (.two none (.draw none (.take 0 (.load 2 (.alt 1 (.take 3 .stop) .stop)))) (.two none (.draw none (.take 1 (.take 2 (.take 3 (.load 0 (.alt 4 (.take 5 (.alt 6 (.alt 7 (.alt 8 (.alt 9 .stop .stop) .stop) .stop) .stop)) .stop)))))) .leaf)) [a0, a1, a2] h K = p_audit_Trace_c1 S G a0 a1 a2 h K := by kernel_rfl
theorem c_audit_Trace_c1 {R : Adts A} {h : AHeap A} {K : AVal → AHeap A → Prop} {a0 a1 a2 : AVal} (hk : p_audit_Trace_c1 (Tri Pr R) (Gives Pr R) a0 a1 a2 h K) : Tri Pr R n_audit_Trace_c1 [a0, a1, a2] h K :=
  tri_of_funP (by kernel_rfl) (fun _ _ _ _ h => h) (fun _ _ _ _ h => h) Try.func21 (by rw [q_audit_Trace_c1]; exact hk)
/-- (*bastion/audit.seen).of -/
def p_audit_seen_of (S : FuncId → List AVal → AHeap A → (AVal → AHeap A → Prop) → Prop) (G : Nat → AHeap A → List AVal → (List AVal → AHeap A → Prop) → Prop) (a0 : AVal) (h : AHeap A) (K : AVal → AHeap A → Prop) : Prop :=
 nilP a0 fun v1 =>
 fadP 1 v1 fun v2 =>
 ldP 1 false v2 h fun v3 =>
 nilP v3 fun v4 =>
 fadP 0 v4 fun v5 =>
 ldP 1 false v5 h fun v6 =>
 joinP G h.length (fun k7 =>
 binP .eql .other v6 (.int .i64 6) fun v8 =>
 iteP v8
 (nilP a0 fun v9 =>
 fadP 2 v9 fun v10 =>
 nilP a0 fun v11 =>
 fadP 1 v11 fun v12 =>
 ldP 1 false v10 h fun v13 =>
 ldP 1 false v12 h fun v14 =>
 ldV 1 false v10 h = some v13 ∧
 nilP v14 fun v15 =>
 fadP 2 v15 fun v16 =>
 ldP 1 false v16 h fun v17 =>
 ldV 1 false v10 h = some v13 ∧
 S n_state_Session [v13, v17] h fun v18 h =>
 binP .neq .ptr v18 .nilp fun v19 =>
 iteP v19
 (nilP v18 fun v20 =>
 fadP 1 v20 fun v21 =>
 ldP 1 false v21 h fun v22 =>
 K v22 h)
 (k7 [] h))
 (joinP G h.length (fun k23 =>
 binP .eql .other v6 (.int .i64 0) fun v24 =>
 iteP v24
 (k23 [v24] h)
 (binP .eql .other v6 (.int .i64 8) fun v25 =>
 iteP v25
 (k23 [v25] h)
 (binP .eql .other v6 (.int .i64 9) fun v26 =>
 k23 [v26] h)))
 (fun v34 h =>
 (fun v27 =>
 iteP v27
 (k7 [] h)
 (nilP a0 fun v28 =>
 fadP 1 v28 fun v29 =>
 ldP 1 false v29 h fun v30 =>
 nilP v30 fun v31 =>
 fadP 1 v31 fun v32 =>
 ldP 1 false v32 h fun v33 =>
 K v33 h)) (v34.getD 0 .any))))
 (fun _ h =>
 K (.int .i64 (-1)) h)
theorem q_audit_seen_of (S : FuncId → List AVal → AHeap A → (AVal → AHeap A → Prop) → Prop) (G : Nat → AHeap A → List AVal → (List AVal → AHeap A → Prop) → Prop) (a0 : AVal) (h : AHeap A) (K : AVal → AHeap A → Prop) : funP Try.prog S G Try.f22 (.two none .leaf (.two none (.two none .leaf (.one [] (.two (some []) (.one [] (.two none (.one [] (.two none (.two none .leaf (.two (some [13]) .leaf .leaf)) .leaf)) (.two none (.draw none (.take 0 (.take 1 (.take 2 (.take 4 (.take 5 (.take 6 (.load 3 (.alt 7 (.take 8 (.take 9 (.alt 10 (.alt 11 (.take 12 .stop) .stop) .stop))) .stop))))))))) .leaf))) .leaf))) .leaf)) [a0] h K = p_audit_seen_of S G a0 h K := by kernel_rfl
theorem c_audit_seen_of {R : Adts A} {h : AHeap A} {K : AVal → AHeap A → Prop} {a0 : AVal} (hk : p_audit_seen_of (Tri Pr R) (Gives Pr R) a0 h K) : Tri Pr R n_audit_seen_of [a0] h K :=
  tri_of_funP (by kernel_rfl) (fun _ _ _ _ h => h) (fun _ _ _ _ h => h) Try.func22 (by rw [q_audit_seen_of]; exact hk)
/-- bastion/state.User -/
def p_state_User (S : FuncId → List AVal → AHeap A → (AVal → AHeap A → Prop) → Prop) (G : Nat → AHeap A → List AVal → (List AVal → AHeap A → Prop) → Prop) (a0 a1 : AVal) (h : AHeap A) (K : AVal → AHeap A → Prop) : Prop :=
 boxP t_int 1 a1 h fun v1 h =>
 nilP a0 fun v2 =>
 fadP 3 v2 fun v3 =>
 ldP 1 false v3 h fun v4 =>
 mkfP (.func n_state_User_c1) [] [v1] fun v5 =>
 S n_slices_IndexFunc_api_User [v4, v5] h fun v6 h =>
 binP .lss .other v6 (.int .i64 0) fun v7 =>
 iteP v7
 (K .nilp h)
 (nilP a0 fun v8 =>
 fadP 3 v8 fun v9 =>
 ldP 1 false v9 h fun v10 =>
 idxP 9 v10 v6 fun v11 =>
 K v11 h)
theorem q_state_User (S : FuncId → List AVal → AHeap A → (AVal → AHeap A → Prop) → Prop) (G : Nat → AHeap A → List AVal → (List AVal → AHeap A → Prop) → Prop) (a0 a1 : AVal) (h : AHeap A) (K : AVal → AHeap A → Prop) : funP Try.prog S G Try.f23 .leaf [a0, a1] h K = p_state_User S G a0 a1 h K := by kernel_rfl
theorem c_state_User {R : Adts A} {h : AHeap A} {K : AVal → AHeap A → Prop} {a0 a1 : AVal} (hk : p_state_User (Tri Pr R) (Gives Pr R) a0 a1 h K) : Tri Pr R n_state_User [a0, a1] h K :=
  tri_of_funP (by kernel_rfl) (fun _ _ _ _ h => h) (fun _ _ _ _ h => h) Try.func23 (by rw [q_state_User]; exact hk)
/-- bastion/state.New -/
def p_state_New (S : FuncId → List AVal → AHeap A → (AVal → AHeap A → Prop) → Prop) (G : Nat → AHeap A → List AVal → (List AVal → AHeap A → Prop) → Prop) (a0 : AVal) (h : AHeap A) (K : AVal → AHeap A → Prop) : Prop :=
 newP t_api_State [.int .i64 0, .int .i64 0, .int .i64 0, .nils, .nils, .nils, .nils] h fun v1 h =>
 S n_pool_New [a0] h fun v2 h =>
 extP v2 0 fun v3 =>
 extP v2 1 fun v4 =>
 binP .neq .other v4 (.int .i64 0) fun v5 =>
 iteP v5
 (bldP [.int .i64 0, .int .i64 0, .int .i64 0, .nils, .nils, .nils, .nils] [] fun v6 =>
 stP 7 v1 v6 h fun h =>
 ldP 7 true v1 h fun v7 =>
 K (.tup [v7, .int .i64 2000]) h)
 (bldP [.int .i64 0, .int .i64 0, .int .i64 0, .nils, .nils, .nils, .nils] [(5, 1, v3)] fun v8 =>
 stP 7 v1 v8 h fun h =>
 ldP 7 true v1 h fun v9 =>
 K (.tup [v9, .int .i64 0]) h)
theorem q_state_New (S : FuncId → List AVal → AHeap A → (AVal → AHeap A → Prop) → Prop) (G : Nat → AHeap A → List AVal → (List AVal → AHeap A → Prop) → Prop) (a0 : AVal) (h : AHeap A) (K : AVal → AHeap A → Prop) : funP Try.prog S G Try.f24 .leaf [a0] h K = p_state_New S G a0 h K := by kernel_rfl
theorem c_state_New {R : Adts A} {h : AHeap A} {K : AVal → AHeap A → Prop} {a0 : AVal} (hk : p_state_New (Tri Pr R) (Gives Pr R) a0 h K) : Tri Pr R n_state_New [a0] h K :=
  tri_of_funP (by kernel_rfl) (fun _ _ _ _ h => h) (fun _ _ _ _ h => h) Try.func24 (by rw [q_state_New]; exact hk)
/-- bastion/state.Apply -/
def p_state_Apply (S : FuncId → List AVal → AHeap A → (AVal → AHeap A → Prop) → Prop) (G : Nat → AHeap A → List AVal → (List AVal → AHeap A → Prop) → Prop) (a0 a1 a2 : AVal) (h : AHeap A) (K : AVal → AHeap A → Prop) : Prop :=
 boxP t_api_Config 12 a0 h fun v1 h =>
 boxP t_api_State 7 a1 h fun v2 h =>
 boxP t_api_Event 8 a2 h fun v3 h =>
 newP t_api_State [.int .i64 0, .int .i64 0, .int .i64 0, .nils, .nils, .nils, .nils] h fun v4 h =>
 S n_state_ConfigMay [v1] h fun v5 h =>
 notP v5 fun v6 =>
 condP v6 false (fun k7 =>
 ldP 8 true v3 h fun v8 =>
 S n_event_May [v8] h fun v9 h =>
 notP v9 fun v10 =>
 k7 v10 h)
 (.bool true) h fun v11 h =>
 condP v11 false (fun k12 =>
 fadP 5 v2 fun v13 =>
 ldP 1 false v13 h fun v14 =>
 lenP v14 fun v15 =>
 fadP 3 v1 fun v16 =>
 ldP 1 false v16 h fun v17 =>
 binP .neq .other v15 v17 fun v18 =>
 k12 v18 h)
 (.bool true) h fun v19 h =>
 iteP v19
 (bldP [.int .i64 0, .int .i64 0, .int .i64 0, .nils, .nils, .nils, .nils] [] fun v20 =>
 stP 7 v4 v20 h fun h =>
 ldP 7 true v4 h fun v21 =>
 K (.tup [v21, .int .i64 2000]) h)
 (ldP 7 true v2 h fun v22 =>
 S n_state_Copy [v22] h fun v23 h =>
 bldP [.nilp, .int .i64 0, .int .i64 0, .int .i64 0, .nils, .nils, .nils, .nils, .nilp] [(0, 1, v1), (1, 7, v23), (8, 1, v3)] fun v24 =>
 boxP t_state_turn 9 v24 h fun v25 h =>
 S n_state_turn_does [v25] h fun v26 h =>
 notP v26 fun v27 =>
 iteP v27
 (bldP [.int .i64 0, .int .i64 0, .int .i64 0, .nils, .nils, .nils, .nils] [] fun v28 =>
 stP 7 v4 v28 h fun h =>
 ldP 7 true v4 h fun v29 =>
 K (.tup [v29, .int .i64 2001]) h)
 (nilP v25 fun v30 =>
 fadP 1 v30 fun v31 =>
 ldP 7 true v31 h fun v32 =>
 stP 7 v4 v32 h fun h =>
 ldP 7 true v4 h fun v33 =>
 K (.tup [v33, .int .i64 0]) h))
theorem q_state_Apply (S : FuncId → List AVal → AHeap A → (AVal → AHeap A → Prop) → Prop) (G : Nat → AHeap A → List AVal → (List AVal → AHeap A → Prop) → Prop) (a0 a1 a2 : AVal) (h : AHeap A) (K : AVal → AHeap A → Prop) : funP Try.prog S G Try.f25 .leaf [a0, a1, a2] h K = p_state_Apply S G a0 a1 a2 h K := by kernel_rfl
theorem c_state_Apply {R : Adts A} {h : AHeap A} {K : AVal → AHeap A → Prop} {a0 a1 a2 : AVal} (hk : p_state_Apply (Tri Pr R) (Gives Pr R) a0 a1 a2 h K) : Tri Pr R n_state_Apply [a0, a1, a2] h K :=
  tri_of_funP (by kernel_rfl) (fun _ _ _ _ h => h) (fun _ _ _ _ h => h) Try.func25 (by rw [q_state_Apply]; exact hk)
/-- bastion/state.Session -/
def p_state_Session (S : FuncId → List AVal → AHeap A → (AVal → AHeap A → Prop) → Prop) (G : Nat → AHeap A → List AVal → (List AVal → AHeap A → Prop) → Prop) (a0 a1 : AVal) (h : AHeap A) (K : AVal → AHeap A → Prop) : Prop :=
 boxP t_int 1 a1 h fun v1 h =>
 nilP a0 fun v2 =>
 fadP 4 v2 fun v3 =>
 ldP 1 false v3 h fun v4 =>
 mkfP (.func n_state_Session_c1) [] [v1] fun v5 =>
 S n_slices_IndexFunc_api_Session [v4, v5] h fun v6 h =>
 binP .lss .other v6 (.int .i64 0) fun v7 =>
 iteP v7
 (K .nilp h)
 (nilP a0 fun v8 =>
 fadP 4 v8 fun v9 =>
 ldP 1 false v9 h fun v10 =>
 idxP 4 v10 v6 fun v11 =>
 K v11 h)
theorem q_state_Session (S : FuncId → List AVal → AHeap A → (AVal → AHeap A → Prop) → Prop) (G : Nat → AHeap A → List AVal → (List AVal → AHeap A → Prop) → Prop) (a0 a1 : AVal) (h : AHeap A) (K : AVal → AHeap A → Prop) : funP Try.prog S G Try.f27 .leaf [a0, a1] h K = p_state_Session S G a0 a1 h K := by kernel_rfl
theorem c_state_Session {R : Adts A} {h : AHeap A} {K : AVal → AHeap A → Prop} {a0 a1 : AVal} (hk : p_state_Session (Tri Pr R) (Gives Pr R) a0 a1 h K) : Tri Pr R n_state_Session [a0, a1] h K :=
  tri_of_funP (by kernel_rfl) (fun _ _ _ _ h => h) (fun _ _ _ _ h => h) Try.func27 (by rw [q_state_Session]; exact hk)
/-- slices.IndexFunc[[]bastion/api.User,bastion/api.User] -/
def p_slices_IndexFunc_api_User (S : FuncId → List AVal → AHeap A → (AVal → AHeap A → Prop) → Prop) (G : Nat → AHeap A → List AVal → (List AVal → AHeap A → Prop) → Prop) (a0 a1 : AVal) (h : AHeap A) (K : AVal → AHeap A → Prop) : Prop :=
 lenP a0 fun v1 =>
 loopP G (fun v9 h k3 =>
 (fun v2 =>
 binP .lss .other v2 v1 fun v4 =>
 iteP v4
 (idxP 9 a0 v2 fun v5 =>
 ldP 9 true v5 h fun v6 =>
 dynP Pr S a1 [v6] h fun v7 h =>
 iteP v7
 (K v2 h)
 (binP .add .other v2 (.int .i64 1) fun v8 =>
 k3 [v8] h))
 (K (.int .i64 (-1)) h)) (v9.getD 0 .any)) [.int .i64 0] h
theorem q_slices_IndexFunc_api_User (S : FuncId → List AVal → AHeap A → (AVal → AHeap A → Prop) → Prop) (G : Nat → AHeap A → List AVal → (List AVal → AHeap A → Prop) → Prop) (a0 a1 : AVal) (h : AHeap A) (K : AVal → AHeap A → Prop) : funP Try.prog S G Try.f28 (.two none .leaf (.two none (.two none .leaf (.one [] (.one [8] .leaf))) .leaf)) [a0, a1] h K = p_slices_IndexFunc_api_User S G a0 a1 h K := by kernel_rfl
theorem c_slices_IndexFunc_api_User {R : Adts A} {h : AHeap A} {K : AVal → AHeap A → Prop} {a0 a1 : AVal} (hk : p_slices_IndexFunc_api_User (Tri Pr R) (Gives Pr R) a0 a1 h K) : Tri Pr R n_slices_IndexFunc_api_User [a0, a1] h K :=
  tri_of_funP (by kernel_rfl) (fun _ _ _ _ h => h) (fun _ _ _ _ h => h) Try.func28 (by rw [q_slices_IndexFunc_api_User]; exact hk)
/-- bastion/state.User$1 -/
def p_state_User_c1 (S : FuncId → List AVal → AHeap A → (AVal → AHeap A → Prop) → Prop) (G : Nat → AHeap A → List AVal → (List AVal → AHeap A → Prop) → Prop) (a0 a1 : AVal) (h : AHeap A) (K : AVal → AHeap A → Prop) : Prop :=
 boxP t_api_User 9 a0 h fun v1 h =>
 fadP 0 v1 fun v2 =>
 ldP 1 false v2 h fun v3 =>
 ldP 1 false a1 h fun v4 =>
 binP .eql .other v3 v4 fun v5 =>
 K v5 h
theorem q_state_User_c1 (S : FuncId → List AVal → AHeap A → (AVal → AHeap A → Prop) → Prop) (G : Nat → AHeap A → List AVal → (List AVal → AHeap A → Prop) → Prop) (a0 a1 : AVal) (h : AHeap A) (K : AVal → AHeap A → Prop) : funP Try.prog S G Try.f29 .leaf [a0, a1] h K = p_state_User_c1 S G a0 a1 h K := by kernel_rfl
theorem c_state_User_c1 {R : Adts A} {h : AHeap A} {K : AVal → AHeap A → Prop} {a0 a1 : AVal} (hk : p_state_User_c1 (Tri Pr R) (Gives Pr R) a0 a1 h K) : Tri Pr R n_state_User_c1 [a0, a1] h K :=
  tri_of_funP (by kernel_rfl) (fun _ _ _ _ h => h) (fun _ _ _ _ h => h) Try.func29 (by rw [q_state_User_c1]; exact hk)
/-- bastion/pool.New -/
def p_pool_New (S : FuncId → List AVal → AHeap A → (AVal → AHeap A → Prop) → Prop) (G : Nat → AHeap A → List AVal → (List AVal → AHeap A → Prop) → Prop) (a0 : AVal) (h : AHeap A) (K : AVal → AHeap A → Prop) : Prop :=
 binP .lss .other a0 (.int .i64 1) fun v1 =>
 condP v1 false (fun k2 =>
 binP .gtr .other a0 (.int .i64 16) fun v3 =>
 k2 v3 h)
 (.bool true) h fun v4 h =>
 iteP v4
 (K (.tup [.nils, .int .i64 1600]) h)
 (bldP [.bool false, .int .i64 0, .int .i64 0] [(1, 1, .int .i64 (-1))] fun v5 =>
 bslP t_api_Address 1 [.bool false, .int .i64 0, .int .i64 0] [(0, 3, v5)] h fun v6 h =>
 S n_slices_Repeat_api_Address [v6, a0] h fun v7 h =>
 K (.tup [v7, .int .i64 0]) h)
theorem q_pool_New (S : FuncId → List AVal → AHeap A → (AVal → AHeap A → Prop) → Prop) (G : Nat → AHeap A → List AVal → (List AVal → AHeap A → Prop) → Prop) (a0 : AVal) (h : AHeap A) (K : AVal → AHeap A → Prop) : funP Try.prog S G Try.f30 .leaf [a0] h K = p_pool_New S G a0 h K := by kernel_rfl
theorem c_pool_New {R : Adts A} {h : AHeap A} {K : AVal → AHeap A → Prop} {a0 : AVal} (hk : p_pool_New (Tri Pr R) (Gives Pr R) a0 h K) : Tri Pr R n_pool_New [a0] h K :=
  tri_of_funP (by kernel_rfl) (fun _ _ _ _ h => h) (fun _ _ _ _ h => h) Try.func30 (by rw [q_pool_New]; exact hk)
/-- bastion/state.ConfigMay -/
def p_state_ConfigMay (S : FuncId → List AVal → AHeap A → (AVal → AHeap A → Prop) → Prop) (G : Nat → AHeap A → List AVal → (List AVal → AHeap A → Prop) → Prop) (a0 : AVal) (h : AHeap A) (K : AVal → AHeap A → Prop) : Prop :=
 joinP G h.length (fun k1 =>
 nilP a0 fun v2 =>
 fadP 0 v2 fun v3 =>
 ldP 1 false v3 h fun v4 =>
 S n_state_between [v4, .int .i64 3, .int .i64 256] h fun v5 h =>
 iteP v5
 (nilP a0 fun v6 =>
 fadP 1 v6 fun v7 =>
 ldP 1 false v7 h fun v8 =>
 S n_state_between [v8, .int .i64 1, .int .i64 8] h fun v9 h =>
 iteP v9
 (nilP a0 fun v10 =>
 fadP 2 v10 fun v11 =>
 ldP 1 false v11 h fun v12 =>
 S n_state_between [v12, .int .i64 1, .int .i64 8] h fun v13 h =>
 iteP v13
 (nilP a0 fun v14 =>
 fadP 3 v14 fun v15 =>
 ldP 1 false v15 h fun v16 =>
 S n_state_between [v16, .int .i64 1, .int .i64 16] h fun v17 h =>
 iteP v17
 (nilP a0 fun v18 =>
 fadP 4 v18 fun v19 =>
 ldP 1 false v19 h fun v20 =>
 S n_state_between [v20, .int .i64 1, .int .i64 8] h fun v21 h =>
 iteP v21
 (nilP a0 fun v22 =>
 fadP 11 v22 fun v23 =>
 ldP 1 false v23 h fun v24 =>
 S n_state_between [v24, .int .i64 0, .int .i64 4] h fun v25 h =>
 iteP v25
 (nilP a0 fun v26 =>
 fadP 5 v26 fun v27 =>
 nilP a0 fun v28 =>
 fadP 6 v28 fun v29 =>
 nilP a0 fun v30 =>
 fadP 7 v30 fun v31 =>
 nilP a0 fun v32 =>
 fadP 8 v32 fun v33 =>
 nilP a0 fun v34 =>
 fadP 9 v34 fun v35 =>
 nilP a0 fun v36 =>
 fadP 10 v36 fun v37 =>
 ldP 1 false v27 h fun v38 =>
 ldP 1 false v29 h fun v39 =>
 ldP 1 false v31 h fun v40 =>
 ldP 1 false v33 h fun v41 =>
 ldP 1 false v35 h fun v42 =>
 ldP 1 false v37 h fun v43 =>
 ldV 1 false v35 h = some v42 ∧
 ldV 1 false v33 h = some v41 ∧
 ldV 1 false v31 h = some v40 ∧
 ldV 1 false v29 h = some v39 ∧
 ldV 1 false v27 h = some v38 ∧
 bslP t_int 6 [.int .i64 0, .int .i64 0, .int .i64 0, .int .i64 0, .int .i64 0, .int .i64 0] [(0, 1, v38), (1, 1, v39), (2, 1, v40), (3, 1, v41), (4, 1, v42), (5, 1, v43)] h fun v44 h =>
 S n_state_life [v44] h fun v45 h =>
 k1 [v45] h)
 (k1 [.bool false] h))
 (k1 [.bool false] h))
 (k1 [.bool false] h))
 (k1 [.bool false] h))
 (k1 [.bool false] h))
 (k1 [.bool false] h))
 (fun v47 h =>
 (fun v46 =>
 K v46 h) (v47.getD 0 .any))
theorem q_state_ConfigMay (S : FuncId → List AVal → AHeap A → (AVal → AHeap A → Prop) → Prop) (G : Nat → AHeap A → List AVal → (List AVal → AHeap A → Prop) → Prop) (a0 : AVal) (h : AHeap A) (K : AVal → AHeap A → Prop) : funP Try.prog S G Try.f31 (.two none .leaf (.two none (.draw (some [2]) (.take 0 (.take 1 (.take 2 (.alt 3 (.alt 4 (.take 5 (.split 5 (.take 6 (.take 7 (.take 8 (.alt 9 (.alt 10 (.take 11 (.take 12 (.split 12 (.take 13 (.take 14 (.take 15 (.alt 16 (.alt 17 (.take 18 (.take 19 (.split 19 (.take 20 (.take 21 (.take 22 (.alt 23 (.alt 24 (.take 25 (.take 26 (.split 26 (.take 27 (.take 28 (.take 29 (.alt 30 (.alt 31 (.take 32 (.take 33 (.split 33 (.take 34 (.take 35 (.take 36 (.alt 37 (.alt 38 (.take 39 (.take 40 (.split 40 (.take 41 (.take 42 (.take 43 (.take 45 (.take 46 (.take 47 (.take 49 (.take 50 (.take 51 (.take 53 (.take 54 (.take 55 (.take 57 (.take 58 (.take 59 (.take 61 (.take 62 (.take 63 (.load 44 (.load 48 (.load 52 (.load 56 (.load 60 (.alt 64 (.alt 65 (.alt 66 (.take 67 (.take 68 .stop)) .stop) .stop) .stop)))))))))))))))))))))))) (.skip 41 (.skip 42 (.skip 43 (.skip 44 (.skip 45 (.skip 46 (.skip 47 (.skip 48 (.skip 49 (.skip 50 (.skip 51 (.skip 52 (.skip 53 (.skip 54 (.skip 55 (.skip 56 (.skip 57 (.skip 58 (.skip 59 (.skip 60 (.skip 61 (.skip 62 (.skip 63 (.skip 64 (.skip 65 (.skip 66 (.take 67 (.take 68 .stop))))))))))))))))))))))))))))))) .stop) .stop)))) (.skip 34 (.skip 35 (.skip 36 (.skip 37 (.skip 38 (.take 39 (.take 40 (.known 40 false (.skip 41 (.skip 42 (.skip 43 (.skip 44 (.skip 45 (.skip 46 (.skip 47 (.skip 48 (.skip 49 (.skip 50 (.skip 51 (.skip 52 (.skip 53 (.skip 54 (.skip 55 (.skip 56 (.skip 57 (.skip 58 (.skip 59 (.skip 60 (.skip 61 (.skip 62 (.skip 63 (.skip 64 (.skip 65 (.skip 66 (.take 67 (.take 68 .stop))))))))))))))))))))))))))))))))))))))) .stop) .stop)))) (.skip 27 (.skip 28 (.skip 29 (.skip 30 (.skip 31 (.take 32 (.take 33 (.known 33 false (.skip 34 (.skip 35 (.skip 36 (.skip 37 (.skip 38 (.take 39 (.take 40 (.known 40 false (.skip 41 (.skip 42 (.skip 43 (.skip 44 (.skip 45 (.skip 46 (.skip 47 (.skip 48 (.skip 49 (.skip 50 (.skip 51 (.skip 52 (.skip 53 (.skip 54 (.skip 55 (.skip 56 (.skip 57 (.skip 58 (.skip 59 (.skip 60 (.skip 61 (.skip 62 (.skip 63 (.skip 64 (.skip 65 (.skip 66 (.take 67 (.take 68 .stop))))))))))))))))))))))))))))))))))))))))))))))) .stop) .stop)))) (.skip 20 (.skip 21 (.skip 22 (.skip 23 (.skip 24 (.take 25 (.take 26 (.known 26 false (.skip 27 (.skip 28 (.skip 29 (.skip 30 (.skip 31 (.take 32 (.take 33 (.known 33 false (.skip 34 (.skip 35 (.skip 36 (.skip 37 (.skip 38 (.take 39 (.take 40 (.known 40 false (.skip 41 (.skip 42 (.skip 43 (.skip 44 (.skip 45 (.skip 46 (.skip 47 (.skip 48 (.skip 49 (.skip 50 (.skip 51 (.skip 52 (.skip 53 (.skip 54 (.skip 55 (.skip 56 (.skip 57 (.skip 58 (.skip 59 (.skip 60 (.skip 61 (.skip 62 (.skip 63 (.skip 64 (.skip 65 (.skip 66 (.take 67 (.take 68 .stop))))))))))))))))))))))))))))))))))))))))))))))))))))))) .stop) .stop)))) (.skip 13 (.skip 14 (.skip 15 (.skip 16 (.skip 17 (.take 18 (.take 19 (.known 19 false (.skip 20 (.skip 21 (.skip 22 (.skip 23 (.skip 24 (.take 25 (.take 26 (.known 26 false (.skip 27 (.skip 28 (.skip 29 (.skip 30 (.skip 31 (.take 32 (.take 33 (.known 33 false (.skip 34 (.skip 35 (.skip 36 (.skip 37 (.skip 38 (.take 39 (.take 40 (.known 40 false (.skip 41 (.skip 42 (.skip 43 (.skip 44 (.skip 45 (.skip 46 (.skip 47 (.skip 48 (.skip 49 (.skip 50 (.skip 51 (.skip 52 (.skip 53 (.skip 54 (.skip 55 (.skip 56 (.skip 57 (.skip 58 (.skip 59 (.skip 60 (.skip 61 (.skip 62 (.skip 63 (.skip 64 (.skip 65 (.skip 66 (.take 67 (.take 68 .stop))))))))))))))))))))))))))))))))))))))))))))))))))))))))))))))) .stop) .stop)))) (.skip 6 (.skip 7 (.skip 8 (.skip 9 (.skip 10 (.take 11 (.take 12 (.known 12 false (.skip 13 (.skip 14 (.skip 15 (.skip 16 (.skip 17 (.take 18 (.take 19 (.known 19 false (.skip 20 (.skip 21 (.skip 22 (.skip 23 (.skip 24 (.take 25 (.take 26 (.known 26 false (.skip 27 (.skip 28 (.skip 29 (.skip 30 (.skip 31 (.take 32 (.take 33 (.known 33 false (.skip 34 (.skip 35 (.skip 36 (.skip 37 (.skip 38 (.take 39 (.take 40 (.known 40 false (.skip 41 (.skip 42 (.skip 43 (.skip 44 (.skip 45 (.skip 46 (.skip 47 (.skip 48 (.skip 49 (.skip 50 (.skip 51 (.skip 52 (.skip 53 (.skip 54 (.skip 55 (.skip 56 (.skip 57 (.skip 58 (.skip 59 (.skip 60 (.skip 61 (.skip 62 (.skip 63 (.skip 64 (.skip 65 (.skip 66 (.take 67 (.take 68 .stop)))))))))))))))))))))))))))))))))))))))))))))))))))))))))))))))))))))) .stop) .stop))))) .leaf)) [a0] h K = p_state_ConfigMay S G a0 h K := by kernel_rfl
theorem c_state_ConfigMay {R : Adts A} {h : AHeap A} {K : AVal → AHeap A → Prop} {a0 : AVal} (hk : p_state_ConfigMay (Tri Pr R) (Gives Pr R) a0 h K) : Tri Pr R n_state_ConfigMay [a0] h K :=
  tri_of_funP (by kernel_rfl) (fun _ _ _ _ h => h) (fun _ _ _ _ h => h) Try.func31 (by rw [q_state_ConfigMay]; exact hk)
/-- bastion/event.May -/
def p_event_May (S : FuncId → List AVal → AHeap A → (AVal → AHeap A → Prop) → Prop) (G : Nat → AHeap A → List AVal → (List AVal → AHeap A → Prop) → Prop) (a0 : AVal) (h : AHeap A) (K : AVal → AHeap A → Prop) : Prop :=
 boxP t_api_Event 8 a0 h fun v1 h =>
 fadP 0 v1 fun v2 =>
 ldP 1 false v2 h fun v3 =>
 binP .lss .other v3 (.int .i64 0) fun v4 =>
 condP v4 false (fun k5 =>
 fadP 0 v1 fun v6 =>
 ldP 1 false v6 h fun v7 =>
 binP .gtr .other v7 (.int .i64 9) fun v8 =>
 k5 v8 h)
 (.bool true) h fun v9 h =>
 condP v9 false (fun k10 =>
 fadP 0 v1 fun v11 =>
 ldP 1 false v11 h fun v12 =>
 binP .eql .other v12 (.int .i64 6) fun v13 =>
 condP v13 true (fun k14 =>
 fadP 5 v1 fun v15 =>
 ldP 1 false v15 h fun v16 =>
 binP .gtr .other v16 (.int .i64 4) fun v17 =>
 k14 v17 h)
 (.bool false) h fun v18 h =>
 k10 v18 h)
 (.bool true) h fun v19 h =>
 iteP v19
 (K (.bool false) h)
 (S n_event_parts [v1] h fun v20 h =>
 lenP v20 fun v21 =>
 loopP G (fun v50 h k23 =>
 (fun v22 =>
 binP .lss .other v22 v21 fun v24 =>
 iteP v24
 (idxP 1 v20 v22 fun v25 =>
 ldP 1 false v25 h fun v26 =>
 nilP v26 fun v27 =>
 ldP 1 false v27 h fun v28 =>
 S n_field_NumMay [v28] h fun v29 h =>
 notP v29 fun v30 =>
 iteP v30
 (K (.bool false) h)
 (binP .add .other v22 (.int .i64 1) fun v31 =>
 k23 [v31] h))
 (joinP G h.length (fun k32 =>
 fadP 1 v1 fun v33 =>
 ldP 1 false v33 h fun v34 =>
 binP .lss .other v34 (.int .i64 8) fun v35 =>
 iteP v35
 (fadP 3 v1 fun v36 =>
 ldP 1 false v36 h fun v37 =>
 binP .lss .other v37 (.int .i64 16) fun v38 =>
 iteP v38
 (fadP 7 v1 fun v39 =>
 ldP 1 false v39 h fun v40 =>
 binP .leq .other v40 (.int .i64 1048575) fun v41 =>
 iteP v41
 (fadP 6 v1 fun v42 =>
 ldP 1 false v42 h fun v43 =>
 binP .leq .other v43 (.int .i64 1048576) fun v44 =>
 iteP v44
 (ldP 8 true v1 h fun v45 =>
 S n_event_plain [v1] h fun v46 h =>
 ldV 8 true v1 h = some v45 ∧
 binP .eql (.shape (.st [(0, 1, .i), (1, 1, .i), (2, 1, .i), (3, 1, .i), (4, 1, .i), (5, 1, .i), (6, 1, .i), (7, 1, .i)])) v45 v46 fun v47 =>
 k32 [v47] h)
 (k32 [.bool false] h))
 (k32 [.bool false] h))
 (k32 [.bool false] h))
 (k32 [.bool false] h))
 (fun v49 h =>
 (fun v48 =>
 K v48 h) (v49.getD 0 .any)))) (v50.getD 0 .any)) [.int .i64 0] h)
theorem q_event_May (S : FuncId → List AVal → AHeap A → (AVal → AHeap A → Prop) → Prop) (G : Nat → AHeap A → List AVal → (List AVal → AHeap A → Prop) → Prop) (a0 : AVal) (h : AHeap A) (K : AVal → AHeap A → Prop) : funP Try.prog S G Try.f32 (.two none .leaf (.two none .leaf (.two none (.two none .leaf (.one [] (.one [25] .leaf))) (.two none (.draw (some [2]) (.take 0 (.alt 1 (.take 2 (.take 3 (.split 3 (.take 4 (.alt 5 (.take 6 (.take 7 (.take 8 (.split 8 (.take 9 (.alt 10 (.take 11 (.take 12 (.take 13 (.split 13 (.take 14 (.alt 15 (.take 16 (.take 17 (.take 18 (.split 18 (.load 19 (.alt 20 (.take 21 (.take 22 (.take 23 .stop))) .stop)) (.skip 19 (.skip 20 (.skip 21 (.take 22 (.take 23 .stop))))))))) .stop)) (.skip 14 (.skip 15 (.skip 16 (.take 17 (.take 18 (.known 18 false (.skip 19 (.skip 20 (.skip 21 (.take 22 (.take 23 .stop))))))))))))))) .stop)) (.skip 9 (.skip 10 (.skip 11 (.take 12 (.take 13 (.known 13 false (.skip 14 (.skip 15 (.skip 16 (.take 17 (.take 18 (.known 18 false (.skip 19 (.skip 20 (.skip 21 (.take 22 (.take 23 .stop))))))))))))))))))))) .stop)) (.skip 4 (.skip 5 (.skip 6 (.take 7 (.take 8 (.known 8 false (.skip 9 (.skip 10 (.skip 11 (.take 12 (.take 13 (.known 13 false (.skip 14 (.skip 15 (.skip 16 (.take 17 (.take 18 (.known 18 false (.skip 19 (.skip 20 (.skip 21 (.take 22 (.take 23 .stop)))))))))))))))))))))))))) .stop))) .leaf)))) [a0] h K = p_event_May S G a0 h K := by kernel_rfl
theorem c_event_May {R : Adts A} {h : AHeap A} {K : AVal → AHeap A → Prop} {a0 : AVal} (hk : p_event_May (Tri Pr R) (Gives Pr R) a0 h K) : Tri Pr R n_event_May [a0] h K :=
  tri_of_funP (by kernel_rfl) (fun _ _ _ _ h => h) (fun _ _ _ _ h => h) Try.func32 (by rw [q_event_May]; exact hk)
/-- bastion/state.Copy -/
def p_state_Copy (S : FuncId → List AVal → AHeap A → (AVal → AHeap A → Prop) → Prop) (G : Nat → AHeap A → List AVal → (List AVal → AHeap A → Prop) → Prop) (a0 : AVal) (h : AHeap A) (K : AVal → AHeap A → Prop) : Prop :=
 boxP t_api_State 7 a0 h fun v1 h =>
 newP t_api_State [.int .i64 0, .int .i64 0, .int .i64 0, .nils, .nils, .nils, .nils] h fun v2 h =>
 fadP 3 v1 fun v3 =>
 fadP 4 v1 fun v4 =>
 ldP 1 false v4 h fun v5 =>
 ldP 1 false v3 h fun v6 =>
 ldV 1 false v4 h = some v5 ∧
 S n_slices_Clone_api_User [v6] h fun v7 h =>
 ldV 1 false v4 h = some v5 ∧
 fadP 3 v1 fun v8 =>
 S n_slices_Clone_api_Session [v5] h fun v9 h =>
 stP 1 v8 v7 h fun h =>
 fadP 4 v1 fun v10 =>
 stP 1 v10 v9 h fun h =>
 fadP 5 v1 fun v11 =>
 fadP 6 v1 fun v12 =>
 ldP 1 false v12 h fun v13 =>
 ldP 1 false v11 h fun v14 =>
 ldV 1 false v12 h = some v13 ∧
 S n_slices_Clone_api_Address [v14] h fun v15 h =>
 ldV 1 false v12 h = some v13 ∧
 fadP 5 v1 fun v16 =>
 S n_slices_Clone_int [v13] h fun v17 h =>
 stP 1 v16 v15 h fun h =>
 fadP 6 v1 fun v18 =>
 stP 1 v18 v17 h fun h =>
 ldP 7 true v1 h fun v19 =>
 stP 7 v2 v19 h fun h =>
 ldP 7 true v2 h fun v20 =>
 K v20 h
theorem q_state_Copy (S : FuncId → List AVal → AHeap A → (AVal → AHeap A → Prop) → Prop) (G : Nat → AHeap A → List AVal → (List AVal → AHeap A → Prop) → Prop) (a0 : AVal) (h : AHeap A) (K : AVal → AHeap A → Prop) : funP Try.prog S G Try.f33 (.two none .leaf (.two none (.draw none (.take 0 (.take 3 (.load 4 (.alt 1 (.alt 2 (.take 6 (.alt 5 (.alt 7 (.take 8 (.alt 9 .stop .stop)) .stop) .stop)) .stop) .stop))))) (.two none (.draw none (.take 0 (.take 3 (.load 4 (.alt 1 (.alt 2 (.take 6 (.alt 5 (.alt 7 (.take 8 (.alt 9 .stop .stop)) .stop) .stop)) .stop) .stop))))) .leaf))) [a0] h K = p_state_Copy S G a0 h K := by kernel_rfl
theorem c_state_Copy {R : Adts A} {h : AHeap A} {K : AVal → AHeap A → Prop} {a0 : AVal} (hk : p_state_Copy (Tri Pr R) (Gives Pr R) a0 h K) : Tri Pr R n_state_Copy [a0] h K :=
  tri_of_funP (by kernel_rfl) (fun _ _ _ _ h => h) (fun _ _ _ _ h => h) Try.func33 (by rw [q_state_Copy]; exact hk)
end Go.AI
