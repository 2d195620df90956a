/- The functions as texts over the abstract heap. -/
import Derived.Test.YtmdlhohhimdkaaaGreatNm
import Derived.KernelRfl
set_option linter.all false
namespace Go.AI
open Go.Proofs
set_option maxRecDepth 1000000
variable {A : Type}
/-- bastion/bastionlaw25.Audits -/
def p_law25_Audits (S : FuncId → List AVal → AHeap A → (AVal → AHeap A → Prop) → Prop) (G : Nat → AHeap A → List AVal → (List AVal → AHeap A → Prop) → Prop) (a0 a1 a2 a3 : AVal) (h : AHeap A) (K : AVal → AHeap A → Prop) : Prop :=
 boxP t_api_Config 12 a0 h fun v1 h =>
 S n_law0_LendEvents [a1] h fun v2 h =>
 ldP 12 true v1 h fun v3 =>
 S n_audit_Lines [v3, v2] h fun v4 h =>
 extP v4 0 fun v5 =>
 extP v4 1 fun v6 =>
 ldP 12 true v1 h fun v7 =>
 S n_ref20_Lines [v7, a1] h fun v8 h =>
 extP v8 0 fun v9 =>
 extP v8 1 fun v10 =>
 ldP 12 true v1 h fun v11 =>
 S n_audit_Trace [v11, a2, v2] h fun v12 h =>
 extP v12 0 fun v13 =>
 extP v12 1 fun v14 =>
 ldP 12 true v1 h fun v15 =>
 S n_ref20_Trace [v15, a2, a1] h fun v16 h =>
 extP v16 0 fun v17 =>
 extP v16 1 fun v18 =>
 ldP 12 true v1 h fun v19 =>
 S n_audit_Holder [v19, a3, v2] h fun v20 h =>
 extP v20 0 fun v21 =>
 extP v20 1 fun v22 =>
 extP v20 2 fun v23 =>
 ldP 12 true v1 h fun v24 =>
 S n_ref20_Holder [v24, a3, a1] h fun v25 h =>
 extP v25 0 fun v26 =>
 extP v25 1 fun v27 =>
 extP v25 2 fun v28 =>
 S n_law0_SameLines [v5, v9] h fun v29 h =>
 notP v29 fun v30 =>
 condP v30 false (fun k31 =>
 S n_law0_Num [v6] h fun v32 h =>
 binP .neq .other v32 v10 fun v33 =>
 k31 v33 h)
 (.bool true) h fun v34 h =>
 condP v34 false (fun k35 =>
 S n_law0_SameEvents [v13, v17] h fun v36 h =>
 notP v36 fun v37 =>
 k35 v37 h)
 (.bool true) h fun v38 h =>
 condP v38 false (fun k39 =>
 S n_law0_Num [v14] h fun v40 h =>
 binP .neq .other v40 v18 fun v41 =>
 k39 v41 h)
 (.bool true) h fun v42 h =>
 condP v42 false (fun k43 =>
 binP .neq .other v21 v26 fun v44 =>
 k43 v44 h)
 (.bool true) h fun v45 h =>
 condP v45 false (fun k46 =>
 binP .neq .other v22 v27 fun v47 =>
 k46 v47 h)
 (.bool true) h fun v48 h =>
 condP v48 false (fun k49 =>
 S n_law0_Num [v23] h fun v50 h =>
 binP .neq .other v50 v28 fun v51 =>
 k49 v51 h)
 (.bool true) h fun v52 h =>
 iteP v52
 (K (.bool false) h)
 (S n_law0_SpoilLines [v5] h fun v53 h =>
 S n_law0_SpoilEvents [v13] h fun v54 h =>
 S n_law0_KeptEvents [v2, a1] h fun v55 h =>
 condP v55 true (fun k56 =>
 S n_law25_awake [] h fun v57 h =>
 k56 v57 h)
 (.bool false) h fun v58 h =>
 K v58 h)
theorem q_law25_Audits (S : FuncId → List AVal → AHeap A → (AVal → AHeap A → Prop) → Prop) (G : Nat → AHeap A → List AVal → (List AVal → AHeap A → Prop) → Prop) (a0 a1 a2 a3 : AVal) (h : AHeap A) (K : AVal → AHeap A → Prop) : funP Tryz.prog S G Tryz.f3 .leaf [a0, a1, a2, a3] h K = p_law25_Audits S G a0 a1 a2 a3 h K := by kernel_rfl
theorem c_law25_Audits {R : Adts A} {h : AHeap A} {K : AVal → AHeap A → Prop} {a0 a1 a2 a3 : AVal} (hk : p_law25_Audits (Tri Pr R) (Gives Pr R) a0 a1 a2 a3 h K) : Tri Pr R n_law25_Audits [a0, a1, a2, a3] h K :=
  tri_of_funP (by kernel_rfl) (fun _ _ _ _ h => h) (fun _ _ _ _ h => h) Tryz.func3 (by rw [q_law25_Audits]; exact hk)
/-- bastion/bastionlaw0.LendEvents -/
def p_law0_LendEvents (S : FuncId → List AVal → AHeap A → (AVal → AHeap A → Prop) → Prop) (G : Nat → AHeap A → List AVal → (List AVal → AHeap A → Prop) → Prop) (a0 : AVal) (h : AHeap A) (K : AVal → AHeap A → Prop) : Prop :=
 S n_law0_CopyEvents [a0] h fun v1 h =>
 bldP [.int .i64 0, .int .i64 0, .int .i64 0, .int .i64 0, .int .i64 0, .int .i64 0, .int .i64 0, .int .i64 0] [(7, 1, .int .i64 77777)] fun v2 =>
 bldP [.int .i64 0, .int .i64 0, .int .i64 0, .int .i64 0, .int .i64 0, .int .i64 0, .int .i64 0, .int .i64 0] [(7, 1, .int .i64 77777)] fun v3 =>
 bslP t_api_Event 2 [.int .i64 0, .int .i64 0, .int .i64 0, .int .i64 0, .int .i64 0, .int .i64 0, .int .i64 0, .int .i64 0, .int .i64 0, .int .i64 0, .int .i64 0, .int .i64 0, .int .i64 0, .int .i64 0, .int .i64 0, .int .i64 0] [(0, 8, v2), (8, 8, v3)] h fun v4 h =>
 appP t_api_Event 8 64 v1 v4 h fun v5 h =>
 lenP a0 fun v6 =>
 rslP 8 v5 none (some v6) none fun v7 =>
 K v7 h
theorem q_law0_LendEvents (S : FuncId → List AVal → AHeap A → (AVal → AHeap A → Prop) → Prop) (G : Nat → AHeap A → List AVal → (List AVal → AHeap A → Prop) → Prop) (a0 : AVal) (h : AHeap A) (K : AVal → AHeap A → Prop) : funP Tryz.prog S G Tryz.f4 .leaf [a0] h K = p_law0_LendEvents S G a0 h K := by kernel_rfl
theorem c_law0_LendEvents {R : Adts A} {h : AHeap A} {K : AVal → AHeap A → Prop} {a0 : AVal} (hk : p_law0_LendEvents (Tri Pr R) (Gives Pr R) a0 h K) : Tri Pr R n_law0_LendEvents [a0] h K :=
  tri_of_funP (by kernel_rfl) (fun _ _ _ _ h => h) (fun _ _ _ _ h => h) Tryz.func4 (by rw [q_law0_LendEvents]; exact hk)
/-- bastion/audit.Lines -/
def p_audit_Lines (S : FuncId → List AVal → AHeap A → (AVal → AHeap A → Prop) → Prop) (G : Nat → AHeap A → List AVal → (List AVal → AHeap A → Prop) → Prop) (a0 a1 : AVal) (h : AHeap A) (K : AVal → AHeap A → Prop) : Prop :=
 boxP t_api_Config 12 a0 h fun v1 h =>
 mkmP h fun v2 h =>
 newP t_audit_lines [.nilm] h fun v3 h =>
 stP 1 v3 v2 h fun h =>
 newP t_bool [.bool false] h fun v4 h =>
 stP 1 v4 (.bool false) h fun h =>
 ldP 12 true v1 h fun v5 =>
 mkfP (.func n_audit_Lines_c1) [] [v3, v4, v1] fun v6 =>
 S n_audit_walk [v5, a1, v6] h fun v7 h =>
 extP v7 0 fun v8 =>
 extP v7 1 fun v9 =>
 newP t_api_State [.int .i64 0, .int .i64 0, .int .i64 0, .nils, .nils, .nils, .nils] h fun v10 h =>
 stP 7 v10 v8 h fun h =>
 S n_audit_bad [v9] h fun v11 h =>
 iteP v11
 (K (.tup [.nils, .int .i64 2500]) h)
 (fadP 4 v10 fun v12 =>
 ldP 1 false v12 h fun v13 =>
 lenP v13 fun v14 =>
 loopP G (fun v57 h k16 =>
 (fun v15 =>
 binP .lss .other v15 v14 fun v17 =>
 iteP v17
 (idxP 4 v13 v15 fun v18 =>
 ldP 4 true v18 h fun v19 =>
 newP t_api_Session [.int .i64 0, .int .i64 0, .int .i64 0, .int .i64 0] h fun v20 h =>
 stP 4 v20 v19 h fun h =>
 ldP 1 false v3 h fun v21 =>
 fadP 1 v20 fun v22 =>
 ldP 1 false v22 h fun v23 =>
 S n_audit_lines_line [v21, v23] h fun v24 h =>
 nilP v24 fun v25 =>
 fadP 5 v25 fun v26 =>
 ldP 1 false v26 h fun v27 =>
 binP .add .other v27 (.int .i64 1) fun v28 =>
 nilP v24 fun v29 =>
 fadP 5 v29 fun v30 =>
 stP 1 v30 v28 h fun h =>
 binP .add .other v15 (.int .i64 1) fun v31 =>
 k16 [v31] h)
 (fadP 3 v10 fun v32 =>
 ldP 1 false v32 h fun v33 =>
 lenP v33 fun v34 =>
 loopP G (fun v56 h k37 =>
 (fun v35 v36 =>
 binP .lss .other v36 v34 fun v38 =>
 iteP v38
 (idxP 9 v33 v36 fun v39 =>
 ldP 9 true v39 h fun v40 =>
 newP t_api_User (reps 9 (.int .i64 0)) h fun v41 h =>
 stP 9 v41 v40 h fun h =>
 ldP 1 false v3 h fun v42 =>
 fadP 0 v41 fun v43 =>
 ldP 1 false v43 h fun v44 =>
 S n_audit_lines_line [v42, v44] h fun v45 h =>
 nilP v45 fun v46 =>
 ldP 7 true v46 h fun v47 =>
 newP t_api_Line [.int .i64 0, .int .i64 0, .int .i64 0, .int .i64 0, .int .i64 0, .int .i64 0, .int .i64 0] h fun v48 h =>
 stP 7 v48 v47 h fun h =>
 fadP 4 v41 fun v49 =>
 ldP 1 false v49 h fun v50 =>
 fadP 6 v48 fun v51 =>
 stP 1 v51 v50 h fun h =>
 ldP 7 true v48 h fun v52 =>
 bslP t_api_Line 1 [.int .i64 0, .int .i64 0, .int .i64 0, .int .i64 0, .int .i64 0, .int .i64 0, .int .i64 0] [(0, 7, v52)] h fun v53 h =>
 appP t_api_Line 7 56 v35 v53 h fun v54 h =>
 binP .add .other v36 (.int .i64 1) fun v55 =>
 k37 [v54, v55] h)
 (K (.tup [v35, .int .i64 0]) h)) (v56.getD 0 .any) (v56.getD 1 .any)) [.nils, .int .i64 0] h)) (v57.getD 0 .any)) [.int .i64 0] h)
theorem q_audit_Lines (S : FuncId → List AVal → AHeap A → (AVal → AHeap A → Prop) → Prop) (G : Nat → AHeap A → List AVal → (List AVal → AHeap A → Prop) → Prop) (a0 a1 : AVal) (h : AHeap A) (K : AVal → AHeap A → Prop) : funP Tryz.prog S G Tryz.f5 (.two none .leaf (.two none .leaf (.two none .leaf (.two none .leaf (.two none .leaf (.two none (.two none .leaf (.one [] (.one [29] .leaf))) (.two none .leaf (.two none (.two none .leaf (.one [] (.one [12, 47] .leaf))) .leaf)))))))) [a0, a1] h K = p_audit_Lines S G a0 a1 h K := by kernel_rfl
theorem c_audit_Lines {R : Adts A} {h : AHeap A} {K : AVal → AHeap A → Prop} {a0 a1 : AVal} (hk : p_audit_Lines (Tri Pr R) (Gives Pr R) a0 a1 h K) : Tri Pr R n_audit_Lines [a0, a1] h K :=
  tri_of_funP (by kernel_rfl) (fun _ _ _ _ h => h) (fun _ _ _ _ h => h) Tryz.func5 (by rw [q_audit_Lines]; exact hk)
/-- bastion/bastionref20.Lines -/
def p_ref20_Lines (S : FuncId → List AVal → AHeap A → (AVal → AHeap A → Prop) → Prop) (G : Nat → AHeap A → List AVal → (List AVal → AHeap A → Prop) → Prop) (a0 a1 : AVal) (h : AHeap A) (K : AVal → AHeap A → Prop) : Prop :=
 boxP t_api_Config 12 a0 h fun v1 h =>
 ldP 12 true v1 h fun v2 =>
 S n_ref20_All [v2, a1] h fun v3 h =>
 extP v3 0 fun v4 =>
 extP v3 1 fun v5 =>
 newP t_api_State [.int .i64 0, .int .i64 0, .int .i64 0, .nils, .nils, .nils, .nils] h fun v6 h =>
 stP 7 v6 v4 h fun h =>
 binP .neq .other v5 (.int .i64 0) fun v7 =>
 iteP v7
 (K (.tup [.nils, .int .i64 2500]) h)
 (loopP G (fun v54 h k10 =>
 (fun v8 v9 =>
 fadP 3 v6 fun v11 =>
 ldP 1 false v11 h fun v12 =>
 lenP v12 fun v13 =>
 binP .lss .other v9 v13 fun v14 =>
 iteP v14
 (fadP 3 v6 fun v15 =>
 ldP 1 false v15 h fun v16 =>
 idxP 9 v16 v9 fun v17 =>
 ldP 9 true v17 h fun v18 =>
 newP t_api_User (reps 9 (.int .i64 0)) h fun v19 h =>
 stP 9 v19 v18 h fun h =>
 fadP 0 v19 fun v20 =>
 ldP 1 false v20 h fun v21 =>
 fadP 4 v19 fun v22 =>
 ldP 1 false v22 h fun v23 =>
 bldP [.int .i64 0, .int .i64 0, .int .i64 0, .int .i64 0, .int .i64 0, .int .i64 0, .int .i64 0] [(0, 1, v21), (6, 1, v23)] fun v24 =>
 newP t_api_Line [.int .i64 0, .int .i64 0, .int .i64 0, .int .i64 0, .int .i64 0, .int .i64 0, .int .i64 0] h fun v25 h =>
 stP 7 v25 v24 h fun h =>
 loopP G (fun v53 h k27 =>
 (fun v26 =>
 fadP 4 v6 fun v28 =>
 ldP 1 false v28 h fun v29 =>
 lenP v29 fun v30 =>
 binP .lss .other v26 v30 fun v31 =>
 iteP v31
 (joinP G h.length (fun k32 =>
 fadP 4 v6 fun v33 =>
 fadP 0 v19 fun v34 =>
 ldP 1 false v33 h fun v35 =>
 idxP 4 v35 v26 fun v36 =>
 fadP 1 v36 fun v37 =>
 ldP 1 false v37 h fun v38 =>
 ldP 1 false v34 h fun v39 =>
 ldV 1 false v37 h = some v38 ∧
 ldV 1 false v33 h = some v35 ∧
 binP .eql .other v38 v39 fun v40 =>
 iteP v40
 (fadP 5 v25 fun v41 =>
 ldP 1 false v41 h fun v42 =>
 binP .add .other v42 (.int .i64 1) fun v43 =>
 fadP 5 v25 fun v44 =>
 stP 1 v44 v43 h fun h =>
 k32 [] h)
 (k32 [] h))
 (fun _ h =>
 binP .add .other v26 (.int .i64 1) fun v45 =>
 k27 [v45] h))
 (ldP 12 true v1 h fun v47 =>
 ldP 7 true v25 h fun v48 =>
 S n_ref20_counted [v47, v48, a1] h fun v49 h =>
 bslP t_api_Line 1 [.int .i64 0, .int .i64 0, .int .i64 0, .int .i64 0, .int .i64 0, .int .i64 0, .int .i64 0] [(0, 7, v49)] h fun v50 h =>
 appP t_api_Line 7 56 v8 v50 h fun v51 h =>
 binP .add .other v9 (.int .i64 1) fun v52 =>
 k10 [v51, v52] h)) (v53.getD 0 .any)) [.int .i64 0] h)
 (K (.tup [v8, .int .i64 0]) h)) (v54.getD 0 .any) (v54.getD 1 .any)) [.nils, .int .i64 0] h)
theorem q_ref20_Lines (S : FuncId → List AVal → AHeap A → (AVal → AHeap A → Prop) → Prop) (G : Nat → AHeap A → List AVal → (List AVal → AHeap A → Prop) → Prop) (a0 a1 : AVal) (h : AHeap A) (K : AVal → AHeap A → Prop) : funP Tryz.prog S G Tryz.f6 (.two none .leaf (.two none .leaf (.two none .leaf (.two none .leaf (.two none (.two none .leaf (.one [] (.one [8, 9] (.two none .leaf (.two none (.one [] (.two none .leaf (.two none .leaf (.two none (.two none .leaf (.one [] (.one [12] (.two none .leaf (.two (some []) (.one [] (.two none (.draw none (.take 0 (.take 2 (.take 6 (.load 1 (.take 3 (.take 4 (.load 5 (.alt 7 (.take 8 .stop) .stop))))))))) .leaf)) .leaf))))) .leaf)))) .leaf))))) .leaf))))) [a0, a1] h K = p_ref20_Lines S G a0 a1 h K := by kernel_rfl
theorem c_ref20_Lines {R : Adts A} {h : AHeap A} {K : AVal → AHeap A → Prop} {a0 a1 : AVal} (hk : p_ref20_Lines (Tri Pr R) (Gives Pr R) a0 a1 h K) : Tri Pr R n_ref20_Lines [a0, a1] h K :=
  tri_of_funP (by kernel_rfl) (fun _ _ _ _ h => h) (fun _ _ _ _ h => h) Tryz.func6 (by rw [q_ref20_Lines]; exact hk)
/-- bastion/audit.Trace -/
def p_audit_Trace (S : FuncId → List AVal → AHeap A → (AVal → AHeap A → Prop) → Prop) (G : Nat → AHeap A → List AVal → (List AVal → AHeap A → Prop) → Prop) (a0 a1 a2 : AVal) (h : AHeap A) (K : AVal → AHeap A → Prop) : Prop :=
 boxP t_api_Config 12 a0 h fun v1 h =>
 boxP t_int 1 a1 h fun v2 h =>
 newP t_sl_api_Event [.nils] h fun v3 h =>
 ldP 12 true v1 h fun v4 =>
 mkfP (.func n_audit_Trace_c1) [] [v2, v3] fun v5 =>
 S n_audit_walk [v4, a2, v5] h fun v6 h =>
 extP v6 0 fun v7 =>
 extP v6 1 fun v8 =>
 newP t_api_State [.int .i64 0, .int .i64 0, .int .i64 0, .nils, .nils, .nils, .nils] h fun v9 h =>
 stP 7 v9 v7 h fun h =>
 S n_audit_bad [v8] h fun v10 h =>
 condP v10 false (fun k11 =>
 ldP 1 false v2 h fun v12 =>
 S n_state_User [v9, v12] h fun v13 h =>
 binP .eql .ptr v13 .nilp fun v14 =>
 k11 v14 h)
 (.bool true) h fun v15 h =>
 iteP v15
 (K (.tup [.nils, .int .i64 2500]) h)
 (ldP 1 false v3 h fun v16 =>
 K (.tup [v16, .int .i64 0]) h)
theorem q_audit_Trace (S : FuncId → List AVal → AHeap A → (AVal → AHeap A → Prop) → Prop) (G : Nat → AHeap A → List AVal → (List AVal → AHeap A → Prop) → Prop) (a0 a1 a2 : AVal) (h : AHeap A) (K : AVal → AHeap A → Prop) : funP Tryz.prog S G Tryz.f7 .leaf [a0, a1, a2] h K = p_audit_Trace S G a0 a1 a2 h K := by kernel_rfl
theorem c_audit_Trace {R : Adts A} {h : AHeap A} {K : AVal → AHeap A → Prop} {a0 a1 a2 : AVal} (hk : p_audit_Trace (Tri Pr R) (Gives Pr R) a0 a1 a2 h K) : Tri Pr R n_audit_Trace [a0, a1, a2] h K :=
  tri_of_funP (by kernel_rfl) (fun _ _ _ _ h => h) (fun _ _ _ _ h => h) Tryz.func7 (by rw [q_audit_Trace]; exact hk)
/-- bastion/bastionref20.Trace -/
def p_ref20_Trace (S : FuncId → List AVal → AHeap A → (AVal → AHeap A → Prop) → Prop) (G : Nat → AHeap A → List AVal → (List AVal → AHeap A → Prop) → Prop) (a0 a1 a2 : AVal) (h : AHeap A) (K : AVal → AHeap A → Prop) : Prop :=
 boxP t_api_Config 12 a0 h fun v1 h =>
 ldP 12 true v1 h fun v2 =>
 S n_ref20_All [v2, a2] h fun v3 h =>
 extP v3 0 fun v4 =>
 extP v3 1 fun v5 =>
 newP t_api_State [.int .i64 0, .int .i64 0, .int .i64 0, .nils, .nils, .nils, .nils] h fun v6 h =>
 stP 7 v6 v4 h fun h =>
 binP .neq .other v5 (.int .i64 0) fun v7 =>
 condP v7 false (fun k8 =>
 ldP 7 true v6 h fun v9 =>
 S n_ref20_UserAt [v9, a1] h fun v10 h =>
 binP .lss .other v10 (.int .i64 0) fun v11 =>
 k8 v11 h)
 (.bool true) h fun v12 h =>
 iteP v12
 (K (.tup [.nils, .int .i64 2500]) h)
 (fadP 3 v1 fun v13 =>
 ldP 1 false v13 h fun v14 =>
 S n_ref20_NewState [v14] h fun v15 h =>
 extP v15 0 fun v16 =>
 extP v15 1 fun v17 =>
 newP t_api_State [.int .i64 0, .int .i64 0, .int .i64 0, .nils, .nils, .nils, .nils] h fun v18 h =>
 stP 7 v18 v16 h fun h =>
 loopP G (fun v53 h k21 =>
 (fun v19 v20 =>
 lenP a2 fun v22 =>
 binP .lss .other v20 v22 fun v23 =>
 iteP v23
 (joinP G h.length (fun k24 =>
 idxP 8 a2 v20 fun v25 =>
 ldP 7 true v18 h fun v26 =>
 ldP 8 true v25 h fun v27 =>
 ldV 7 true v18 h = some v26 ∧
 S n_ref20_ofUser [v26, v27] h fun v28 h =>
 binP .eql .other v28 a1 fun v29 =>
 iteP v29
 (idxP 8 a2 v20 fun v30 =>
 ldP 8 true v30 h fun v31 =>
 bslP t_api_Event 1 [.int .i64 0, .int .i64 0, .int .i64 0, .int .i64 0, .int .i64 0, .int .i64 0, .int .i64 0, .int .i64 0] [(0, 8, v31)] h fun v32 h =>
 appP t_api_Event 8 64 v19 v32 h fun v33 h =>
 k24 [v33] h)
 (k24 [v19] h))
 (fun v52 h =>
 (fun v34 =>
 joinP G h.length (fun k35 =>
 idxP 8 a2 v20 fun v36 =>
 ldP 12 true v1 h fun v37 =>
 ldP 7 true v18 h fun v38 =>
 ldP 8 true v36 h fun v39 =>
 (S n_ref20_Apply [v37, v38, v39] h fun v40 h =>
 extP v40 0 fun v41 =>
 extP v40 1 fun v42 =>
 newP t_api_State [.int .i64 0, .int .i64 0, .int .i64 0, .nils, .nils, .nils, .nils] h fun v43 h =>
 stP 7 v43 v41 h fun h =>
 k35 [v43] h) ∧
 (newP t_api_State [.int .i64 0, .int .i64 0, .int .i64 0, .nils, .nils, .nils, .nils] h fun v44 h =>
 ldV 8 true v36 h = some v39 ∧
 ldV 7 true v18 h = some v38 ∧
 ldV 12 true v1 h = some v37 ∧
 S n_ref20_Apply [v37, v38, v39] h fun v45 h =>
 extP v45 0 fun v46 =>
 extP v45 1 fun v47 =>
 stP 7 v44 v46 h fun h =>
 k35 [v44] h))
 (fun v51 h =>
 (fun v48 =>
 ldP 7 true v48 h fun v49 =>
 stP 7 v18 v49 h fun h =>
 binP .add .other v20 (.int .i64 1) fun v50 =>
 k21 [v34, v50] h) (v51.getD 0 .any))) (v52.getD 0 .any)))
 (K (.tup [v19, .int .i64 0]) h)) (v53.getD 0 .any) (v53.getD 1 .any)) [.nils, .int .i64 0] h)
theorem q_ref20_Trace (S : FuncId → List AVal → AHeap A → (AVal → AHeap A → Prop) → Prop) (G : Nat → AHeap A → List AVal → (List AVal → AHeap A → Prop) → Prop) (a0 a1 a2 : AVal) (h : AHeap A) (K : AVal → AHeap A → Prop) : funP Tryz.prog S G Tryz.f8 (.two none .leaf (.two none .leaf (.two none .leaf (.two none .leaf (.two none .leaf (.two none (.two none .leaf (.one [] (.one [12, 13] (.two none .leaf (.two none (.one [] (.two (some [12]) (.two none (.draw none (.take 1 (.take 2 (.take 3 (.take 6 (.load 0 (.alt 4 (.alt 5 (.take 7 .stop) .stop) .stop))))))) .leaf) (.two none (.draw (some [14]) (.take 2 (.take 3 (.take 4 (.load 0 (.load 1 (.load 5 (.alt 6 (.take 7 (.take 8 (.take 9 (.alt 10 (.alt 11 (.take 12 .stop) .stop) .stop)))) (.alt 10 (.alt 6 (.take 7 (.take 8 (.take 9 (.alt 11 (.take 12 .stop) .stop)))) .stop) .stop))))))))) .leaf))) .leaf))))) .leaf)))))) [a0, a1, a2] h K = p_ref20_Trace S G a0 a1 a2 h K := by kernel_rfl
theorem c_ref20_Trace {R : Adts A} {h : AHeap A} {K : AVal → AHeap A → Prop} {a0 a1 a2 : AVal} (hk : p_ref20_Trace (Tri Pr R) (Gives Pr R) a0 a1 a2 h K) : Tri Pr R n_ref20_Trace [a0, a1, a2] h K :=
  tri_of_funP (by kernel_rfl) (fun _ _ _ _ h => h) (fun _ _ _ _ h => h) Tryz.func8 (by rw [q_ref20_Trace]; exact hk)
/-- bastion/audit.Holder -/
def p_audit_Holder (S : FuncId → List AVal → AHeap A → (AVal → AHeap A → Prop) → Prop) (G : Nat → AHeap A → List AVal → (List AVal → AHeap A → Prop) → Prop) (a0 a1 a2 : AVal) (h : AHeap A) (K : AVal → AHeap A → Prop) : Prop :=
 boxP t_api_Config 12 a0 h fun v1 h =>
 ldP 12 true v1 h fun v2 =>
 S n_audit_walk [v2, a2, .fn (.func n_audit_Holder_c1) [] []] h fun v3 h =>
 extP v3 0 fun v4 =>
 extP v3 1 fun v5 =>
 newP t_api_State [.int .i64 0, .int .i64 0, .int .i64 0, .nils, .nils, .nils, .nils] h fun v6 h =>
 stP 7 v6 v4 h fun h =>
 S n_audit_bad [v5] h fun v7 h =>
 condP v7 false (fun k8 =>
 binP .lss .other a1 (.int .i64 0) fun v9 =>
 k8 v9 h)
 (.bool true) h fun v10 h =>
 condP v10 false (fun k11 =>
 fadP 5 v6 fun v12 =>
 ldP 1 false v12 h fun v13 =>
 lenP v13 fun v14 =>
 binP .geq .other a1 v14 fun v15 =>
 k11 v15 h)
 (.bool true) h fun v16 h =>
 iteP v16
 (K (.tup [.int .i64 0, .int .i64 0, .int .i64 2500]) h)
 (fadP 4 v6 fun v17 =>
 ldP 1 false v17 h fun v18 =>
 lenP v18 fun v19 =>
 loopP G (fun v34 h k21 =>
 (fun v20 =>
 binP .lss .other v20 v19 fun v22 =>
 iteP v22
 (idxP 4 v18 v20 fun v23 =>
 ldP 4 true v23 h fun v24 =>
 newP t_api_Session [.int .i64 0, .int .i64 0, .int .i64 0, .int .i64 0] h fun v25 h =>
 stP 4 v25 v24 h fun h =>
 fadP 2 v25 fun v26 =>
 ldP 1 false v26 h fun v27 =>
 binP .eql .other v27 a1 fun v28 =>
 iteP v28
 (fadP 1 v25 fun v29 =>
 fadP 0 v25 fun v30 =>
 ldP 1 false v29 h fun v31 =>
 ldP 1 false v30 h fun v32 =>
 ldV 1 false v29 h = some v31 ∧
 K (.tup [v31, v32, .int .i64 0]) h)
 (binP .add .other v20 (.int .i64 1) fun v33 =>
 k21 [v33] h))
 (K (.tup [.int .i64 (-1), .int .i64 (-1), .int .i64 0]) h)) (v34.getD 0 .any)) [.int .i64 0] h)
theorem q_audit_Holder (S : FuncId → List AVal → AHeap A → (AVal → AHeap A → Prop) → Prop) (G : Nat → AHeap A → List AVal → (List AVal → AHeap A → Prop) → Prop) (a0 a1 a2 : AVal) (h : AHeap A) (K : AVal → AHeap A → Prop) : funP Tryz.prog S G Tryz.f9 (.two none .leaf (.two none .leaf (.two none .leaf (.two none (.two none .leaf (.one [] (.one [35] (.two none .leaf (.two none .leaf (.two none (.one [] (.two none .leaf (.two none .leaf (.two none (.two none (.draw none (.take 0 (.take 2 (.load 1 (.take 4 (.alt 3 (.take 5 (.take 6 .stop)) .stop)))))) .leaf) .leaf)))) .leaf)))))) .leaf)))) [a0, a1, a2] h K = p_audit_Holder S G a0 a1 a2 h K := by kernel_rfl
theorem c_audit_Holder {R : Adts A} {h : AHeap A} {K : AVal → AHeap A → Prop} {a0 a1 a2 : AVal} (hk : p_audit_Holder (Tri Pr R) (Gives Pr R) a0 a1 a2 h K) : Tri Pr R n_audit_Holder [a0, a1, a2] h K :=
  tri_of_funP (by kernel_rfl) (fun _ _ _ _ h => h) (fun _ _ _ _ h => h) Tryz.func9 (by rw [q_audit_Holder]; exact hk)
/-- bastion/bastionref20.Holder -/
def p_ref20_Holder (S : FuncId → List AVal → AHeap A → (AVal → AHeap A → Prop) → Prop) (G : Nat → AHeap A → List AVal → (List AVal → AHeap A → Prop) → Prop) (a0 a1 a2 : AVal) (h : AHeap A) (K : AVal → AHeap A → Prop) : Prop :=
 boxP t_api_Config 12 a0 h fun v1 h =>
 ldP 12 true v1 h fun v2 =>
 S n_ref20_All [v2, a2] h fun v3 h =>
 extP v3 0 fun v4 =>
 extP v3 1 fun v5 =>
 newP t_api_State [.int .i64 0, .int .i64 0, .int .i64 0, .nils, .nils, .nils, .nils] h fun v6 h =>
 stP 7 v6 v4 h fun h =>
 binP .neq .other v5 (.int .i64 0) fun v7 =>
 condP v7 false (fun k8 =>
 binP .lss .other a1 (.int .i64 0) fun v9 =>
 k8 v9 h)
 (.bool true) h fun v10 h =>
 condP v10 false (fun k11 =>
 fadP 5 v6 fun v12 =>
 ldP 1 false v12 h fun v13 =>
 lenP v13 fun v14 =>
 binP .geq .other a1 v14 fun v15 =>
 k11 v15 h)
 (.bool true) h fun v16 h =>
 iteP v16
 (K (.tup [.int .i64 0, .int .i64 0, .int .i64 2500]) h)
 (loopP G (fun v40 h k18 =>
 (fun v17 =>
 fadP 4 v6 fun v19 =>
 ldP 1 false v19 h fun v20 =>
 lenP v20 fun v21 =>
 binP .lss .other v17 v21 fun v22 =>
 iteP v22
 (fadP 4 v6 fun v23 =>
 ldP 1 false v23 h fun v24 =>
 idxP 4 v24 v17 fun v25 =>
 fadP 2 v25 fun v26 =>
 ldP 1 false v26 h fun v27 =>
 binP .eql .other v27 a1 fun v28 =>
 iteP v28
 (fadP 4 v6 fun v29 =>
 fadP 4 v6 fun v30 =>
 ldP 1 false v29 h fun v31 =>
 idxP 4 v31 v17 fun v32 =>
 fadP 1 v32 fun v33 =>
 ldP 1 false v33 h fun v34 =>
 ldP 1 false v30 h fun v35 =>
 ldV 1 false v33 h = some v34 ∧
 ldV 1 false v29 h = some v31 ∧
 idxP 4 v35 v17 fun v36 =>
 fadP 0 v36 fun v37 =>
 ldP 1 false v37 h fun v38 =>
 ldV 1 false v33 h = some v34 ∧
 ldV 1 false v29 h = some v31 ∧
 K (.tup [v34, v38, .int .i64 0]) h)
 (binP .add .other v17 (.int .i64 1) fun v39 =>
 k18 [v39] h))
 (K (.tup [.int .i64 (-1), .int .i64 (-1), .int .i64 0]) h)) (v40.getD 0 .any)) [.int .i64 0] h)
theorem q_ref20_Holder (S : FuncId → List AVal → AHeap A → (AVal → AHeap A → Prop) → Prop) (G : Nat → AHeap A → List AVal → (List AVal → AHeap A → Prop) → Prop) (a0 a1 a2 : AVal) (h : AHeap A) (K : AVal → AHeap A → Prop) : funP Tryz.prog S G Tryz.f10 (.two none .leaf (.two none .leaf (.two none .leaf (.two none (.two none .leaf (.one [] (.one [11] (.two none .leaf (.two none (.one [] (.two none .leaf (.two none (.two none (.draw none (.take 0 (.take 2 (.take 6 (.take 8 (.load 1 (.take 3 (.take 4 (.load 5 (.take 12 (.alt 7 (.take 9 (.take 10 (.alt 11 (.take 13 (.take 14 .stop)) .stop))) .stop))))))))))) .leaf) .leaf))) .leaf))))) .leaf)))) [a0, a1, a2] h K = p_ref20_Holder S G a0 a1 a2 h K := by kernel_rfl
theorem c_ref20_Holder {R : Adts A} {h : AHeap A} {K : AVal → AHeap A → Prop} {a0 a1 a2 : AVal} (hk : p_ref20_Holder (Tri Pr R) (Gives Pr R) a0 a1 a2 h K) : Tri Pr R n_ref20_Holder [a0, a1, a2] h K :=
  tri_of_funP (by kernel_rfl) (fun _ _ _ _ h => h) (fun _ _ _ _ h => h) Tryz.func10 (by rw [q_ref20_Holder]; exact hk)
/-- bastion/bastionlaw0.SameLines -/
def p_law0_SameLines (S : FuncId → List AVal → AHeap A → (AVal → AHeap A → Prop) → Prop) (G : Nat → AHeap A → List AVal → (List AVal → AHeap A → Prop) → Prop) (a0 a1 : AVal) (h : AHeap A) (K : AVal → AHeap A → Prop) : Prop :=
 lenP a0 fun v1 =>
 lenP a1 fun v2 =>
 binP .neq .other v1 v2 fun v3 =>
 iteP v3
 (K (.bool false) h)
 (loopP G (fun v14 h k5 =>
 (fun v4 =>
 lenP a0 fun v6 =>
 binP .lss .other v4 v6 fun v7 =>
 iteP v7
 (idxP 7 a0 v4 fun v8 =>
 idxP 7 a1 v4 fun v9 =>
 ldP 7 true v8 h fun v10 =>
 ldP 7 true v9 h fun v11 =>
 ldV 7 true v8 h = some v10 ∧
 binP .neq (.shape (.st [(0, 1, .i), (1, 1, .i), (2, 1, .i), (3, 1, .i), (4, 1, .i), (5, 1, .i), (6, 1, .i)])) v10 v11 fun v12 =>
 iteP v12
 (K (.bool false) h)
 (binP .add .other v4 (.int .i64 1) fun v13 =>
 k5 [v13] h))
 (K (.bool true) h)) (v14.getD 0 .any)) [.int .i64 0] h)
theorem q_law0_SameLines (S : FuncId → List AVal → AHeap A → (AVal → AHeap A → Prop) → Prop) (G : Nat → AHeap A → List AVal → (List AVal → AHeap A → Prop) → Prop) (a0 a1 : AVal) (h : AHeap A) (K : AVal → AHeap A → Prop) : funP Tryz.prog S G Tryz.f11 (.two none .leaf (.two none .leaf (.two none (.two none .leaf (.one [] (.one [5] (.two none .leaf (.two none (.one [] (.two none (.draw none (.take 0 (.take 1 (.take 2 (.take 4 (.take 5 (.take 6 (.load 3 (.alt 7 (.take 8 .stop) .stop))))))))) .leaf)) .leaf))))) .leaf))) [a0, a1] h K = p_law0_SameLines S G a0 a1 h K := by kernel_rfl
theorem c_law0_SameLines {R : Adts A} {h : AHeap A} {K : AVal → AHeap A → Prop} {a0 a1 : AVal} (hk : p_law0_SameLines (Tri Pr R) (Gives Pr R) a0 a1 h K) : Tri Pr R n_law0_SameLines [a0, a1] h K :=
  tri_of_funP (by kernel_rfl) (fun _ _ _ _ h => h) (fun _ _ _ _ h => h) Tryz.func11 (by rw [q_law0_SameLines]; exact hk)
/-- bastion/bastionlaw0.Num -/
def p_law0_Num (S : FuncId → List AVal → AHeap A → (AVal → AHeap A → Prop) → Prop) (G : Nat → AHeap A → List AVal → (List AVal → AHeap A → Prop) → Prop) (a0 : AVal) (h : AHeap A) (K : AVal → AHeap A → Prop) : Prop :=
 K a0 h
theorem q_law0_Num (S : FuncId → List AVal → AHeap A → (AVal → AHeap A → Prop) → Prop) (G : Nat → AHeap A → List AVal → (List AVal → AHeap A → Prop) → Prop) (a0 : AVal) (h : AHeap A) (K : AVal → AHeap A → Prop) : funP Tryz.prog S G Tryz.f12 .leaf [a0] h K = p_law0_Num S G a0 h K := by kernel_rfl
theorem c_law0_Num {R : Adts A} {h : AHeap A} {K : AVal → AHeap A → Prop} {a0 : AVal} (hk : p_law0_Num (Tri Pr R) (Gives Pr R) a0 h K) : Tri Pr R n_law0_Num [a0] h K :=
  tri_of_funP (by kernel_rfl) (fun _ _ _ _ h => h) (fun _ _ _ _ h => h) Tryz.func12 (by rw [q_law0_Num]; exact hk)
/-- bastion/bastionlaw0.SameEvents -/
def p_law0_SameEvents (S : FuncId → List AVal → AHeap A → (AVal → AHeap A → Prop) → Prop) (G : Nat → AHeap A → List AVal → (List AVal → AHeap A → Prop) → Prop) (a0 a1 : AVal) (h : AHeap A) (K : AVal → AHeap A → Prop) : Prop :=
 lenP a0 fun v1 =>
 lenP a1 fun v2 =>
 binP .neq .other v1 v2 fun v3 =>
 iteP v3
 (K (.bool false) h)
 (loopP G (fun v14 h k5 =>
 (fun v4 =>
 lenP a0 fun v6 =>
 binP .lss .other v4 v6 fun v7 =>
 iteP v7
 (idxP 8 a0 v4 fun v8 =>
 idxP 8 a1 v4 fun v9 =>
 ldP 8 true v8 h fun v10 =>
 ldP 8 true v9 h fun v11 =>
 ldV 8 true v8 h = some v10 ∧
 binP .neq (.shape (.st [(0, 1, .i), (1, 1, .i), (2, 1, .i), (3, 1, .i), (4, 1, .i), (5, 1, .i), (6, 1, .i), (7, 1, .i)])) v10 v11 fun v12 =>
 iteP v12
 (K (.bool false) h)
 (binP .add .other v4 (.int .i64 1) fun v13 =>
 k5 [v13] h))
 (K (.bool true) h)) (v14.getD 0 .any)) [.int .i64 0] h)
theorem q_law0_SameEvents (S : FuncId → List AVal → AHeap A → (AVal → AHeap A → Prop) → Prop) (G : Nat → AHeap A → List AVal → (List AVal → AHeap A → Prop) → Prop) (a0 a1 : AVal) (h : AHeap A) (K : AVal → AHeap A → Prop) : funP Tryz.prog S G Tryz.f13 (.two none .leaf (.two none .leaf (.two none (.two none .leaf (.one [] (.one [5] (.two none .leaf (.two none (.one [] (.two none (.draw none (.take 0 (.take 1 (.take 2 (.take 4 (.take 5 (.take 6 (.load 3 (.alt 7 (.take 8 .stop) .stop))))))))) .leaf)) .leaf))))) .leaf))) [a0, a1] h K = p_law0_SameEvents S G a0 a1 h K := by kernel_rfl
theorem c_law0_SameEvents {R : Adts A} {h : AHeap A} {K : AVal → AHeap A → Prop} {a0 a1 : AVal} (hk : p_law0_SameEvents (Tri Pr R) (Gives Pr R) a0 a1 h K) : Tri Pr R n_law0_SameEvents [a0, a1] h K :=
  tri_of_funP (by kernel_rfl) (fun _ _ _ _ h => h) (fun _ _ _ _ h => h) Tryz.func13 (by rw [q_law0_SameEvents]; exact hk)
/-- bastion/bastionlaw0.SpoilLines -/
def p_law0_SpoilLines (S : FuncId → List AVal → AHeap A → (AVal → AHeap A → Prop) → Prop) (G : Nat → AHeap A → List AVal → (List AVal → AHeap A → Prop) → Prop) (a0 : AVal) (h : AHeap A) (K : AVal → AHeap A → Prop) : Prop :=
 loopP G (fun v12 h k2 =>
 (fun v1 =>
 lenP a0 fun v3 =>
 binP .lss .other v1 v3 fun v4 =>
 iteP v4
 (idxP 7 a0 v1 fun v5 =>
 fadP 6 v5 fun v6 =>
 ldP 1 false v6 h fun v7 =>
 binP .xor .other v7 (.int .i64 90) fun v8 =>
 idxP 7 a0 v1 fun v9 =>
 fadP 6 v9 fun v10 =>
 stP 1 v10 v8 h fun h =>
 binP .add .other v1 (.int .i64 1) fun v11 =>
 k2 [v11] h)
 (K (.tup []) h)) (v12.getD 0 .any)) [.int .i64 0] h
theorem q_law0_SpoilLines (S : FuncId → List AVal → AHeap A → (AVal → AHeap A → Prop) → Prop) (G : Nat → AHeap A → List AVal → (List AVal → AHeap A → Prop) → Prop) (a0 : AVal) (h : AHeap A) (K : AVal → AHeap A → Prop) : funP Tryz.prog S G Tryz.f14 (.two none .leaf (.one [] (.one [2] .leaf))) [a0] h K = p_law0_SpoilLines S G a0 h K := by kernel_rfl
theorem c_law0_SpoilLines {R : Adts A} {h : AHeap A} {K : AVal → AHeap A → Prop} {a0 : AVal} (hk : p_law0_SpoilLines (Tri Pr R) (Gives Pr R) a0 h K) : Tri Pr R n_law0_SpoilLines [a0] h K :=
  tri_of_funP (by kernel_rfl) (fun _ _ _ _ h => h) (fun _ _ _ _ h => h) Tryz.func14 (by rw [q_law0_SpoilLines]; exact hk)
/-- bastion/bastionlaw0.SpoilEvents -/
def p_law0_SpoilEvents (S : FuncId → List AVal → AHeap A → (AVal → AHeap A → Prop) → Prop) (G : Nat → AHeap A → List AVal → (List AVal → AHeap A → Prop) → Prop) (a0 : AVal) (h : AHeap A) (K : AVal → AHeap A → Prop) : Prop :=
 loopP G (fun v12 h k2 =>
 (fun v1 =>
 lenP a0 fun v3 =>
 binP .lss .other v1 v3 fun v4 =>
 iteP v4
 (idxP 8 a0 v1 fun v5 =>
 fadP 7 v5 fun v6 =>
 ldP 1 false v6 h fun v7 =>
 binP .xor .other v7 (.int .i64 90) fun v8 =>
 idxP 8 a0 v1 fun v9 =>
 fadP 7 v9 fun v10 =>
 stP 1 v10 v8 h fun h =>
 binP .add .other v1 (.int .i64 1) fun v11 =>
 k2 [v11] h)
 (K (.tup []) h)) (v12.getD 0 .any)) [.int .i64 0] h
theorem q_law0_SpoilEvents (S : FuncId → List AVal → AHeap A → (AVal → AHeap A → Prop) → Prop) (G : Nat → AHeap A → List AVal → (List AVal → AHeap A → Prop) → Prop) (a0 : AVal) (h : AHeap A) (K : AVal → AHeap A → Prop) : funP Tryz.prog S G Tryz.f15 (.two none .leaf (.one [] (.one [2] .leaf))) [a0] h K = p_law0_SpoilEvents S G a0 h K := by kernel_rfl
theorem c_law0_SpoilEvents {R : Adts A} {h : AHeap A} {K : AVal → AHeap A → Prop} {a0 : AVal} (hk : p_law0_SpoilEvents (Tri Pr R) (Gives Pr R) a0 h K) : Tri Pr R n_law0_SpoilEvents [a0] h K :=
  tri_of_funP (by kernel_rfl) (fun _ _ _ _ h => h) (fun _ _ _ _ h => h) Tryz.func15 (by rw [q_law0_SpoilEvents]; exact hk)
/-- bastion/bastionlaw0.KeptEvents -/
def p_law0_KeptEvents (S : FuncId → List AVal → AHeap A → (AVal → AHeap A → Prop) → Prop) (G : Nat → AHeap A → List AVal → (List AVal → AHeap A → Prop) → Prop) (a0 a1 : AVal) (h : AHeap A) (K : AVal → AHeap A → Prop) : Prop :=
 lenP a0 fun v1 =>
 binP .add .other v1 (.int .i64 2) fun v2 =>
 rslP 8 a0 none (some v2) none fun v3 =>
 S n_law0_SameEvents [a0, a1] h fun v4 h =>
 condP v4 true (fun k5 =>
 lenP a1 fun v6 =>
 idxP 8 v3 v6 fun v7 =>
 ldP 8 true v7 h fun v8 =>
 bldP [.int .i64 0, .int .i64 0, .int .i64 0, .int .i64 0, .int .i64 0, .int .i64 0, .int .i64 0, .int .i64 0] [(7, 1, .int .i64 77777)] fun v9 =>
 binP .eql (.shape (.st [(0, 1, .i), (1, 1, .i), (2, 1, .i), (3, 1, .i), (4, 1, .i), (5, 1, .i), (6, 1, .i), (7, 1, .i)])) v8 v9 fun v10 =>
 k5 v10 h)
 (.bool false) h fun v11 h =>
 condP v11 true (fun k12 =>
 lenP a1 fun v13 =>
 binP .add .other v13 (.int .i64 1) fun v14 =>
 idxP 8 v3 v14 fun v15 =>
 ldP 8 true v15 h fun v16 =>
 bldP [.int .i64 0, .int .i64 0, .int .i64 0, .int .i64 0, .int .i64 0, .int .i64 0, .int .i64 0, .int .i64 0] [(7, 1, .int .i64 77777)] fun v17 =>
 binP .eql (.shape (.st [(0, 1, .i), (1, 1, .i), (2, 1, .i), (3, 1, .i), (4, 1, .i), (5, 1, .i), (6, 1, .i), (7, 1, .i)])) v16 v17 fun v18 =>
 k12 v18 h)
 (.bool false) h fun v19 h =>
 K v19 h
theorem q_law0_KeptEvents (S : FuncId → List AVal → AHeap A → (AVal → AHeap A → Prop) → Prop) (G : Nat → AHeap A → List AVal → (List AVal → AHeap A → Prop) → Prop) (a0 a1 : AVal) (h : AHeap A) (K : AVal → AHeap A → Prop) : funP Tryz.prog S G Tryz.f16 .leaf [a0, a1] h K = p_law0_KeptEvents S G a0 a1 h K := by kernel_rfl
theorem c_law0_KeptEvents {R : Adts A} {h : AHeap A} {K : AVal → AHeap A → Prop} {a0 a1 : AVal} (hk : p_law0_KeptEvents (Tri Pr R) (Gives Pr R) a0 a1 h K) : Tri Pr R n_law0_KeptEvents [a0, a1] h K :=
  tri_of_funP (by kernel_rfl) (fun _ _ _ _ h => h) (fun _ _ _ _ h => h) Tryz.func16 (by rw [q_law0_KeptEvents]; exact hk)
/-- bastion/bastionlaw25.awake -/
def p_law25_awake (S : FuncId → List AVal → AHeap A → (AVal → AHeap A → Prop) → Prop) (G : Nat → AHeap A → List AVal → (List AVal → AHeap A → Prop) → Prop) (h : AHeap A) (K : AVal → AHeap A → Prop) : Prop :=
 S n_law25_Plain [] h fun v1 h =>
 newP t_api_Config (reps 12 (.int .i64 0)) h fun v2 h =>
 stP 12 v2 v1 h fun h =>
 bldP [.int .i64 0, .int .i64 0, .int .i64 0, .int .i64 0, .int .i64 0, .int .i64 0, .int .i64 0, .int .i64 0] [] fun v3 =>
 bldP [.int .i64 0, .int .i64 0, .int .i64 0, .int .i64 0, .int .i64 0, .int .i64 0, .int .i64 0, .int .i64 0] [(0, 1, .int .i64 1), (1, 1, .int .i64 3), (4, 1, .int .i64 5), (5, 1, .int .i64 6), (6, 1, .int .i64 7)] fun v4 =>
 bldP [.int .i64 0, .int .i64 0, .int .i64 0, .int .i64 0, .int .i64 0, .int .i64 0, .int .i64 0, .int .i64 0] [(0, 1, .int .i64 2), (1, 1, .int .i64 3), (7, 1, .int .i64 1)] fun v5 =>
 bldP [.int .i64 0, .int .i64 0, .int .i64 0, .int .i64 0, .int .i64 0, .int .i64 0, .int .i64 0, .int .i64 0] [(0, 1, .int .i64 2), (1, 1, .int .i64 3), (7, 1, .int .i64 2)] fun v6 =>
 bldP [.int .i64 0, .int .i64 0, .int .i64 0, .int .i64 0, .int .i64 0, .int .i64 0, .int .i64 0, .int .i64 0] [(0, 1, .int .i64 4), (1, 1, .int .i64 3)] fun v7 =>
 bldP [.int .i64 0, .int .i64 0, .int .i64 0, .int .i64 0, .int .i64 0, .int .i64 0, .int .i64 0, .int .i64 0] [(0, 1, .int .i64 3), (1, 1, .int .i64 3), (4, 1, .int .i64 1)] fun v8 =>
 bldP [.int .i64 0, .int .i64 0, .int .i64 0, .int .i64 0, .int .i64 0, .int .i64 0, .int .i64 0, .int .i64 0] [(0, 1, .int .i64 5), (1, 1, .int .i64 3), (3, 1, .int .i64 1)] fun v9 =>
 bldP [.int .i64 0, .int .i64 0, .int .i64 0, .int .i64 0, .int .i64 0, .int .i64 0, .int .i64 0, .int .i64 0] [(0, 1, .int .i64 6), (4, 1, .int .i64 9)] fun v10 =>
 bldP [.int .i64 0, .int .i64 0, .int .i64 0, .int .i64 0, .int .i64 0, .int .i64 0, .int .i64 0, .int .i64 0] [(0, 1, .int .i64 9)] fun v11 =>
 bldP [.int .i64 0, .int .i64 0, .int .i64 0, .int .i64 0, .int .i64 0, .int .i64 0, .int .i64 0, .int .i64 0] [(0, 1, .int .i64 5), (2, 1, .int .i64 1), (1, 1, .int .i64 3), (3, 1, .int .i64 2)] fun v12 =>
 bslP t_api_Event 10 [.int .i64 0, .int .i64 0, .int .i64 0, .int .i64 0, .int .i64 0, .int .i64 0, .int .i64 0, .int .i64 0, .int .i64 0, .int .i64 0, .int .i64 0, .int .i64 0, .int .i64 0, .int .i64 0, .int .i64 0, .int .i64 0, .int .i64 0, .int .i64 0, .int .i64 0, .int .i64 0, .int .i64 0, .int .i64 0, .int .i64 0, .int .i64 0, .int .i64 0, .int .i64 0, .int .i64 0, .int .i64 0, .int .i64 0, .int .i64 0, .int .i64 0, .int .i64 0, .int .i64 0, .int .i64 0, .int .i64 0, .int .i64 0, .int .i64 0, .int .i64 0, .int .i64 0, .int .i64 0, .int .i64 0, .int .i64 0, .int .i64 0, .int .i64 0, .int .i64 0, .int .i64 0, .int .i64 0, .int .i64 0, .int .i64 0, .int .i64 0, .int .i64 0, .int .i64 0, .int .i64 0, .int .i64 0, .int .i64 0, .int .i64 0, .int .i64 0, .int .i64 0, .int .i64 0, .int .i64 0, .int .i64 0, .int .i64 0, .int .i64 0, .int .i64 0, .int .i64 0, .int .i64 0, .int .i64 0, .int .i64 0, .int .i64 0, .int .i64 0, .int .i64 0, .int .i64 0, .int .i64 0, .int .i64 0, .int .i64 0, .int .i64 0, .int .i64 0, .int .i64 0, .int .i64 0, .int .i64 0] [(0, 8, v3), (8, 8, v4), (16, 8, v5), (24, 8, v6), (32, 8, v7), (40, 8, v8), (48, 8, v9), (56, 8, v10), (64, 8, v11), (72, 8, v12)] h fun v13 h =>
 ldP 12 true v2 h fun v14 =>
 S n_audit_Lines [v14, v13] h fun v15 h =>
 extP v15 0 fun v16 =>
 extP v15 1 fun v17 =>
 ldP 12 true v2 h fun v18 =>
 S n_audit_Trace [v18, .int .i64 3, v13] h fun v19 h =>
 extP v19 0 fun v20 =>
 extP v19 1 fun v21 =>
 ldP 12 true v2 h fun v22 =>
 S n_audit_Holder [v22, .int .i64 2, v13] h fun v23 h =>
 extP v23 0 fun v24 =>
 extP v23 1 fun v25 =>
 extP v23 2 fun v26 =>
 ldP 12 true v2 h fun v27 =>
 S n_audit_Holder [v27, .int .i64 0, v13] h fun v28 h =>
 extP v28 0 fun v29 =>
 extP v28 1 fun v30 =>
 extP v28 2 fun v31 =>
 ldP 12 true v2 h fun v32 =>
 bldP [.int .i64 0, .int .i64 0, .int .i64 0, .int .i64 0, .int .i64 0, .int .i64 0, .int .i64 0, .int .i64 0] [(0, 1, .int .i64 6)] fun v33 =>
 bslP t_api_Event 1 [.int .i64 0, .int .i64 0, .int .i64 0, .int .i64 0, .int .i64 0, .int .i64 0, .int .i64 0, .int .i64 0] [(0, 8, v33)] h fun v34 h =>
 S n_audit_Lines [v32, v34] h fun v35 h =>
 extP v35 0 fun v36 =>
 extP v35 1 fun v37 =>
 ldP 12 true v2 h fun v38 =>
 S n_audit_Trace [v38, .int .i64 2, v13] h fun v39 h =>
 extP v39 0 fun v40 =>
 extP v39 1 fun v41 =>
 ldP 12 true v2 h fun v42 =>
 S n_audit_Holder [v42, .int .i64 3, v13] h fun v43 h =>
 extP v43 0 fun v44 =>
 extP v43 1 fun v45 =>
 extP v43 2 fun v46 =>
 S n_law0_Num [v17] h fun v47 h =>
 binP .eql .other v47 (.int .i64 0) fun v48 =>
 condP v48 true (fun k49 =>
 bldP [.int .i64 0, .int .i64 0, .int .i64 0, .int .i64 0, .int .i64 0, .int .i64 0, .int .i64 0] [(0, 1, .int .i64 3), (1, 1, .int .i64 1), (2, 1, .int .i64 1), (3, 1, .int .i64 2), (4, 1, .int .i64 1), (5, 1, .int .i64 1), (6, 1, .int .i64 9)] fun v50 =>
 bslP t_api_Line 1 [.int .i64 0, .int .i64 0, .int .i64 0, .int .i64 0, .int .i64 0, .int .i64 0, .int .i64 0] [(0, 7, v50)] h fun v51 h =>
 S n_law0_SameLines [v16, v51] h fun v52 h =>
 k49 v52 h)
 (.bool false) h fun v53 h =>
 condP v53 true (fun k54 =>
 S n_law0_Num [v21] h fun v55 h =>
 binP .eql .other v55 (.int .i64 0) fun v56 =>
 k54 v56 h)
 (.bool false) h fun v57 h =>
 condP v57 true (fun k58 =>
 lenP v20 fun v59 =>
 binP .eql .other v59 (.int .i64 8) fun v60 =>
 k58 v60 h)
 (.bool false) h fun v61 h =>
 condP v61 true (fun k62 =>
 idxP 8 v20 (.int .i64 6) fun v63 =>
 ldP 8 true v63 h fun v64 =>
 bldP [.int .i64 0, .int .i64 0, .int .i64 0, .int .i64 0, .int .i64 0, .int .i64 0, .int .i64 0, .int .i64 0] [(0, 1, .int .i64 6), (4, 1, .int .i64 9)] fun v65 =>
 binP .eql (.shape (.st [(0, 1, .i), (1, 1, .i), (2, 1, .i), (3, 1, .i), (4, 1, .i), (5, 1, .i), (6, 1, .i), (7, 1, .i)])) v64 v65 fun v66 =>
 k62 v66 h)
 (.bool false) h fun v67 h =>
 condP v67 true (fun k68 =>
 binP .eql .other v24 (.int .i64 3) fun v69 =>
 k68 v69 h)
 (.bool false) h fun v70 h =>
 condP v70 true (fun k71 =>
 binP .eql .other v25 (.int .i64 1) fun v72 =>
 k71 v72 h)
 (.bool false) h fun v73 h =>
 condP v73 true (fun k74 =>
 S n_law0_Num [v26] h fun v75 h =>
 binP .eql .other v75 (.int .i64 0) fun v76 =>
 k74 v76 h)
 (.bool false) h fun v77 h =>
 condP v77 true (fun k78 =>
 binP .eql .other v29 (.int .i64 (-1)) fun v79 =>
 k78 v79 h)
 (.bool false) h fun v80 h =>
 condP v80 true (fun k81 =>
 binP .eql .other v30 (.int .i64 (-1)) fun v82 =>
 k81 v82 h)
 (.bool false) h fun v83 h =>
 condP v83 true (fun k84 =>
 S n_law0_Num [v31] h fun v85 h =>
 binP .eql .other v85 (.int .i64 0) fun v86 =>
 k84 v86 h)
 (.bool false) h fun v87 h =>
 condP v87 true (fun k88 =>
 S n_law0_Num [v37] h fun v89 h =>
 binP .eql .other v89 (.int .i64 2500) fun v90 =>
 k88 v90 h)
 (.bool false) h fun v91 h =>
 condP v91 true (fun k92 =>
 S n_law0_Num [v41] h fun v93 h =>
 binP .eql .other v93 (.int .i64 2500) fun v94 =>
 k92 v94 h)
 (.bool false) h fun v95 h =>
 condP v95 true (fun k96 =>
 S n_law0_Num [v46] h fun v97 h =>
 binP .eql .other v97 (.int .i64 2500) fun v98 =>
 k96 v98 h)
 (.bool false) h fun v99 h =>
 K v99 h
theorem q_law25_awake (S : FuncId → List AVal → AHeap A → (AVal → AHeap A → Prop) → Prop) (G : Nat → AHeap A → List AVal → (List AVal → AHeap A → Prop) → Prop) (h : AHeap A) (K : AVal → AHeap A → Prop) : funP Tryz.prog S G Tryz.f17 .leaf [] h K = p_law25_awake S G h K := by kernel_rfl
theorem c_law25_awake {R : Adts A} {h : AHeap A} {K : AVal → AHeap A → Prop} (hk : p_law25_awake (Tri Pr R) (Gives Pr R) h K) : Tri Pr R n_law25_awake [] h K :=
  tri_of_funP (by kernel_rfl) (fun _ _ _ _ h => h) (fun _ _ _ _ h => h) Tryz.func17 (by rw [q_law25_awake]; exact hk)
/-- bastion/bastionlaw0.CopyEvents -/
def p_law0_CopyEvents (S : FuncId → List AVal → AHeap A → (AVal → AHeap A → Prop) → Prop) (G : Nat → AHeap A → List AVal → (List AVal → AHeap A → Prop) → Prop) (a0 : AVal) (h : AHeap A) (K : AVal → AHeap A → Prop) : Prop :=
 bslP t_api_Event 0 [] [] h fun v1 h =>
 appP t_api_Event 8 64 v1 a0 h fun v2 h =>
 K v2 h
theorem q_law0_CopyEvents (S : FuncId → List AVal → AHeap A → (AVal → AHeap A → Prop) → Prop) (G : Nat → AHeap A → List AVal → (List AVal → AHeap A → Prop) → Prop) (a0 : AVal) (h : AHeap A) (K : AVal → AHeap A → Prop) : funP Tryz.prog S G Tryz.f18 .leaf [a0] h K = p_law0_CopyEvents S G a0 h K := by kernel_rfl
theorem c_law0_CopyEvents {R : Adts A} {h : AHeap A} {K : AVal → AHeap A → Prop} {a0 : AVal} (hk : p_law0_CopyEvents (Tri Pr R) (Gives Pr R) a0 h K) : Tri Pr R n_law0_CopyEvents [a0] h K :=
  tri_of_funP (by kernel_rfl) (fun _ _ _ _ h => h) (fun _ _ _ _ h => h) Tryz.func18 (by rw [q_law0_CopyEvents]; exact hk)
end Go.AI
