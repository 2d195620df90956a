/- The functions as texts over the abstract heap. -/
import Derived.Test.YtmdlhohhimdkaaaGreatNm
import Derived.KernelRfl
set_option linter.all false
namespace Go.AI
open Go.Proofs
set_option maxRecDepth 1000000
variable {A : Type}
/-- bastion/audit.walk -/
def p_audit_walk (S : FuncId → List AVal → AHeap A → (AVal → AHeap A → Prop) → Prop) (G : Nat → AHeap A → List AVal → (List AVal → AHeap A → Prop) → Prop) (a0 a1 a2 : AVal) (h : AHeap A) (K : AVal → AHeap A → Prop) : Prop :=
 boxP t_api_Config 12 a0 h fun v1 h =>
 newP t_api_State [.int .i64 0, .int .i64 0, .int .i64 0, .nils, .nils, .nils, .nils] h fun v2 h =>
 fadP 3 v1 fun v3 =>
 ldP 1 false v3 h fun v4 =>
 S n_state_New [v4] h fun v5 h =>
 extP v5 0 fun v6 =>
 extP v5 1 fun v7 =>
 newP t_api_State [.int .i64 0, .int .i64 0, .int .i64 0, .nils, .nils, .nils, .nils] h fun v8 h =>
 stP 7 v8 v6 h fun h =>
 binP .neq .other v7 (.int .i64 0) fun v9 =>
 iteP v9
 (bldP [.int .i64 0, .int .i64 0, .int .i64 0, .nils, .nils, .nils, .nils] [] fun v10 =>
 mkiP t_api_Errno v7 fun v11 =>
 bldP [.int .i64 0, .nili] [(0, 1, .int .i64 0), (1, 1, v11)] fun v12 =>
 boxP t_audit_refused 2 v12 h fun v13 h =>
 mkiP t_p_audit_refused v13 fun v14 =>
 stP 7 v2 v10 h fun h =>
 ldP 7 true v2 h fun v15 =>
 K (.tup [v15, v14]) h)
 (lenP a1 fun v16 =>
 loopP G (fun v51 h k18 =>
 (fun v17 =>
 binP .lss .other v17 v16 fun v19 =>
 iteP v19
 (joinP G h.length (fun k20 =>
 idxP 8 a1 v17 fun v21 =>
 ldP 12 true v1 h fun v22 =>
 ldP 7 true v8 h fun v23 =>
 ldP 8 true v21 h fun v24 =>
 (S n_state_Apply [v22, v23, v24] h fun v25 h =>
 extP v25 0 fun v26 =>
 extP v25 1 fun v27 =>
 newP t_api_State [.int .i64 0, .int .i64 0, .int .i64 0, .nils, .nils, .nils, .nils] h fun v28 h =>
 stP 7 v28 v26 h fun h =>
 k20 [v28, v27] h) ∧
 (newP t_api_State [.int .i64 0, .int .i64 0, .int .i64 0, .nils, .nils, .nils, .nils] h fun v29 h =>
 ldV 8 true v21 h = some v24 ∧
 ldV 7 true v8 h = some v23 ∧
 ldV 12 true v1 h = some v22 ∧
 S n_state_Apply [v22, v23, v24] h fun v30 h =>
 extP v30 0 fun v31 =>
 extP v30 1 fun v32 =>
 stP 7 v29 v31 h fun h =>
 k20 [v29, v32] h))
 (fun v48 h =>
 (fun v33 v34 =>
 binP .neq .other v34 (.int .i64 0) fun v35 =>
 iteP v35
 (bldP [.int .i64 0, .int .i64 0, .int .i64 0, .nils, .nils, .nils, .nils] [] fun v36 =>
 mkiP t_api_Errno v34 fun v37 =>
 bldP [.int .i64 0, .nili] [(0, 1, v17), (1, 1, v37)] fun v38 =>
 boxP t_audit_refused 2 v38 h fun v39 h =>
 mkiP t_p_audit_refused v39 fun v40 =>
 stP 7 v2 v36 h fun h =>
 ldP 7 true v2 h fun v41 =>
 K (.tup [v41, v40]) h)
 (idxP 8 a1 v17 fun v42 =>
 bldP [.int .i64 0, .nilp, .nilp, .nilp] [(0, 1, v17), (1, 1, v42), (2, 1, v8), (3, 1, v33)] fun v43 =>
 boxP t_audit_seen 4 v43 h fun v44 h =>
 dynP Pr S a2 [v44] h fun v45 h =>
 ldP 7 true v33 h fun v46 =>
 stP 7 v8 v46 h fun h =>
 binP .add .other v17 (.int .i64 1) fun v47 =>
 k18 [v47] h)) (v48.getD 0 .any) (v48.getD 1 .any)))
 (ldP 7 true v8 h fun v49 =>
 stP 7 v2 v49 h fun h =>
 ldP 7 true v2 h fun v50 =>
 K (.tup [v50, .nili]) h)) (v51.getD 0 .any)) [.int .i64 0] h)
theorem q_audit_walk (S : FuncId → List AVal → AHeap A → (AVal → AHeap A → Prop) → Prop) (G : Nat → AHeap A → List AVal → (List AVal → AHeap A → Prop) → Prop) (a0 a1 a2 : AVal) (h : AHeap A) (K : AVal → AHeap A → Prop) : funP Tryz.prog S G Tryz.f19 (.two none .leaf (.two none .leaf (.two none .leaf (.two none (.two none .leaf (.one [] (.one [29] (.two none .leaf (.two none .leaf (.two none (.one [] (.two none .leaf (.two none (.draw (some [11, 12]) (.take 2 (.take 3 (.take 4 (.load 0 (.load 1 (.load 5 (.alt 6 (.take 7 (.take 8 (.take 9 (.alt 10 (.alt 11 (.take 12 .stop) .stop) .stop)))) (.alt 10 (.alt 6 (.take 7 (.take 8 (.take 9 (.alt 11 (.take 12 .stop) .stop)))) .stop) .stop))))))))) .leaf))) .leaf)))))) .leaf)))) [a0, a1, a2] h K = p_audit_walk S G a0 a1 a2 h K := by kernel_rfl
theorem c_audit_walk {R : Adts A} {h : AHeap A} {K : AVal → AHeap A → Prop} {a0 a1 a2 : AVal} (hk : p_audit_walk (Tri Pr R) (Gives Pr R) a0 a1 a2 h K) : Tri Pr R n_audit_walk [a0, a1, a2] h K :=
  tri_of_funP (by kernel_rfl) (fun _ _ _ _ h => h) (fun _ _ _ _ h => h) Tryz.func19 (by rw [q_audit_walk]; exact hk)
/-- bastion/audit.Lines$1 -/
def p_audit_Lines_c1 (S : FuncId → List AVal → AHeap A → (AVal → AHeap A → Prop) → Prop) (G : Nat → AHeap A → List AVal → (List AVal → AHeap A → Prop) → Prop) (a0 a1 a2 a3 : AVal) (h : AHeap A) (K : AVal → AHeap A → Prop) : Prop :=
 ldP 1 false a1 h fun v1 =>
 ldP 1 false a2 h fun v2 =>
 fadP 4 a3 fun v3 =>
 ldP 1 false v3 h fun v4 =>
 S n_audit_lines_count [v1, a0, v2, v4] h fun v5 h =>
 nilP a0 fun v6 =>
 fadP 1 v6 fun v7 =>
 ldP 1 false v7 h fun v8 =>
 nilP v8 fun v9 =>
 fadP 0 v9 fun v10 =>
 ldP 1 false v10 h fun v11 =>
 binP .eql .other v11 (.int .i64 9) fun v12 =>
 stP 1 a2 v12 h fun h =>
 K (.tup []) h
theorem q_audit_Lines_c1 (S : FuncId → List AVal → AHeap A → (AVal → AHeap A → Prop) → Prop) (G : Nat → AHeap A → List AVal → (List AVal → AHeap A → Prop) → Prop) (a0 a1 a2 a3 : AVal) (h : AHeap A) (K : AVal → AHeap A → Prop) : funP Tryz.prog S G Tryz.f20 .leaf [a0, a1, a2, a3] h K = p_audit_Lines_c1 S G a0 a1 a2 a3 h K := by kernel_rfl
theorem c_audit_Lines_c1 {R : Adts A} {h : AHeap A} {K : AVal → AHeap A → Prop} {a0 a1 a2 a3 : AVal} (hk : p_audit_Lines_c1 (Tri Pr R) (Gives Pr R) a0 a1 a2 a3 h K) : Tri Pr R n_audit_Lines_c1 [a0, a1, a2, a3] h K :=
  tri_of_funP (by kernel_rfl) (fun _ _ _ _ h => h) (fun _ _ _ _ h => h) Tryz.func20 (by rw [q_audit_Lines_c1]; exact hk)
/-- (bastion/audit.lines).count -/
def p_audit_lines_count (S : FuncId → List AVal → AHeap A → (AVal → AHeap A → Prop) → Prop) (G : Nat → AHeap A → List AVal → (List AVal → AHeap A → Prop) → Prop) (a0 a1 a2 a3 : AVal) (h : AHeap A) (K : AVal → AHeap A → Prop) : Prop :=
 nilP a1 fun v1 =>
 fadP 1 v1 fun v2 =>
 ldP 1 false v2 h fun v3 =>
 nilP v3 fun v4 =>
 fadP 0 v4 fun v5 =>
 ldP 1 false v5 h fun v6 =>
 binP .eql .other v6 (.int .i64 3) fun v7 =>
 iteP v7
 (nilP a1 fun v8 =>
 fadP 1 v8 fun v9 =>
 ldP 1 false v9 h fun v10 =>
 nilP v10 fun v11 =>
 fadP 1 v11 fun v12 =>
 ldP 1 false v12 h fun v13 =>
 S n_audit_lines_line [a0, v13] h fun v14 h =>
 nilP v14 fun v15 =>
 fadP 1 v15 fun v16 =>
 ldP 1 false v16 h fun v17 =>
 binP .add .other v17 (.int .i64 1) fun v18 =>
 nilP v14 fun v19 =>
 fadP 1 v19 fun v20 =>
 stP 1 v20 v18 h fun h =>
 K (.tup []) h)
 (binP .eql .other v6 (.int .i64 2) fun v21 =>
 iteP v21
 (nilP a1 fun v22 =>
 fadP 1 v22 fun v23 =>
 ldP 1 false v23 h fun v24 =>
 nilP v24 fun v25 =>
 fadP 1 v25 fun v26 =>
 ldP 1 false v26 h fun v27 =>
 S n_audit_lines_line [a0, v27] h fun v28 h =>
 nilP v28 fun v29 =>
 fadP 3 v29 fun v30 =>
 ldP 1 false v30 h fun v31 =>
 binP .add .other v31 (.int .i64 1) fun v32 =>
 nilP v28 fun v33 =>
 fadP 3 v33 fun v34 =>
 stP 1 v34 v32 h fun h =>
 nilP a1 fun v35 =>
 fadP 3 v35 fun v36 =>
 nilP a1 fun v37 =>
 fadP 1 v37 fun v38 =>
 ldP 1 false v36 h fun v39 =>
 ldP 1 false v38 h fun v40 =>
 ldV 1 false v36 h = some v39 ∧
 nilP v40 fun v41 =>
 fadP 1 v41 fun v42 =>
 ldP 1 false v42 h fun v43 =>
 ldV 1 false v36 h = some v39 ∧
 S n_state_User [v39, v43] h fun v44 h =>
 nilP v44 fun v45 =>
 fadP 5 v45 fun v46 =>
 fadP 0 v46 fun v47 =>
 ldP 1 false v47 h fun v48 =>
 binP .eql .other v48 a3 fun v49 =>
 iteP v49
 (nilP v28 fun v50 =>
 fadP 4 v50 fun v51 =>
 ldP 1 false v51 h fun v52 =>
 binP .add .other v52 (.int .i64 1) fun v53 =>
 nilP v28 fun v54 =>
 fadP 4 v54 fun v55 =>
 stP 1 v55 v53 h fun h =>
 K (.tup []) h)
 (K (.tup []) h))
 (binP .eql .other v6 (.int .i64 5) fun v56 =>
 iteP v56
 (iteP a2
 (nilP a1 fun v57 =>
 fadP 1 v57 fun v58 =>
 ldP 1 false v58 h fun v59 =>
 nilP v59 fun v60 =>
 fadP 1 v60 fun v61 =>
 ldP 1 false v61 h fun v62 =>
 S n_audit_lines_line [a0, v62] h fun v63 h =>
 nilP v63 fun v64 =>
 fadP 2 v64 fun v65 =>
 ldP 1 false v65 h fun v66 =>
 binP .add .other v66 (.int .i64 1) fun v67 =>
 nilP v63 fun v68 =>
 fadP 2 v68 fun v69 =>
 stP 1 v69 v67 h fun h =>
 K (.tup []) h)
 (K (.tup []) h))
 (K (.tup []) h)))
theorem q_audit_lines_count (S : FuncId → List AVal → AHeap A → (AVal → AHeap A → Prop) → Prop) (G : Nat → AHeap A → List AVal → (List AVal → AHeap A → Prop) → Prop) (a0 a1 a2 a3 : AVal) (h : AHeap A) (K : AVal → AHeap A → Prop) : funP Tryz.prog S G Tryz.f21 (.two none .leaf (.one [] (.two none .leaf (.two none .leaf (.two none .leaf (.two none (.two none .leaf (.two none .leaf (.two none (.draw none (.take 0 (.take 1 (.take 2 (.take 4 (.take 5 (.take 6 (.take 16 (.load 3 (.alt 7 (.take 8 (.take 9 (.alt 10 (.alt 11 (.take 12 (.take 13 (.take 14 (.alt 15 (.take 17 .stop) .stop)))) .stop) .stop))) .stop)))))))))) .leaf))) .leaf)))))) [a0, a1, a2, a3] h K = p_audit_lines_count S G a0 a1 a2 a3 h K := by kernel_rfl
theorem c_audit_lines_count {R : Adts A} {h : AHeap A} {K : AVal → AHeap A → Prop} {a0 a1 a2 a3 : AVal} (hk : p_audit_lines_count (Tri Pr R) (Gives Pr R) a0 a1 a2 a3 h K) : Tri Pr R n_audit_lines_count [a0, a1, a2, a3] h K :=
  tri_of_funP (by kernel_rfl) (fun _ _ _ _ h => h) (fun _ _ _ _ h => h) Tryz.func21 (by rw [q_audit_lines_count]; exact hk)
/-- bastion/audit.bad -/
def p_audit_bad (S : FuncId → List AVal → AHeap A → (AVal → AHeap A → Prop) → Prop) (G : Nat → AHeap A → List AVal → (List AVal → AHeap A → Prop) → Prop) (a0 : AVal) (h : AHeap A) (K : AVal → AHeap A → Prop) : Prop :=
 mkiP t_api_Errno (.int .i64 2000) fun v1 =>
 S n_errors_Is [a0, v1] h fun v2 h =>
 condP v2 false (fun k3 =>
 mkiP t_api_Errno (.int .i64 2001) fun v4 =>
 S n_errors_Is [a0, v4] h fun v5 h =>
 k3 v5 h)
 (.bool true) h fun v6 h =>
 K v6 h
theorem q_audit_bad (S : FuncId → List AVal → AHeap A → (AVal → AHeap A → Prop) → Prop) (G : Nat → AHeap A → List AVal → (List AVal → AHeap A → Prop) → Prop) (a0 : AVal) (h : AHeap A) (K : AVal → AHeap A → Prop) : funP Tryz.prog S G Tryz.f22 .leaf [a0] h K = p_audit_bad S G a0 h K := by kernel_rfl
theorem c_audit_bad {R : Adts A} {h : AHeap A} {K : AVal → AHeap A → Prop} {a0 : AVal} (hk : p_audit_bad (Tri Pr R) (Gives Pr R) a0 h K) : Tri Pr R n_audit_bad [a0] h K :=
  tri_of_funP (by kernel_rfl) (fun _ _ _ _ h => h) (fun _ _ _ _ h => h) Tryz.func22 (by rw [q_audit_bad]; exact hk)
/-- (bastion/audit.lines).line -/
def p_audit_lines_line (S : FuncId → List AVal → AHeap A → (AVal → AHeap A → Prop) → Prop) (G : Nat → AHeap A → List AVal → (List AVal → AHeap A → Prop) → Prop) (a0 a1 : AVal) (h : AHeap A) (K : AVal → AHeap A → Prop) : Prop :=
 joinP G h.length (fun k1 =>
 lkP false .nilp false a0 a1 h fun v2 =>
 binP .eql .ptr v2 .nilp fun v3 =>
 iteP v3
 (bldP [.int .i64 0, .int .i64 0, .int .i64 0, .int .i64 0, .int .i64 0, .int .i64 0, .int .i64 0] [(0, 1, a1)] fun v4 =>
 boxP t_api_Line 7 v4 h fun v5 h =>
 mupP false a0 a1 v5 h fun h =>
 k1 [] h)
 (k1 [] h))
 (fun _ h =>
 lkP false .nilp false a0 a1 h fun v6 =>
 K v6 h)
theorem q_audit_lines_line (S : FuncId → List AVal → AHeap A → (AVal → AHeap A → Prop) → Prop) (G : Nat → AHeap A → List AVal → (List AVal → AHeap A → Prop) → Prop) (a0 a1 : AVal) (h : AHeap A) (K : AVal → AHeap A → Prop) : funP Tryz.prog S G Tryz.f23 (.two none .leaf (.two (some []) .leaf .leaf)) [a0, a1] h K = p_audit_lines_line S G a0 a1 h K := by kernel_rfl
theorem c_audit_lines_line {R : Adts A} {h : AHeap A} {K : AVal → AHeap A → Prop} {a0 a1 : AVal} (hk : p_audit_lines_line (Tri Pr R) (Gives Pr R) a0 a1 h K) : Tri Pr R n_audit_lines_line [a0, a1] h K :=
  tri_of_funP (by kernel_rfl) (fun _ _ _ _ h => h) (fun _ _ _ _ h => h) Tryz.func23 (by rw [q_audit_lines_line]; exact hk)
/-- bastion/bastionref20.All -/
def p_ref20_All (S : FuncId → List AVal → AHeap A → (AVal → AHeap A → Prop) → Prop) (G : Nat → AHeap A → List AVal → (List AVal → AHeap A → Prop) → Prop) (a0 a1 : AVal) (h : AHeap A) (K : AVal → AHeap A → Prop) : Prop :=
 boxP t_api_Config 12 a0 h fun v1 h =>
 newP t_api_State [.int .i64 0, .int .i64 0, .int .i64 0, .nils, .nils, .nils, .nils] h fun v2 h =>
 fadP 3 v1 fun v3 =>
 ldP 1 false v3 h fun v4 =>
 S n_ref20_NewState [v4] h fun v5 h =>
 extP v5 0 fun v6 =>
 extP v5 1 fun v7 =>
 newP t_api_State [.int .i64 0, .int .i64 0, .int .i64 0, .nils, .nils, .nils, .nils] h fun v8 h =>
 stP 7 v8 v6 h fun h =>
 binP .neq .other v7 (.int .i64 0) fun v9 =>
 iteP v9
 (bldP [.int .i64 0, .int .i64 0, .int .i64 0, .nils, .nils, .nils, .nils] [] fun v10 =>
 stP 7 v2 v10 h fun h =>
 ldP 7 true v2 h fun v11 =>
 K (.tup [v11, v7]) h)
 (loopP G (fun v39 h k13 =>
 (fun v12 =>
 lenP a1 fun v14 =>
 binP .lss .other v12 v14 fun v15 =>
 iteP v15
 (joinP G h.length (fun k16 =>
 idxP 8 a1 v12 fun v17 =>
 ldP 12 true v1 h fun v18 =>
 ldP 7 true v8 h fun v19 =>
 ldP 8 true v17 h fun v20 =>
 (S n_ref20_Apply [v18, v19, v20] h fun v21 h =>
 extP v21 0 fun v22 =>
 extP v21 1 fun v23 =>
 newP t_api_State [.int .i64 0, .int .i64 0, .int .i64 0, .nils, .nils, .nils, .nils] h fun v24 h =>
 stP 7 v24 v22 h fun h =>
 k16 [v24, v23] h) ∧
 (newP t_api_State [.int .i64 0, .int .i64 0, .int .i64 0, .nils, .nils, .nils, .nils] h fun v25 h =>
 ldV 8 true v17 h = some v20 ∧
 ldV 7 true v8 h = some v19 ∧
 ldV 12 true v1 h = some v18 ∧
 S n_ref20_Apply [v18, v19, v20] h fun v26 h =>
 extP v26 0 fun v27 =>
 extP v26 1 fun v28 =>
 stP 7 v25 v27 h fun h =>
 k16 [v25, v28] h))
 (fun v36 h =>
 (fun v29 v30 =>
 binP .neq .other v30 (.int .i64 0) fun v31 =>
 iteP v31
 (bldP [.int .i64 0, .int .i64 0, .int .i64 0, .nils, .nils, .nils, .nils] [] fun v32 =>
 stP 7 v2 v32 h fun h =>
 ldP 7 true v2 h fun v33 =>
 K (.tup [v33, v30]) h)
 (ldP 7 true v29 h fun v34 =>
 stP 7 v8 v34 h fun h =>
 binP .add .other v12 (.int .i64 1) fun v35 =>
 k13 [v35] h)) (v36.getD 0 .any) (v36.getD 1 .any)))
 (ldP 7 true v8 h fun v37 =>
 stP 7 v2 v37 h fun h =>
 ldP 7 true v2 h fun v38 =>
 K (.tup [v38, .int .i64 0]) h)) (v39.getD 0 .any)) [.int .i64 0] h)
theorem q_ref20_All (S : FuncId → List AVal → AHeap A → (AVal → AHeap A → Prop) → Prop) (G : Nat → AHeap A → List AVal → (List AVal → AHeap A → Prop) → Prop) (a0 a1 : AVal) (h : AHeap A) (K : AVal → AHeap A → Prop) : funP Tryz.prog S G Tryz.f24 (.two none .leaf (.two none .leaf (.two none .leaf (.two none (.two none .leaf (.one [] (.one [8] (.two none .leaf (.two none (.one [] (.two none (.draw (some [9, 10]) (.take 2 (.take 3 (.take 4 (.load 0 (.load 1 (.load 5 (.alt 6 (.take 7 (.take 8 (.take 9 (.alt 10 (.alt 11 (.take 12 .stop) .stop) .stop)))) (.alt 10 (.alt 6 (.take 7 (.take 8 (.take 9 (.alt 11 (.take 12 .stop) .stop)))) .stop) .stop))))))))) .leaf)) .leaf))))) .leaf)))) [a0, a1] h K = p_ref20_All S G a0 a1 h K := by kernel_rfl
theorem c_ref20_All {R : Adts A} {h : AHeap A} {K : AVal → AHeap A → Prop} {a0 a1 : AVal} (hk : p_ref20_All (Tri Pr R) (Gives Pr R) a0 a1 h K) : Tri Pr R n_ref20_All [a0, a1] h K :=
  tri_of_funP (by kernel_rfl) (fun _ _ _ _ h => h) (fun _ _ _ _ h => h) Tryz.func24 (by rw [q_ref20_All]; exact hk)
/-- bastion/bastionref20.counted -/
def p_ref20_counted (S : FuncId → List AVal → AHeap A → (AVal → AHeap A → Prop) → Prop) (G : Nat → AHeap A → List AVal → (List AVal → AHeap A → Prop) → Prop) (a0 a1 a2 : AVal) (h : AHeap A) (K : AVal → AHeap A → Prop) : Prop :=
 boxP t_api_Config 12 a0 h fun v1 h =>
 boxP t_api_Line 7 a1 h fun v2 h =>
 newP t_api_Line [.int .i64 0, .int .i64 0, .int .i64 0, .int .i64 0, .int .i64 0, .int .i64 0, .int .i64 0] h fun v3 h =>
 fadP 3 v1 fun v4 =>
 ldP 1 false v4 h fun v5 =>
 S n_ref20_NewState [v5] h fun v6 h =>
 extP v6 0 fun v7 =>
 extP v6 1 fun v8 =>
 newP t_api_State [.int .i64 0, .int .i64 0, .int .i64 0, .nils, .nils, .nils, .nils] h fun v9 h =>
 stP 7 v9 v7 h fun h =>
 loopP G (fun v84 h k11 =>
 (fun v10 =>
 lenP a2 fun v12 =>
 binP .lss .other v10 v12 fun v13 =>
 iteP v13
 (joinP G h.length (fun k14 =>
 joinP G h.length (fun k15 =>
 idxP 8 a2 v10 fun v16 =>
 ldP 12 true v1 h fun v17 =>
 ldP 7 true v9 h fun v18 =>
 ldP 8 true v16 h fun v19 =>
 (S n_ref20_Apply [v17, v18, v19] h fun v20 h =>
 extP v20 0 fun v21 =>
 extP v20 1 fun v22 =>
 newP t_api_State [.int .i64 0, .int .i64 0, .int .i64 0, .nils, .nils, .nils, .nils] h fun v23 h =>
 stP 7 v23 v21 h fun h =>
 k15 [v23] h) ∧
 (newP t_api_State [.int .i64 0, .int .i64 0, .int .i64 0, .nils, .nils, .nils, .nils] h fun v24 h =>
 ldV 8 true v16 h = some v19 ∧
 ldV 7 true v9 h = some v18 ∧
 ldV 12 true v1 h = some v17 ∧
 S n_ref20_Apply [v17, v18, v19] h fun v25 h =>
 extP v25 0 fun v26 =>
 extP v25 1 fun v27 =>
 stP 7 v24 v26 h fun h =>
 k15 [v24] h))
 (fun v79 h =>
 (fun v28 =>
 ldP 7 true v28 h fun v29 =>
 stP 7 v9 v29 h fun h =>
 idxP 8 a2 v10 fun v30 =>
 fadP 1 v30 fun v31 =>
 fadP 0 v2 fun v32 =>
 ldP 1 false v31 h fun v33 =>
 ldP 1 false v32 h fun v34 =>
 ldV 1 false v31 h = some v33 ∧
 binP .neq .other v33 v34 fun v35 =>
 iteP v35
 (k14 [] h)
 (idxP 8 a2 v10 fun v36 =>
 fadP 0 v36 fun v37 =>
 ldP 1 false v37 h fun v38 =>
 binP .eql .other v38 (.int .i64 3) fun v39 =>
 iteP v39
 (fadP 1 v2 fun v40 =>
 ldP 1 false v40 h fun v41 =>
 binP .add .other v41 (.int .i64 1) fun v42 =>
 fadP 1 v2 fun v43 =>
 stP 1 v43 v42 h fun h =>
 k14 [] h)
 (binP .eql .other v38 (.int .i64 2) fun v44 =>
 iteP v44
 (fadP 3 v2 fun v45 =>
 ldP 1 false v45 h fun v46 =>
 binP .add .other v46 (.int .i64 1) fun v47 =>
 fadP 3 v2 fun v48 =>
 stP 1 v48 v47 h fun h =>
 fadP 3 v9 fun v49 =>
 fadP 0 v2 fun v50 =>
 fadP 4 v1 fun v51 =>
 ldP 1 false v49 h fun v52 =>
 ldP 1 false v51 h fun v53 =>
 ldP 7 true v9 h fun v54 =>
 ldP 1 false v50 h fun v55 =>
 ldV 7 true v9 h = some v54 ∧
 ldV 1 false v51 h = some v53 ∧
 ldV 1 false v49 h = some v52 ∧
 S n_ref20_UserAt [v54, v55] h fun v56 h =>
 ldV 1 false v51 h = some v53 ∧
 ldV 1 false v49 h = some v52 ∧
 idxP 9 v52 v56 fun v57 =>
 fadP 5 v57 fun v58 =>
 fadP 0 v58 fun v59 =>
 ldP 1 false v59 h fun v60 =>
 ldV 1 false v51 h = some v53 ∧
 binP .eql .other v60 v53 fun v61 =>
 iteP v61
 (fadP 4 v2 fun v62 =>
 ldP 1 false v62 h fun v63 =>
 binP .add .other v63 (.int .i64 1) fun v64 =>
 fadP 4 v2 fun v65 =>
 stP 1 v65 v64 h fun h =>
 k14 [] h)
 (k14 [] h))
 (binP .eql .other v38 (.int .i64 5) fun v66 =>
 iteP v66
 (binP .gtr .other v10 (.int .i64 0) fun v67 =>
 condP v67 true (fun k68 =>
 binP .sub .other v10 (.int .i64 1) fun v69 =>
 idxP 8 a2 v69 fun v70 =>
 fadP 0 v70 fun v71 =>
 ldP 1 false v71 h fun v72 =>
 binP .eql .other v72 (.int .i64 9) fun v73 =>
 k68 v73 h)
 (.bool false) h fun v74 h =>
 iteP v74
 (fadP 2 v2 fun v75 =>
 ldP 1 false v75 h fun v76 =>
 binP .add .other v76 (.int .i64 1) fun v77 =>
 fadP 2 v2 fun v78 =>
 stP 1 v78 v77 h fun h =>
 k14 [] h)
 (k14 [] h))
 (k14 [] h))))) (v79.getD 0 .any)))
 (fun _ h =>
 binP .add .other v10 (.int .i64 1) fun v80 =>
 k11 [v80] h))
 (ldP 7 true v2 h fun v82 =>
 stP 7 v3 v82 h fun h =>
 ldP 7 true v3 h fun v83 =>
 K v83 h)) (v84.getD 0 .any)) [.int .i64 0] h
theorem q_ref20_counted (S : FuncId → List AVal → AHeap A → (AVal → AHeap A → Prop) → Prop) (G : Nat → AHeap A → List AVal → (List AVal → AHeap A → Prop) → Prop) (a0 a1 a2 : AVal) (h : AHeap A) (K : AVal → AHeap A → Prop) : funP Tryz.prog S G Tryz.f25 (.two none .leaf (.two none .leaf (.two none (.two none .leaf (.one [] (.one [9] (.two none .leaf (.two (some []) (.one [] (.two none (.draw (some [10]) (.take 2 (.take 3 (.take 4 (.load 0 (.load 1 (.load 5 (.alt 6 (.take 7 (.take 8 (.take 9 (.alt 10 (.alt 11 (.take 12 .stop) .stop) .stop)))) (.alt 10 (.alt 6 (.take 7 (.take 8 (.take 9 (.alt 11 (.take 12 .stop) .stop)))) .stop) .stop))))))))) (.two none .leaf (.two none (.two none (.draw none (.take 0 (.take 1 (.take 2 (.take 3 (.take 5 (.load 4 (.alt 6 (.take 7 .stop) .stop)))))))) .leaf) (.two none .leaf (.one [] (.two none .leaf (.two none .leaf (.two none .leaf (.two none (.two none .leaf (.two none (.draw none (.take 0 (.take 3 (.take 10 (.load 1 (.load 11 (.load 2 (.alt 4 (.alt 5 (.take 6 (.take 7 (.take 8 (.alt 9 (.take 12 .stop) .stop)))) .stop) .stop)))))))) .leaf)) .leaf)))))))))) .leaf))))) .leaf))) [a0, a1, a2] h K = p_ref20_counted S G a0 a1 a2 h K := by kernel_rfl
theorem c_ref20_counted {R : Adts A} {h : AHeap A} {K : AVal → AHeap A → Prop} {a0 a1 a2 : AVal} (hk : p_ref20_counted (Tri Pr R) (Gives Pr R) a0 a1 a2 h K) : Tri Pr R n_ref20_counted [a0, a1, a2] h K :=
  tri_of_funP (by kernel_rfl) (fun _ _ _ _ h => h) (fun _ _ _ _ h => h) Tryz.func25 (by rw [q_ref20_counted]; exact hk)
/-- bastion/audit.Trace$1 -/
def p_audit_Trace_c1 (S : FuncId → List AVal → AHeap A → (AVal → AHeap A → Prop) → Prop) (G : Nat → AHeap A → List AVal → (List AVal → AHeap A → Prop) → Prop) (a0 a1 a2 : AVal) (h : AHeap A) (K : AVal → AHeap A → Prop) : Prop :=
 ldP 1 false a1 h fun v1 =>
 S n_audit_seen_of [a0] h fun v2 h =>
 ldV 1 false a1 h = some v1 ∧
 binP .eql .other v2 v1 fun v3 =>
 iteP v3
 (nilP a0 fun v4 =>
 fadP 1 v4 fun v5 =>
 ldP 1 false a2 h fun v6 =>
 ldP 1 false v5 h fun v7 =>
 ldV 1 false a2 h = some v6 ∧
 nilP v7 fun v8 =>
 ldP 8 true v8 h fun v9 =>
 ldV 1 false a2 h = some v6 ∧
 bslP t_api_Event 1 [.int .i64 0, .int .i64 0, .int .i64 0, .int .i64 0, .int .i64 0, .int .i64 0, .int .i64 0, .int .i64 0] [(0, 8, v9)] h fun v10 h =>
 ldV 1 false a2 h = some v6 ∧
 appP t_api_Event 8 64 v6 v10 h fun v11 h =>
 stP 1 a2 v11 h fun h =>
 K (.tup []) h)
 (K (.tup []) h)
theorem q_audit_Trace_c1 (S : FuncId → List AVal → AHeap A → (AVal → AHeap A → Prop) → Prop) (G : Nat → AHeap A → List AVal → (List AVal → AHeap A → Prop) → Prop) (a0 a1 a2 : AVal) (h : AHeap A) (K : AVal → AHeap A → Prop) : funP Tryz.prog S G Tryz.f26 (.two none (.draw none (.take 0 (.load 2 (.alt 1 (.take 3 .stop) .stop)))) (.two none (.draw none (.take 1 (.take 2 (.take 3 (.load 0 (.alt 4 (.take 5 (.alt 6 (.alt 7 (.alt 8 (.alt 9 .stop .stop) .stop) .stop) .stop)) .stop)))))) .leaf)) [a0, a1, a2] h K = p_audit_Trace_c1 S G a0 a1 a2 h K := by kernel_rfl
theorem c_audit_Trace_c1 {R : Adts A} {h : AHeap A} {K : AVal → AHeap A → Prop} {a0 a1 a2 : AVal} (hk : p_audit_Trace_c1 (Tri Pr R) (Gives Pr R) a0 a1 a2 h K) : Tri Pr R n_audit_Trace_c1 [a0, a1, a2] h K :=
  tri_of_funP (by kernel_rfl) (fun _ _ _ _ h => h) (fun _ _ _ _ h => h) Tryz.func26 (by rw [q_audit_Trace_c1]; exact hk)
/-- (*bastion/audit.seen).of -/
def p_audit_seen_of (S : FuncId → List AVal → AHeap A → (AVal → AHeap A → Prop) → Prop) (G : Nat → AHeap A → List AVal → (List AVal → AHeap A → Prop) → Prop) (a0 : AVal) (h : AHeap A) (K : AVal → AHeap A → Prop) : Prop :=
 nilP a0 fun v1 =>
 fadP 1 v1 fun v2 =>
 ldP 1 false v2 h fun v3 =>
 nilP v3 fun v4 =>
 fadP 0 v4 fun v5 =>
 ldP 1 false v5 h fun v6 =>
 joinP G h.length (fun k7 =>
 binP .eql .other v6 (.int .i64 6) fun v8 =>
 iteP v8
 (nilP a0 fun v9 =>
 fadP 2 v9 fun v10 =>
 nilP a0 fun v11 =>
 fadP 1 v11 fun v12 =>
 ldP 1 false v10 h fun v13 =>
 ldP 1 false v12 h fun v14 =>
 ldV 1 false v10 h = some v13 ∧
 nilP v14 fun v15 =>
 fadP 2 v15 fun v16 =>
 ldP 1 false v16 h fun v17 =>
 ldV 1 false v10 h = some v13 ∧
 S n_state_Session [v13, v17] h fun v18 h =>
 binP .neq .ptr v18 .nilp fun v19 =>
 iteP v19
 (nilP v18 fun v20 =>
 fadP 1 v20 fun v21 =>
 ldP 1 false v21 h fun v22 =>
 K v22 h)
 (k7 [] h))
 (joinP G h.length (fun k23 =>
 binP .eql .other v6 (.int .i64 0) fun v24 =>
 iteP v24
 (k23 [v24] h)
 (binP .eql .other v6 (.int .i64 8) fun v25 =>
 iteP v25
 (k23 [v25] h)
 (binP .eql .other v6 (.int .i64 9) fun v26 =>
 k23 [v26] h)))
 (fun v34 h =>
 (fun v27 =>
 iteP v27
 (k7 [] h)
 (nilP a0 fun v28 =>
 fadP 1 v28 fun v29 =>
 ldP 1 false v29 h fun v30 =>
 nilP v30 fun v31 =>
 fadP 1 v31 fun v32 =>
 ldP 1 false v32 h fun v33 =>
 K v33 h)) (v34.getD 0 .any))))
 (fun _ h =>
 K (.int .i64 (-1)) h)
theorem q_audit_seen_of (S : FuncId → List AVal → AHeap A → (AVal → AHeap A → Prop) → Prop) (G : Nat → AHeap A → List AVal → (List AVal → AHeap A → Prop) → Prop) (a0 : AVal) (h : AHeap A) (K : AVal → AHeap A → Prop) : funP Tryz.prog S G Tryz.f27 (.two none .leaf (.two none (.two none .leaf (.one [] (.two (some []) (.one [] (.two none (.one [] (.two none (.two none .leaf (.two (some [13]) .leaf .leaf)) .leaf)) (.two none (.draw none (.take 0 (.take 1 (.take 2 (.take 4 (.take 5 (.take 6 (.load 3 (.alt 7 (.take 8 (.take 9 (.alt 10 (.alt 11 (.take 12 .stop) .stop) .stop))) .stop))))))))) .leaf))) .leaf))) .leaf)) [a0] h K = p_audit_seen_of S G a0 h K := by kernel_rfl
theorem c_audit_seen_of {R : Adts A} {h : AHeap A} {K : AVal → AHeap A → Prop} {a0 : AVal} (hk : p_audit_seen_of (Tri Pr R) (Gives Pr R) a0 h K) : Tri Pr R n_audit_seen_of [a0] h K :=
  tri_of_funP (by kernel_rfl) (fun _ _ _ _ h => h) (fun _ _ _ _ h => h) Tryz.func27 (by rw [q_audit_seen_of]; exact hk)
/-- bastion/state.User -/
def p_state_User (S : FuncId → List AVal → AHeap A → (AVal → AHeap A → Prop) → Prop) (G : Nat → AHeap A → List AVal → (List AVal → AHeap A → Prop) → Prop) (a0 a1 : AVal) (h : AHeap A) (K : AVal → AHeap A → Prop) : Prop :=
 boxP t_int 1 a1 h fun v1 h =>
 nilP a0 fun v2 =>
 fadP 3 v2 fun v3 =>
 ldP 1 false v3 h fun v4 =>
 mkfP (.func n_state_User_c1) [] [v1] fun v5 =>
 S n_slices_IndexFunc_api_User [v4, v5] h fun v6 h =>
 binP .lss .other v6 (.int .i64 0) fun v7 =>
 iteP v7
 (K .nilp h)
 (nilP a0 fun v8 =>
 fadP 3 v8 fun v9 =>
 ldP 1 false v9 h fun v10 =>
 idxP 9 v10 v6 fun v11 =>
 K v11 h)
theorem q_state_User (S : FuncId → List AVal → AHeap A → (AVal → AHeap A → Prop) → Prop) (G : Nat → AHeap A → List AVal → (List AVal → AHeap A → Prop) → Prop) (a0 a1 : AVal) (h : AHeap A) (K : AVal → AHeap A → Prop) : funP Tryz.prog S G Tryz.f28 .leaf [a0, a1] h K = p_state_User S G a0 a1 h K := by kernel_rfl
theorem c_state_User {R : Adts A} {h : AHeap A} {K : AVal → AHeap A → Prop} {a0 a1 : AVal} (hk : p_state_User (Tri Pr R) (Gives Pr R) a0 a1 h K) : Tri Pr R n_state_User [a0, a1] h K :=
  tri_of_funP (by kernel_rfl) (fun _ _ _ _ h => h) (fun _ _ _ _ h => h) Tryz.func28 (by rw [q_state_User]; exact hk)
/-- bastion/bastionref20.UserAt -/
def p_ref20_UserAt (S : FuncId → List AVal → AHeap A → (AVal → AHeap A → Prop) → Prop) (G : Nat → AHeap A → List AVal → (List AVal → AHeap A → Prop) → Prop) (a0 a1 : AVal) (h : AHeap A) (K : AVal → AHeap A → Prop) : Prop :=
 boxP t_api_State 7 a0 h fun v1 h =>
 loopP G (fun v15 h k3 =>
 (fun v2 =>
 fadP 3 v1 fun v4 =>
 ldP 1 false v4 h fun v5 =>
 lenP v5 fun v6 =>
 binP .lss .other v2 v6 fun v7 =>
 iteP v7
 (fadP 3 v1 fun v8 =>
 ldP 1 false v8 h fun v9 =>
 idxP 9 v9 v2 fun v10 =>
 fadP 0 v10 fun v11 =>
 ldP 1 false v11 h fun v12 =>
 binP .eql .other v12 a1 fun v13 =>
 iteP v13
 (K v2 h)
 (binP .add .other v2 (.int .i64 1) fun v14 =>
 k3 [v14] h))
 (K (.int .i64 (-1)) h)) (v15.getD 0 .any)) [.int .i64 0] h
theorem q_ref20_UserAt (S : FuncId → List AVal → AHeap A → (AVal → AHeap A → Prop) → Prop) (G : Nat → AHeap A → List AVal → (List AVal → AHeap A → Prop) → Prop) (a0 a1 : AVal) (h : AHeap A) (K : AVal → AHeap A → Prop) : funP Tryz.prog S G Tryz.f29 (.two none .leaf (.two none (.two none .leaf (.one [] (.one [5] .leaf))) .leaf)) [a0, a1] h K = p_ref20_UserAt S G a0 a1 h K := by kernel_rfl
theorem c_ref20_UserAt {R : Adts A} {h : AHeap A} {K : AVal → AHeap A → Prop} {a0 a1 : AVal} (hk : p_ref20_UserAt (Tri Pr R) (Gives Pr R) a0 a1 h K) : Tri Pr R n_ref20_UserAt [a0, a1] h K :=
  tri_of_funP (by kernel_rfl) (fun _ _ _ _ h => h) (fun _ _ _ _ h => h) Tryz.func29 (by rw [q_ref20_UserAt]; exact hk)
/-- bastion/bastionref20.NewState -/
def p_ref20_NewState (S : FuncId → List AVal → AHeap A → (AVal → AHeap A → Prop) → Prop) (G : Nat → AHeap A → List AVal → (List AVal → AHeap A → Prop) → Prop) (a0 : AVal) (h : AHeap A) (K : AVal → AHeap A → Prop) : Prop :=
 newP t_api_State [.int .i64 0, .int .i64 0, .int .i64 0, .nils, .nils, .nils, .nils] h fun v1 h =>
 S n_ref12_NewPool [a0] h fun v2 h =>
 extP v2 0 fun v3 =>
 extP v2 1 fun v4 =>
 binP .neq .other v4 (.int .i64 0) fun v5 =>
 iteP v5
 (bldP [.int .i64 0, .int .i64 0, .int .i64 0, .nils, .nils, .nils, .nils] [] fun v6 =>
 stP 7 v1 v6 h fun h =>
 ldP 7 true v1 h fun v7 =>
 K (.tup [v7, .int .i64 2000]) h)
 (bldP [.int .i64 0, .int .i64 0, .int .i64 0, .nils, .nils, .nils, .nils] [(5, 1, v3)] fun v8 =>
 stP 7 v1 v8 h fun h =>
 ldP 7 true v1 h fun v9 =>
 K (.tup [v9, .int .i64 0]) h)
theorem q_ref20_NewState (S : FuncId → List AVal → AHeap A → (AVal → AHeap A → Prop) → Prop) (G : Nat → AHeap A → List AVal → (List AVal → AHeap A → Prop) → Prop) (a0 : AVal) (h : AHeap A) (K : AVal → AHeap A → Prop) : funP Tryz.prog S G Tryz.f30 .leaf [a0] h K = p_ref20_NewState S G a0 h K := by kernel_rfl
theorem c_ref20_NewState {R : Adts A} {h : AHeap A} {K : AVal → AHeap A → Prop} {a0 : AVal} (hk : p_ref20_NewState (Tri Pr R) (Gives Pr R) a0 h K) : Tri Pr R n_ref20_NewState [a0] h K :=
  tri_of_funP (by kernel_rfl) (fun _ _ _ _ h => h) (fun _ _ _ _ h => h) Tryz.func30 (by rw [q_ref20_NewState]; exact hk)
/-- bastion/bastionref20.ofUser -/
def p_ref20_ofUser (S : FuncId → List AVal → AHeap A → (AVal → AHeap A → Prop) → Prop) (G : Nat → AHeap A → List AVal → (List AVal → AHeap A → Prop) → Prop) (a0 a1 : AVal) (h : AHeap A) (K : AVal → AHeap A → Prop) : Prop :=
 boxP t_api_State 7 a0 h fun v1 h =>
 boxP t_api_Event 8 a1 h fun v2 h =>
 joinP G h.length (fun k3 =>
 fadP 0 v2 fun v4 =>
 ldP 1 false v4 h fun v5 =>
 joinP G h.length (fun k6 =>
 binP .eql .other v5 (.int .i64 1) fun v7 =>
 iteP v7
 (k6 [v7] h)
 (binP .eql .other v5 (.int .i64 2) fun v8 =>
 iteP v8
 (k6 [v8] h)
 (binP .eql .other v5 (.int .i64 3) fun v9 =>
 iteP v9
 (k6 [v9] h)
 (binP .eql .other v5 (.int .i64 4) fun v10 =>
 iteP v10
 (k6 [v10] h)
 (binP .eql .other v5 (.int .i64 5) fun v11 =>
 iteP v11
 (k6 [v11] h)
 (binP .eql .other v5 (.int .i64 7) fun v12 =>
 k6 [v12] h))))))
 (fun v27 h =>
 (fun v13 =>
 iteP v13
 (fadP 1 v2 fun v14 =>
 ldP 1 false v14 h fun v15 =>
 K v15 h)
 (binP .eql .other v5 (.int .i64 6) fun v16 =>
 iteP v16
 (ldP 7 true v1 h fun v17 =>
 fadP 2 v2 fun v18 =>
 ldP 1 false v18 h fun v19 =>
 S n_ref20_SessionAt [v17, v19] h fun v20 h =>
 binP .geq .other v20 (.int .i64 0) fun v21 =>
 iteP v21
 (fadP 4 v1 fun v22 =>
 ldP 1 false v22 h fun v23 =>
 idxP 4 v23 v20 fun v24 =>
 fadP 1 v24 fun v25 =>
 ldP 1 false v25 h fun v26 =>
 K v26 h)
 (k3 [] h))
 (k3 [] h))) (v27.getD 0 .any)))
 (fun _ h =>
 K (.int .i64 (-1)) h)
theorem q_ref20_ofUser (S : FuncId → List AVal → AHeap A → (AVal → AHeap A → Prop) → Prop) (G : Nat → AHeap A → List AVal → (List AVal → AHeap A → Prop) → Prop) (a0 a1 : AVal) (h : AHeap A) (K : AVal → AHeap A → Prop) : funP Tryz.prog S G Tryz.f31 (.two none .leaf (.two (some []) (.two none .leaf (.one [] (.two (some [8]) .leaf .leaf))) .leaf)) [a0, a1] h K = p_ref20_ofUser S G a0 a1 h K := by kernel_rfl
theorem c_ref20_ofUser {R : Adts A} {h : AHeap A} {K : AVal → AHeap A → Prop} {a0 a1 : AVal} (hk : p_ref20_ofUser (Tri Pr R) (Gives Pr R) a0 a1 h K) : Tri Pr R n_ref20_ofUser [a0, a1] h K :=
  tri_of_funP (by kernel_rfl) (fun _ _ _ _ h => h) (fun _ _ _ _ h => h) Tryz.func31 (by rw [q_ref20_ofUser]; exact hk)
/-- bastion/bastionref20.Apply -/
def p_ref20_Apply (S : FuncId → List AVal → AHeap A → (AVal → AHeap A → Prop) → Prop) (G : Nat → AHeap A → List AVal → (List AVal → AHeap A → Prop) → Prop) (a0 a1 a2 : AVal) (h : AHeap A) (K : AVal → AHeap A → Prop) : Prop :=
 boxP t_api_Config 12 a0 h fun v1 h =>
 boxP t_api_State 7 a1 h fun v2 h =>
 boxP t_api_Event 8 a2 h fun v3 h =>
 newP t_api_State [.int .i64 0, .int .i64 0, .int .i64 0, .nils, .nils, .nils, .nils] h fun v4 h =>
 ldP 12 true v1 h fun v5 =>
 S n_ref20_ConfigMay [v5] h fun v6 h =>
 notP v6 fun v7 =>
 condP v7 false (fun k8 =>
 ldP 8 true v3 h fun v9 =>
 S n_ref1_EventMay [v9] h fun v10 h =>
 notP v10 fun v11 =>
 k8 v11 h)
 (.bool true) h fun v12 h =>
 condP v12 false (fun k13 =>
 fadP 5 v2 fun v14 =>
 ldP 1 false v14 h fun v15 =>
 lenP v15 fun v16 =>
 fadP 3 v1 fun v17 =>
 ldP 1 false v17 h fun v18 =>
 binP .neq .other v16 v18 fun v19 =>
 k13 v19 h)
 (.bool true) h fun v20 h =>
 iteP v20
 (bldP [.int .i64 0, .int .i64 0, .int .i64 0, .nils, .nils, .nils, .nils] [] fun v21 =>
 stP 7 v4 v21 h fun h =>
 ldP 7 true v4 h fun v22 =>
 K (.tup [v22, .int .i64 2000]) h)
 (joinP G h.length (fun k23 =>
 ldP 12 true v1 h fun v24 =>
 ldP 7 true v2 h fun v25 =>
 ldP 8 true v3 h fun v26 =>
 (S n_ref20_CopyState [v25] h fun v27 h =>
 ldV 8 true v3 h = some v26 ∧
 ldV 12 true v1 h = some v24 ∧
 (S n_ref20_applied [v24, v27, v26] h fun v28 h =>
 extP v28 0 fun v29 =>
 extP v28 1 fun v30 =>
 newP t_api_State [.int .i64 0, .int .i64 0, .int .i64 0, .nils, .nils, .nils, .nils] h fun v31 h =>
 stP 7 v31 v29 h fun h =>
 k23 [v31, v30] h) ∧
 (newP t_api_State [.int .i64 0, .int .i64 0, .int .i64 0, .nils, .nils, .nils, .nils] h fun v32 h =>
 ldV 8 true v3 h = some v26 ∧
 ldV 12 true v1 h = some v24 ∧
 S n_ref20_applied [v24, v27, v26] h fun v33 h =>
 extP v33 0 fun v34 =>
 extP v33 1 fun v35 =>
 stP 7 v32 v34 h fun h =>
 k23 [v32, v35] h)) ∧
 (newP t_api_State [.int .i64 0, .int .i64 0, .int .i64 0, .nils, .nils, .nils, .nils] h fun v36 h =>
 ldV 8 true v3 h = some v26 ∧
 ldV 7 true v2 h = some v25 ∧
 ldV 12 true v1 h = some v24 ∧
 S n_ref20_CopyState [v25] h fun v37 h =>
 ldV 8 true v3 h = some v26 ∧
 ldV 12 true v1 h = some v24 ∧
 S n_ref20_applied [v24, v37, v26] h fun v38 h =>
 extP v38 0 fun v39 =>
 extP v38 1 fun v40 =>
 stP 7 v36 v39 h fun h =>
 k23 [v36, v40] h))
 (fun v48 h =>
 (fun v41 v42 =>
 notP v42 fun v43 =>
 iteP v43
 (bldP [.int .i64 0, .int .i64 0, .int .i64 0, .nils, .nils, .nils, .nils] [] fun v44 =>
 stP 7 v4 v44 h fun h =>
 ldP 7 true v4 h fun v45 =>
 K (.tup [v45, .int .i64 2001]) h)
 (ldP 7 true v41 h fun v46 =>
 stP 7 v4 v46 h fun h =>
 ldP 7 true v4 h fun v47 =>
 K (.tup [v47, .int .i64 0]) h)) (v48.getD 0 .any) (v48.getD 1 .any)))
theorem q_ref20_Apply (S : FuncId → List AVal → AHeap A → (AVal → AHeap A → Prop) → Prop) (G : Nat → AHeap A → List AVal → (List AVal → AHeap A → Prop) → Prop) (a0 a1 a2 : AVal) (h : AHeap A) (K : AVal → AHeap A → Prop) : funP Tryz.prog S G Tryz.f32 (.two none .leaf (.two none .leaf (.two none (.draw (some [8, 9]) (.load 0 (.load 1 (.load 3 (.alt 2 (.alt 4 (.take 5 (.take 6 (.take 7 (.alt 8 (.alt 9 (.take 10 .stop) .stop) .stop)))) (.alt 8 (.alt 4 (.take 5 (.take 6 (.take 7 (.alt 9 (.take 10 .stop) .stop)))) .stop) .stop)) (.alt 8 (.alt 2 (.alt 4 (.take 5 (.take 6 (.take 7 (.alt 9 (.take 10 .stop) .stop)))) .stop) .stop) .stop)))))) .leaf))) [a0, a1, a2] h K = p_ref20_Apply S G a0 a1 a2 h K := by kernel_rfl
theorem c_ref20_Apply {R : Adts A} {h : AHeap A} {K : AVal → AHeap A → Prop} {a0 a1 a2 : AVal} (hk : p_ref20_Apply (Tri Pr R) (Gives Pr R) a0 a1 a2 h K) : Tri Pr R n_ref20_Apply [a0, a1, a2] h K :=
  tri_of_funP (by kernel_rfl) (fun _ _ _ _ h => h) (fun _ _ _ _ h => h) Tryz.func32 (by rw [q_ref20_Apply]; exact hk)
/-- bastion/audit.Holder$1 -/
def p_audit_Holder_c1 (S : FuncId → List AVal → AHeap A → (AVal → AHeap A → Prop) → Prop) (G : Nat → AHeap A → List AVal → (List AVal → AHeap A → Prop) → Prop) (a0 : AVal) (h : AHeap A) (K : AVal → AHeap A → Prop) : Prop :=
 K (.tup []) h
theorem q_audit_Holder_c1 (S : FuncId → List AVal → AHeap A → (AVal → AHeap A → Prop) → Prop) (G : Nat → AHeap A → List AVal → (List AVal → AHeap A → Prop) → Prop) (a0 : AVal) (h : AHeap A) (K : AVal → AHeap A → Prop) : funP Tryz.prog S G Tryz.f33 .leaf [a0] h K = p_audit_Holder_c1 S G a0 h K := by kernel_rfl
theorem c_audit_Holder_c1 {R : Adts A} {h : AHeap A} {K : AVal → AHeap A → Prop} {a0 : AVal} (hk : p_audit_Holder_c1 (Tri Pr R) (Gives Pr R) a0 h K) : Tri Pr R n_audit_Holder_c1 [a0] h K :=
  tri_of_funP (by kernel_rfl) (fun _ _ _ _ h => h) (fun _ _ _ _ h => h) Tryz.func33 (by rw [q_audit_Holder_c1]; exact hk)
/-- bastion/bastionlaw25.Plain -/
def p_law25_Plain (S : FuncId → List AVal → AHeap A → (AVal → AHeap A → Prop) → Prop) (G : Nat → AHeap A → List AVal → (List AVal → AHeap A → Prop) → Prop) (h : AHeap A) (K : AVal → AHeap A → Prop) : Prop :=
 newP t_api_Config (reps 12 (.int .i64 0)) h fun v1 h =>
 bldP [.int .i64 0, .int .i64 0, .int .i64 0, .int .i64 0, .int .i64 0, .int .i64 0, .int .i64 0, .int .i64 0, .int .i64 0, .int .i64 0, .int .i64 0, .int .i64 0] [(0, 1, .int .i64 100), (1, 1, .int .i64 2), (2, 1, .int .i64 2), (3, 1, .int .i64 3), (4, 1, .int .i64 2), (5, 1, .int .i64 20), (6, 1, .int .i64 10), (7, 1, .int .i64 15), (8, 1, .int .i64 60), (9, 1, .int .i64 8), (10, 1, .int .i64 50), (11, 1, .int .i64 1)] fun v2 =>
 stP 12 v1 v2 h fun h =>
 ldP 12 true v1 h fun v3 =>
 K v3 h
theorem q_law25_Plain (S : FuncId → List AVal → AHeap A → (AVal → AHeap A → Prop) → Prop) (G : Nat → AHeap A → List AVal → (List AVal → AHeap A → Prop) → Prop) (h : AHeap A) (K : AVal → AHeap A → Prop) : funP Tryz.prog S G Tryz.f34 .leaf [] h K = p_law25_Plain S G h K := by kernel_rfl
theorem c_law25_Plain {R : Adts A} {h : AHeap A} {K : AVal → AHeap A → Prop} (hk : p_law25_Plain (Tri Pr R) (Gives Pr R) h K) : Tri Pr R n_law25_Plain [] h K :=
  tri_of_funP (by kernel_rfl) (fun _ _ _ _ h => h) (fun _ _ _ _ h => h) Tryz.func34 (by rw [q_law25_Plain]; exact hk)
/-- bastion/state.New -/
def p_state_New (S : FuncId → List AVal → AHeap A → (AVal → AHeap A → Prop) → Prop) (G : Nat → AHeap A → List AVal → (List AVal → AHeap A → Prop) → Prop) (a0 : AVal) (h : AHeap A) (K : AVal → AHeap A → Prop) : Prop :=
 newP t_api_State [.int .i64 0, .int .i64 0, .int .i64 0, .nils, .nils, .nils, .nils] h fun v1 h =>
 S n_pool_New [a0] h fun v2 h =>
 extP v2 0 fun v3 =>
 extP v2 1 fun v4 =>
 binP .neq .other v4 (.int .i64 0) fun v5 =>
 iteP v5
 (bldP [.int .i64 0, .int .i64 0, .int .i64 0, .nils, .nils, .nils, .nils] [] fun v6 =>
 stP 7 v1 v6 h fun h =>
 ldP 7 true v1 h fun v7 =>
 K (.tup [v7, .int .i64 2000]) h)
 (bldP [.int .i64 0, .int .i64 0, .int .i64 0, .nils, .nils, .nils, .nils] [(5, 1, v3)] fun v8 =>
 stP 7 v1 v8 h fun h =>
 ldP 7 true v1 h fun v9 =>
 K (.tup [v9, .int .i64 0]) h)
theorem q_state_New (S : FuncId → List AVal → AHeap A → (AVal → AHeap A → Prop) → Prop) (G : Nat → AHeap A → List AVal → (List AVal → AHeap A → Prop) → Prop) (a0 : AVal) (h : AHeap A) (K : AVal → AHeap A → Prop) : funP Tryz.prog S G Tryz.f35 .leaf [a0] h K = p_state_New S G a0 h K := by kernel_rfl
theorem c_state_New {R : Adts A} {h : AHeap A} {K : AVal → AHeap A → Prop} {a0 : AVal} (hk : p_state_New (Tri Pr R) (Gives Pr R) a0 h K) : Tri Pr R n_state_New [a0] h K :=
  tri_of_funP (by kernel_rfl) (fun _ _ _ _ h => h) (fun _ _ _ _ h => h) Tryz.func35 (by rw [q_state_New]; exact hk)
/-- bastion/state.Apply -/
def p_state_Apply (S : FuncId → List AVal → AHeap A → (AVal → AHeap A → Prop) → Prop) (G : Nat → AHeap A → List AVal → (List AVal → AHeap A → Prop) → Prop) (a0 a1 a2 : AVal) (h : AHeap A) (K : AVal → AHeap A → Prop) : Prop :=
 boxP t_api_Config 12 a0 h fun v1 h =>
 boxP t_api_State 7 a1 h fun v2 h =>
 boxP t_api_Event 8 a2 h fun v3 h =>
 newP t_api_State [.int .i64 0, .int .i64 0, .int .i64 0, .nils, .nils, .nils, .nils] h fun v4 h =>
 S n_state_ConfigMay [v1] h fun v5 h =>
 notP v5 fun v6 =>
 condP v6 false (fun k7 =>
 ldP 8 true v3 h fun v8 =>
 S n_event_May [v8] h fun v9 h =>
 notP v9 fun v10 =>
 k7 v10 h)
 (.bool true) h fun v11 h =>
 condP v11 false (fun k12 =>
 fadP 5 v2 fun v13 =>
 ldP 1 false v13 h fun v14 =>
 lenP v14 fun v15 =>
 fadP 3 v1 fun v16 =>
 ldP 1 false v16 h fun v17 =>
 binP .neq .other v15 v17 fun v18 =>
 k12 v18 h)
 (.bool true) h fun v19 h =>
 iteP v19
 (bldP [.int .i64 0, .int .i64 0, .int .i64 0, .nils, .nils, .nils, .nils] [] fun v20 =>
 stP 7 v4 v20 h fun h =>
 ldP 7 true v4 h fun v21 =>
 K (.tup [v21, .int .i64 2000]) h)
 (ldP 7 true v2 h fun v22 =>
 S n_state_Copy [v22] h fun v23 h =>
 bldP [.nilp, .int .i64 0, .int .i64 0, .int .i64 0, .nils, .nils, .nils, .nils, .nilp] [(0, 1, v1), (1, 7, v23), (8, 1, v3)] fun v24 =>
 boxP t_state_turn 9 v24 h fun v25 h =>
 S n_state_turn_does [v25] h fun v26 h =>
 notP v26 fun v27 =>
 iteP v27
 (bldP [.int .i64 0, .int .i64 0, .int .i64 0, .nils, .nils, .nils, .nils] [] fun v28 =>
 stP 7 v4 v28 h fun h =>
 ldP 7 true v4 h fun v29 =>
 K (.tup [v29, .int .i64 2001]) h)
 (nilP v25 fun v30 =>
 fadP 1 v30 fun v31 =>
 ldP 7 true v31 h fun v32 =>
 stP 7 v4 v32 h fun h =>
 ldP 7 true v4 h fun v33 =>
 K (.tup [v33, .int .i64 0]) h))
theorem q_state_Apply (S : FuncId → List AVal → AHeap A → (AVal → AHeap A → Prop) → Prop) (G : Nat → AHeap A → List AVal → (List AVal → AHeap A → Prop) → Prop) (a0 a1 a2 : AVal) (h : AHeap A) (K : AVal → AHeap A → Prop) : funP Tryz.prog S G Tryz.f36 .leaf [a0, a1, a2] h K = p_state_Apply S G a0 a1 a2 h K := by kernel_rfl
theorem c_state_Apply {R : Adts A} {h : AHeap A} {K : AVal → AHeap A → Prop} {a0 a1 a2 : AVal} (hk : p_state_Apply (Tri Pr R) (Gives Pr R) a0 a1 a2 h K) : Tri Pr R n_state_Apply [a0, a1, a2] h K :=
  tri_of_funP (by kernel_rfl) (fun _ _ _ _ h => h) (fun _ _ _ _ h => h) Tryz.func36 (by rw [q_state_Apply]; exact hk)
/-- bastion/state.Session -/
def p_state_Session (S : FuncId → List AVal → AHeap A → (AVal → AHeap A → Prop) → Prop) (G : Nat → AHeap A → List AVal → (List AVal → AHeap A → Prop) → Prop) (a0 a1 : AVal) (h : AHeap A) (K : AVal → AHeap A → Prop) : Prop :=
 boxP t_int 1 a1 h fun v1 h =>
 nilP a0 fun v2 =>
 fadP 4 v2 fun v3 =>
 ldP 1 false v3 h fun v4 =>
 mkfP (.func n_state_Session_c1) [] [v1] fun v5 =>
 S n_slices_IndexFunc_api_Session [v4, v5] h fun v6 h =>
 binP .lss .other v6 (.int .i64 0) fun v7 =>
 iteP v7
 (K .nilp h)
 (nilP a0 fun v8 =>
 fadP 4 v8 fun v9 =>
 ldP 1 false v9 h fun v10 =>
 idxP 4 v10 v6 fun v11 =>
 K v11 h)
theorem q_state_Session (S : FuncId → List AVal → AHeap A → (AVal → AHeap A → Prop) → Prop) (G : Nat → AHeap A → List AVal → (List AVal → AHeap A → Prop) → Prop) (a0 a1 : AVal) (h : AHeap A) (K : AVal → AHeap A → Prop) : funP Tryz.prog S G Tryz.f38 .leaf [a0, a1] h K = p_state_Session S G a0 a1 h K := by kernel_rfl
theorem c_state_Session {R : Adts A} {h : AHeap A} {K : AVal → AHeap A → Prop} {a0 a1 : AVal} (hk : p_state_Session (Tri Pr R) (Gives Pr R) a0 a1 h K) : Tri Pr R n_state_Session [a0, a1] h K :=
  tri_of_funP (by kernel_rfl) (fun _ _ _ _ h => h) (fun _ _ _ _ h => h) Tryz.func38 (by rw [q_state_Session]; exact hk)
/-- slices.IndexFunc[[]bastion/api.User,bastion/api.User] -/
def p_slices_IndexFunc_api_User (S : FuncId → List AVal → AHeap A → (AVal → AHeap A → Prop) → Prop) (G : Nat → AHeap A → List AVal → (List AVal → AHeap A → Prop) → Prop) (a0 a1 : AVal) (h : AHeap A) (K : AVal → AHeap A → Prop) : Prop :=
 lenP a0 fun v1 =>
 loopP G (fun v9 h k3 =>
 (fun v2 =>
 binP .lss .other v2 v1 fun v4 =>
 iteP v4
 (idxP 9 a0 v2 fun v5 =>
 ldP 9 true v5 h fun v6 =>
 dynP Pr S a1 [v6] h fun v7 h =>
 iteP v7
 (K v2 h)
 (binP .add .other v2 (.int .i64 1) fun v8 =>
 k3 [v8] h))
 (K (.int .i64 (-1)) h)) (v9.getD 0 .any)) [.int .i64 0] h
theorem q_slices_IndexFunc_api_User (S : FuncId → List AVal → AHeap A → (AVal → AHeap A → Prop) → Prop) (G : Nat → AHeap A → List AVal → (List AVal → AHeap A → Prop) → Prop) (a0 a1 : AVal) (h : AHeap A) (K : AVal → AHeap A → Prop) : funP Tryz.prog S G Tryz.f39 (.two none .leaf (.two none (.two none .leaf (.one [] (.one [8] .leaf))) .leaf)) [a0, a1] h K = p_slices_IndexFunc_api_User S G a0 a1 h K := by kernel_rfl
theorem c_slices_IndexFunc_api_User {R : Adts A} {h : AHeap A} {K : AVal → AHeap A → Prop} {a0 a1 : AVal} (hk : p_slices_IndexFunc_api_User (Tri Pr R) (Gives Pr R) a0 a1 h K) : Tri Pr R n_slices_IndexFunc_api_User [a0, a1] h K :=
  tri_of_funP (by kernel_rfl) (fun _ _ _ _ h => h) (fun _ _ _ _ h => h) Tryz.func39 (by rw [q_slices_IndexFunc_api_User]; exact hk)
/-- bastion/state.User$1 -/
def p_state_User_c1 (S : FuncId → List AVal → AHeap A → (AVal → AHeap A → Prop) → Prop) (G : Nat → AHeap A → List AVal → (List AVal → AHeap A → Prop) → Prop) (a0 a1 : AVal) (h : AHeap A) (K : AVal → AHeap A → Prop) : Prop :=
 boxP t_api_User 9 a0 h fun v1 h =>
 fadP 0 v1 fun v2 =>
 ldP 1 false v2 h fun v3 =>
 ldP 1 false a1 h fun v4 =>
 binP .eql .other v3 v4 fun v5 =>
 K v5 h
theorem q_state_User_c1 (S : FuncId → List AVal → AHeap A → (AVal → AHeap A → Prop) → Prop) (G : Nat → AHeap A → List AVal → (List AVal → AHeap A → Prop) → Prop) (a0 a1 : AVal) (h : AHeap A) (K : AVal → AHeap A → Prop) : funP Tryz.prog S G Tryz.f40 .leaf [a0, a1] h K = p_state_User_c1 S G a0 a1 h K := by kernel_rfl
theorem c_state_User_c1 {R : Adts A} {h : AHeap A} {K : AVal → AHeap A → Prop} {a0 a1 : AVal} (hk : p_state_User_c1 (Tri Pr R) (Gives Pr R) a0 a1 h K) : Tri Pr R n_state_User_c1 [a0, a1] h K :=
  tri_of_funP (by kernel_rfl) (fun _ _ _ _ h => h) (fun _ _ _ _ h => h) Tryz.func40 (by rw [q_state_User_c1]; exact hk)
/-- bastion/bastionref12.NewPool -/
def p_ref12_NewPool (S : FuncId → List AVal → AHeap A → (AVal → AHeap A → Prop) → Prop) (G : Nat → AHeap A → List AVal → (List AVal → AHeap A → Prop) → Prop) (a0 : AVal) (h : AHeap A) (K : AVal → AHeap A → Prop) : Prop :=
 binP .lss .other a0 (.int .i64 1) fun v1 =>
 condP v1 false (fun k2 =>
 binP .gtr .other a0 (.int .i64 16) fun v3 =>
 k2 v3 h)
 (.bool true) h fun v4 h =>
 iteP v4
 (K (.tup [.nils, .int .i64 1600]) h)
 (loopP G (fun v13 h k7 =>
 (fun v5 v6 =>
 binP .lss .other v6 a0 fun v8 =>
 iteP v8
 (bldP [.bool false, .int .i64 0, .int .i64 0] [(1, 1, .int .i64 (-1))] fun v9 =>
 bslP t_api_Address 1 [.bool false, .int .i64 0, .int .i64 0] [(0, 3, v9)] h fun v10 h =>
 appP t_api_Address 3 24 v5 v10 h fun v11 h =>
 binP .add .other v6 (.int .i64 1) fun v12 =>
 k7 [v11, v12] h)
 (K (.tup [v5, .int .i64 0]) h)) (v13.getD 0 .any) (v13.getD 1 .any)) [.nils, .int .i64 0] h)
theorem q_ref12_NewPool (S : FuncId → List AVal → AHeap A → (AVal → AHeap A → Prop) → Prop) (G : Nat → AHeap A → List AVal → (List AVal → AHeap A → Prop) → Prop) (a0 : AVal) (h : AHeap A) (K : AVal → AHeap A → Prop) : funP Tryz.prog S G Tryz.f41 (.two none .leaf (.two none .leaf (.two none .leaf (.two none (.two none .leaf (.one [] (.one [4, 5] .leaf))) .leaf)))) [a0] h K = p_ref12_NewPool S G a0 h K := by kernel_rfl
theorem c_ref12_NewPool {R : Adts A} {h : AHeap A} {K : AVal → AHeap A → Prop} {a0 : AVal} (hk : p_ref12_NewPool (Tri Pr R) (Gives Pr R) a0 h K) : Tri Pr R n_ref12_NewPool [a0] h K :=
  tri_of_funP (by kernel_rfl) (fun _ _ _ _ h => h) (fun _ _ _ _ h => h) Tryz.func41 (by rw [q_ref12_NewPool]; exact hk)
/-- bastion/bastionref20.SessionAt -/
def p_ref20_SessionAt (S : FuncId → List AVal → AHeap A → (AVal → AHeap A → Prop) → Prop) (G : Nat → AHeap A → List AVal → (List AVal → AHeap A → Prop) → Prop) (a0 a1 : AVal) (h : AHeap A) (K : AVal → AHeap A → Prop) : Prop :=
 boxP t_api_State 7 a0 h fun v1 h =>
 loopP G (fun v15 h k3 =>
 (fun v2 =>
 fadP 4 v1 fun v4 =>
 ldP 1 false v4 h fun v5 =>
 lenP v5 fun v6 =>
 binP .lss .other v2 v6 fun v7 =>
 iteP v7
 (fadP 4 v1 fun v8 =>
 ldP 1 false v8 h fun v9 =>
 idxP 4 v9 v2 fun v10 =>
 fadP 0 v10 fun v11 =>
 ldP 1 false v11 h fun v12 =>
 binP .eql .other v12 a1 fun v13 =>
 iteP v13
 (K v2 h)
 (binP .add .other v2 (.int .i64 1) fun v14 =>
 k3 [v14] h))
 (K (.int .i64 (-1)) h)) (v15.getD 0 .any)) [.int .i64 0] h
theorem q_ref20_SessionAt (S : FuncId → List AVal → AHeap A → (AVal → AHeap A → Prop) → Prop) (G : Nat → AHeap A → List AVal → (List AVal → AHeap A → Prop) → Prop) (a0 a1 : AVal) (h : AHeap A) (K : AVal → AHeap A → Prop) : funP Tryz.prog S G Tryz.f42 (.two none .leaf (.two none (.two none .leaf (.one [] (.one [5] .leaf))) .leaf)) [a0, a1] h K = p_ref20_SessionAt S G a0 a1 h K := by kernel_rfl
theorem c_ref20_SessionAt {R : Adts A} {h : AHeap A} {K : AVal → AHeap A → Prop} {a0 a1 : AVal} (hk : p_ref20_SessionAt (Tri Pr R) (Gives Pr R) a0 a1 h K) : Tri Pr R n_ref20_SessionAt [a0, a1] h K :=
  tri_of_funP (by kernel_rfl) (fun _ _ _ _ h => h) (fun _ _ _ _ h => h) Tryz.func42 (by rw [q_ref20_SessionAt]; exact hk)
end Go.AI
