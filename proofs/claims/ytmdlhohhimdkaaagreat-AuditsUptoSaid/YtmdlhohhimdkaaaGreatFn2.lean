/- The functions as texts over the abstract heap. -/
import Derived.Test.YtmdlhohhimdkaaaGreatNm
import Derived.KernelRfl
set_option linter.all false
namespace Go.AI
open Go.Proofs
set_option maxRecDepth 1000000
variable {A : Type}
/-- bastion/bastionref20.ConfigMay -/
def p_ref20_ConfigMay (S : FuncId → List AVal → AHeap A → (AVal → AHeap A → Prop) → Prop) (G : Nat → AHeap A → List AVal → (List AVal → AHeap A → Prop) → Prop) (a0 : AVal) (h : AHeap A) (K : AVal → AHeap A → Prop) : Prop :=
 boxP t_api_Config 12 a0 h fun v1 h =>
 fadP 0 v1 fun v2 =>
 ldP 1 false v2 h fun v3 =>
 binP .geq .other v3 (.int .i64 3) fun v4 =>
 condP v4 true (fun k5 =>
 fadP 0 v1 fun v6 =>
 ldP 1 false v6 h fun v7 =>
 binP .leq .other v7 (.int .i64 256) fun v8 =>
 k5 v8 h)
 (.bool false) h fun v9 h =>
 condP v9 true (fun k10 =>
 fadP 1 v1 fun v11 =>
 ldP 1 false v11 h fun v12 =>
 binP .geq .other v12 (.int .i64 1) fun v13 =>
 k10 v13 h)
 (.bool false) h fun v14 h =>
 condP v14 true (fun k15 =>
 fadP 1 v1 fun v16 =>
 ldP 1 false v16 h fun v17 =>
 binP .leq .other v17 (.int .i64 8) fun v18 =>
 k15 v18 h)
 (.bool false) h fun v19 h =>
 condP v19 true (fun k20 =>
 fadP 2 v1 fun v21 =>
 ldP 1 false v21 h fun v22 =>
 binP .geq .other v22 (.int .i64 1) fun v23 =>
 k20 v23 h)
 (.bool false) h fun v24 h =>
 condP v24 true (fun k25 =>
 fadP 2 v1 fun v26 =>
 ldP 1 false v26 h fun v27 =>
 binP .leq .other v27 (.int .i64 8) fun v28 =>
 k25 v28 h)
 (.bool false) h fun v29 h =>
 condP v29 true (fun k30 =>
 fadP 3 v1 fun v31 =>
 ldP 1 false v31 h fun v32 =>
 binP .geq .other v32 (.int .i64 1) fun v33 =>
 k30 v33 h)
 (.bool false) h fun v34 h =>
 condP v34 true (fun k35 =>
 fadP 3 v1 fun v36 =>
 ldP 1 false v36 h fun v37 =>
 binP .leq .other v37 (.int .i64 16) fun v38 =>
 k35 v38 h)
 (.bool false) h fun v39 h =>
 condP v39 true (fun k40 =>
 fadP 4 v1 fun v41 =>
 ldP 1 false v41 h fun v42 =>
 binP .geq .other v42 (.int .i64 1) fun v43 =>
 k40 v43 h)
 (.bool false) h fun v44 h =>
 condP v44 true (fun k45 =>
 fadP 4 v1 fun v46 =>
 ldP 1 false v46 h fun v47 =>
 binP .leq .other v47 (.int .i64 8) fun v48 =>
 k45 v48 h)
 (.bool false) h fun v49 h =>
 condP v49 true (fun k50 =>
 fadP 5 v1 fun v51 =>
 ldP 1 false v51 h fun v52 =>
 S n_ref20_life [v52] h fun v53 h =>
 k50 v53 h)
 (.bool false) h fun v54 h =>
 condP v54 true (fun k55 =>
 fadP 6 v1 fun v56 =>
 ldP 1 false v56 h fun v57 =>
 S n_ref20_life [v57] h fun v58 h =>
 k55 v58 h)
 (.bool false) h fun v59 h =>
 condP v59 true (fun k60 =>
 fadP 7 v1 fun v61 =>
 ldP 1 false v61 h fun v62 =>
 S n_ref20_life [v62] h fun v63 h =>
 k60 v63 h)
 (.bool false) h fun v64 h =>
 condP v64 true (fun k65 =>
 fadP 8 v1 fun v66 =>
 ldP 1 false v66 h fun v67 =>
 S n_ref20_life [v67] h fun v68 h =>
 k65 v68 h)
 (.bool false) h fun v69 h =>
 condP v69 true (fun k70 =>
 fadP 9 v1 fun v71 =>
 ldP 1 false v71 h fun v72 =>
 S n_ref20_life [v72] h fun v73 h =>
 k70 v73 h)
 (.bool false) h fun v74 h =>
 condP v74 true (fun k75 =>
 fadP 10 v1 fun v76 =>
 ldP 1 false v76 h fun v77 =>
 S n_ref20_life [v77] h fun v78 h =>
 k75 v78 h)
 (.bool false) h fun v79 h =>
 condP v79 true (fun k80 =>
 fadP 11 v1 fun v81 =>
 ldP 1 false v81 h fun v82 =>
 binP .geq .other v82 (.int .i64 0) fun v83 =>
 k80 v83 h)
 (.bool false) h fun v84 h =>
 condP v84 true (fun k85 =>
 fadP 11 v1 fun v86 =>
 ldP 1 false v86 h fun v87 =>
 binP .leq .other v87 (.int .i64 4) fun v88 =>
 k85 v88 h)
 (.bool false) h fun v89 h =>
 K v89 h
theorem q_ref20_ConfigMay (S : FuncId → List AVal → AHeap A → (AVal → AHeap A → Prop) → Prop) (G : Nat → AHeap A → List AVal → (List AVal → AHeap A → Prop) → Prop) (a0 : AVal) (h : AHeap A) (K : AVal → AHeap A → Prop) : funP Tryz.prog S G Tryz.f43 .leaf [a0] h K = p_ref20_ConfigMay S G a0 h K := by kernel_rfl
theorem c_ref20_ConfigMay {R : Adts A} {h : AHeap A} {K : AVal → AHeap A → Prop} {a0 : AVal} (hk : p_ref20_ConfigMay (Tri Pr R) (Gives Pr R) a0 h K) : Tri Pr R n_ref20_ConfigMay [a0] h K :=
  tri_of_funP (by kernel_rfl) (fun _ _ _ _ h => h) (fun _ _ _ _ h => h) Tryz.func43 (by rw [q_ref20_ConfigMay]; exact hk)
/-- bastion/bastionref1.EventMay -/
def p_ref1_EventMay (S : FuncId → List AVal → AHeap A → (AVal → AHeap A → Prop) → Prop) (G : Nat → AHeap A → List AVal → (List AVal → AHeap A → Prop) → Prop) (a0 : AVal) (h : AHeap A) (K : AVal → AHeap A → Prop) : Prop :=
 boxP t_api_Event 8 a0 h fun v1 h =>
 ldP 8 true v1 h fun v2 =>
 S n_ref1_part [v2] h fun v3 h =>
 extP v3 0 fun v4 =>
 extP v3 1 fun v5 =>
 newP t_api_Event [.int .i64 0, .int .i64 0, .int .i64 0, .int .i64 0, .int .i64 0, .int .i64 0, .int .i64 0, .int .i64 0] h fun v6 h =>
 stP 8 v6 v4 h fun h =>
 notP v5 fun v7 =>
 condP v7 false (fun k8 =>
 ldP 8 true v6 h fun v9 =>
 ldP 8 true v1 h fun v10 =>
 binP .neq (.shape (.st [(0, 1, .i), (1, 1, .i), (2, 1, .i), (3, 1, .i), (4, 1, .i), (5, 1, .i), (6, 1, .i), (7, 1, .i)])) v9 v10 fun v11 =>
 k8 v11 h)
 (.bool true) h fun v12 h =>
 condP v12 false (fun k13 =>
 fadP 1 v1 fun v14 =>
 ldP 1 false v14 h fun v15 =>
 binP .lss .other v15 (.int .i64 0) fun v16 =>
 k13 v16 h)
 (.bool true) h fun v17 h =>
 condP v17 false (fun k18 =>
 fadP 1 v1 fun v19 =>
 ldP 1 false v19 h fun v20 =>
 binP .geq .other v20 (.int .i64 8) fun v21 =>
 k18 v21 h)
 (.bool true) h fun v22 h =>
 condP v22 false (fun k23 =>
 fadP 3 v1 fun v24 =>
 ldP 1 false v24 h fun v25 =>
 binP .lss .other v25 (.int .i64 0) fun v26 =>
 k23 v26 h)
 (.bool true) h fun v27 h =>
 condP v27 false (fun k28 =>
 fadP 3 v1 fun v29 =>
 ldP 1 false v29 h fun v30 =>
 binP .geq .other v30 (.int .i64 16) fun v31 =>
 k28 v31 h)
 (.bool true) h fun v32 h =>
 condP v32 false (fun k33 =>
 fadP 7 v1 fun v34 =>
 ldP 1 false v34 h fun v35 =>
 binP .lss .other v35 (.int .i64 0) fun v36 =>
 k33 v36 h)
 (.bool true) h fun v37 h =>
 condP v37 false (fun k38 =>
 fadP 7 v1 fun v39 =>
 ldP 1 false v39 h fun v40 =>
 binP .gtr .other v40 (.int .i64 1048575) fun v41 =>
 k38 v41 h)
 (.bool true) h fun v42 h =>
 condP v42 false (fun k43 =>
 fadP 2 v1 fun v44 =>
 ldP 1 false v44 h fun v45 =>
 S n_ref1_num [v45] h fun v46 h =>
 notP v46 fun v47 =>
 k43 v47 h)
 (.bool true) h fun v48 h =>
 condP v48 false (fun k49 =>
 fadP 4 v1 fun v50 =>
 ldP 1 false v50 h fun v51 =>
 S n_ref1_num [v51] h fun v52 h =>
 notP v52 fun v53 =>
 k49 v53 h)
 (.bool true) h fun v54 h =>
 condP v54 false (fun k55 =>
 fadP 5 v1 fun v56 =>
 ldP 1 false v56 h fun v57 =>
 S n_ref1_num [v57] h fun v58 h =>
 notP v58 fun v59 =>
 k55 v59 h)
 (.bool true) h fun v60 h =>
 condP v60 false (fun k61 =>
 fadP 6 v1 fun v62 =>
 ldP 1 false v62 h fun v63 =>
 binP .lss .other v63 (.int .i64 0) fun v64 =>
 k61 v64 h)
 (.bool true) h fun v65 h =>
 condP v65 false (fun k66 =>
 fadP 6 v1 fun v67 =>
 ldP 1 false v67 h fun v68 =>
 binP .gtr .other v68 (.int .i64 1048576) fun v69 =>
 k66 v69 h)
 (.bool true) h fun v70 h =>
 iteP v70
 (K (.bool false) h)
 (fadP 0 v1 fun v71 =>
 ldP 1 false v71 h fun v72 =>
 binP .neq .other v72 (.int .i64 6) fun v73 =>
 condP v73 false (fun k74 =>
 fadP 5 v1 fun v75 =>
 ldP 1 false v75 h fun v76 =>
 binP .leq .other v76 (.int .i64 4) fun v77 =>
 k74 v77 h)
 (.bool true) h fun v78 h =>
 K v78 h)
theorem q_ref1_EventMay (S : FuncId → List AVal → AHeap A → (AVal → AHeap A → Prop) → Prop) (G : Nat → AHeap A → List AVal → (List AVal → AHeap A → Prop) → Prop) (a0 : AVal) (h : AHeap A) (K : AVal → AHeap A → Prop) : funP Tryz.prog S G Tryz.f44 .leaf [a0] h K = p_ref1_EventMay S G a0 h K := by kernel_rfl
theorem c_ref1_EventMay {R : Adts A} {h : AHeap A} {K : AVal → AHeap A → Prop} {a0 : AVal} (hk : p_ref1_EventMay (Tri Pr R) (Gives Pr R) a0 h K) : Tri Pr R n_ref1_EventMay [a0] h K :=
  tri_of_funP (by kernel_rfl) (fun _ _ _ _ h => h) (fun _ _ _ _ h => h) Tryz.func44 (by rw [q_ref1_EventMay]; exact hk)
/-- bastion/bastionref20.applied -/
def p_ref20_applied (S : FuncId → List AVal → AHeap A → (AVal → AHeap A → Prop) → Prop) (G : Nat → AHeap A → List AVal → (List AVal → AHeap A → Prop) → Prop) (a0 a1 a2 : AVal) (h : AHeap A) (K : AVal → AHeap A → Prop) : Prop :=
 boxP t_api_Config 12 a0 h fun v1 h =>
 boxP t_api_State 7 a1 h fun v2 h =>
 boxP t_api_Event 8 a2 h fun v3 h =>
 newP t_api_State [.int .i64 0, .int .i64 0, .int .i64 0, .nils, .nils, .nils, .nils] h fun v4 h =>
 fadP 0 v3 fun v5 =>
 ldP 1 false v5 h fun v6 =>
 binP .eql .other v6 (.int .i64 0) fun v7 =>
 iteP v7
 (ldP 12 true v1 h fun v8 =>
 ldP 7 true v2 h fun v9 =>
 ldP 8 true v3 h fun v10 =>
 S n_ref20_booted [v8, v9, v10] h fun v11 h =>
 extP v11 0 fun v12 =>
 extP v11 1 fun v13 =>
 stP 7 v4 v12 h fun h =>
 ldP 7 true v4 h fun v14 =>
 K (.tup [v14, v13]) h)
 (binP .eql .other v6 (.int .i64 5) fun v15 =>
 iteP v15
 (ldP 12 true v1 h fun v16 =>
 ldP 7 true v2 h fun v17 =>
 ldP 8 true v3 h fun v18 =>
 S n_ref20_leased [v16, v17, v18] h fun v19 h =>
 extP v19 0 fun v20 =>
 extP v19 1 fun v21 =>
 stP 7 v4 v20 h fun h =>
 ldP 7 true v4 h fun v22 =>
 K (.tup [v22, v21]) h)
 (binP .eql .other v6 (.int .i64 6) fun v23 =>
 iteP v23
 (ldP 7 true v2 h fun v24 =>
 ldP 8 true v3 h fun v25 =>
 S n_ref20_closed [v24, v25] h fun v26 h =>
 extP v26 0 fun v27 =>
 extP v26 1 fun v28 =>
 stP 7 v4 v27 h fun h =>
 ldP 7 true v4 h fun v29 =>
 K (.tup [v29, v28]) h)
 (binP .eql .other v6 (.int .i64 8) fun v30 =>
 iteP v30
 (fadP 1 v2 fun v31 =>
 ldP 1 false v31 h fun v32 =>
 binP .geq .other v32 (.int .i64 1073741823) fun v33 =>
 iteP v33
 (ldP 7 true v2 h fun v34 =>
 stP 7 v4 v34 h fun h =>
 ldP 7 true v4 h fun v35 =>
 K (.tup [v35, .bool false]) h)
 (fadP 1 v2 fun v36 =>
 ldP 1 false v36 h fun v37 =>
 binP .add .other v37 (.int .i64 1) fun v38 =>
 fadP 1 v2 fun v39 =>
 stP 1 v39 v38 h fun h =>
 ldP 7 true v2 h fun v40 =>
 stP 7 v4 v40 h fun h =>
 ldP 7 true v4 h fun v41 =>
 K (.tup [v41, .bool true]) h))
 (binP .eql .other v6 (.int .i64 9) fun v42 =>
 iteP v42
 (ldP 7 true v2 h fun v43 =>
 fadP 2 v3 fun v44 =>
 ldP 1 false v44 h fun v45 =>
 S n_ref20_spent [v43, v45] h fun v46 h =>
 iteP v46
 (ldP 7 true v2 h fun v47 =>
 stP 7 v4 v47 h fun h =>
 ldP 7 true v4 h fun v48 =>
 K (.tup [v48, .bool false]) h)
 (fadP 6 v2 fun v49 =>
 ldP 1 false v49 h fun v50 =>
 fadP 2 v3 fun v51 =>
 ldP 1 false v51 h fun v52 =>
 bslP t_int 1 [.int .i64 0] [(0, 1, v52)] h fun v53 h =>
 appP t_int 1 8 v50 v53 h fun v54 h =>
 fadP 6 v2 fun v55 =>
 stP 1 v55 v54 h fun h =>
 ldP 7 true v2 h fun v56 =>
 stP 7 v4 v56 h fun h =>
 ldP 7 true v4 h fun v57 =>
 K (.tup [v57, .bool true]) h))
 (binP .eql .other v6 (.int .i64 1) fun v58 =>
 iteP v58
 (ldP 7 true v2 h fun v59 =>
 ldP 8 true v3 h fun v60 =>
 S n_ref20_added [v59, v60] h fun v61 h =>
 extP v61 0 fun v62 =>
 extP v61 1 fun v63 =>
 stP 7 v4 v62 h fun h =>
 ldP 7 true v4 h fun v64 =>
 K (.tup [v64, v63]) h)
 (ldP 7 true v2 h fun v65 =>
 fadP 1 v3 fun v66 =>
 ldP 1 false v66 h fun v67 =>
 S n_ref20_UserAt [v65, v67] h fun v68 h =>
 binP .lss .other v68 (.int .i64 0) fun v69 =>
 iteP v69
 (ldP 7 true v2 h fun v70 =>
 stP 7 v4 v70 h fun h =>
 ldP 7 true v4 h fun v71 =>
 K (.tup [v71, .bool false]) h)
 (ldP 12 true v1 h fun v72 =>
 ldP 7 true v2 h fun v73 =>
 ldP 8 true v3 h fun v74 =>
 S n_ref20_turned [v72, v73, v68, v74] h fun v75 h =>
 extP v75 0 fun v76 =>
 extP v75 1 fun v77 =>
 stP 7 v4 v76 h fun h =>
 ldP 7 true v4 h fun v78 =>
 K (.tup [v78, v77]) h)))))))
theorem q_ref20_applied (S : FuncId → List AVal → AHeap A → (AVal → AHeap A → Prop) → Prop) (G : Nat → AHeap A → List AVal → (List AVal → AHeap A → Prop) → Prop) (a0 a1 a2 : AVal) (h : AHeap A) (K : AVal → AHeap A → Prop) : funP Tryz.prog S G Tryz.f45 .leaf [a0, a1, a2] h K = p_ref20_applied S G a0 a1 a2 h K := by kernel_rfl
theorem c_ref20_applied {R : Adts A} {h : AHeap A} {K : AVal → AHeap A → Prop} {a0 a1 a2 : AVal} (hk : p_ref20_applied (Tri Pr R) (Gives Pr R) a0 a1 a2 h K) : Tri Pr R n_ref20_applied [a0, a1, a2] h K :=
  tri_of_funP (by kernel_rfl) (fun _ _ _ _ h => h) (fun _ _ _ _ h => h) Tryz.func45 (by rw [q_ref20_applied]; exact hk)
/-- bastion/bastionref20.CopyState -/
def p_ref20_CopyState (S : FuncId → List AVal → AHeap A → (AVal → AHeap A → Prop) → Prop) (G : Nat → AHeap A → List AVal → (List AVal → AHeap A → Prop) → Prop) (a0 : AVal) (h : AHeap A) (K : AVal → AHeap A → Prop) : Prop :=
 boxP t_api_State 7 a0 h fun v1 h =>
 newP t_api_State [.int .i64 0, .int .i64 0, .int .i64 0, .nils, .nils, .nils, .nils] h fun v2 h =>
 bslP t_api_User 0 [] [] h fun v3 h =>
 fadP 3 v1 fun v4 =>
 ldP 1 false v4 h fun v5 =>
 appP t_api_User 9 72 v3 v5 h fun v6 h =>
 fadP 3 v1 fun v7 =>
 stP 1 v7 v6 h fun h =>
 bslP t_api_Session 0 [] [] h fun v8 h =>
 fadP 4 v1 fun v9 =>
 ldP 1 false v9 h fun v10 =>
 appP t_api_Session 4 32 v8 v10 h fun v11 h =>
 fadP 4 v1 fun v12 =>
 stP 1 v12 v11 h fun h =>
 bslP t_api_Address 0 [] [] h fun v13 h =>
 fadP 5 v1 fun v14 =>
 ldP 1 false v14 h fun v15 =>
 appP t_api_Address 3 24 v13 v15 h fun v16 h =>
 fadP 5 v1 fun v17 =>
 stP 1 v17 v16 h fun h =>
 bslP t_int 0 [] [] h fun v18 h =>
 fadP 6 v1 fun v19 =>
 ldP 1 false v19 h fun v20 =>
 appP t_int 1 8 v18 v20 h fun v21 h =>
 fadP 6 v1 fun v22 =>
 stP 1 v22 v21 h fun h =>
 ldP 7 true v1 h fun v23 =>
 stP 7 v2 v23 h fun h =>
 ldP 7 true v2 h fun v24 =>
 K v24 h
theorem q_ref20_CopyState (S : FuncId → List AVal → AHeap A → (AVal → AHeap A → Prop) → Prop) (G : Nat → AHeap A → List AVal → (List AVal → AHeap A → Prop) → Prop) (a0 : AVal) (h : AHeap A) (K : AVal → AHeap A → Prop) : funP Tryz.prog S G Tryz.f46 .leaf [a0] h K = p_ref20_CopyState S G a0 h K := by kernel_rfl
theorem c_ref20_CopyState {R : Adts A} {h : AHeap A} {K : AVal → AHeap A → Prop} {a0 : AVal} (hk : p_ref20_CopyState (Tri Pr R) (Gives Pr R) a0 h K) : Tri Pr R n_ref20_CopyState [a0] h K :=
  tri_of_funP (by kernel_rfl) (fun _ _ _ _ h => h) (fun _ _ _ _ h => h) Tryz.func46 (by rw [q_ref20_CopyState]; exact hk)
/-- bastion/pool.New -/
def p_pool_New (S : FuncId → List AVal → AHeap A → (AVal → AHeap A → Prop) → Prop) (G : Nat → AHeap A → List AVal → (List AVal → AHeap A → Prop) → Prop) (a0 : AVal) (h : AHeap A) (K : AVal → AHeap A → Prop) : Prop :=
 binP .lss .other a0 (.int .i64 1) fun v1 =>
 condP v1 false (fun k2 =>
 binP .gtr .other a0 (.int .i64 16) fun v3 =>
 k2 v3 h)
 (.bool true) h fun v4 h =>
 iteP v4
 (K (.tup [.nils, .int .i64 1600]) h)
 (bldP [.bool false, .int .i64 0, .int .i64 0] [(1, 1, .int .i64 (-1))] fun v5 =>
 bslP t_api_Address 1 [.bool false, .int .i64 0, .int .i64 0] [(0, 3, v5)] h fun v6 h =>
 S n_slices_Repeat_api_Address [v6, a0] h fun v7 h =>
 K (.tup [v7, .int .i64 0]) h)
theorem q_pool_New (S : FuncId → List AVal → AHeap A → (AVal → AHeap A → Prop) → Prop) (G : Nat → AHeap A → List AVal → (List AVal → AHeap A → Prop) → Prop) (a0 : AVal) (h : AHeap A) (K : AVal → AHeap A → Prop) : funP Tryz.prog S G Tryz.f47 .leaf [a0] h K = p_pool_New S G a0 h K := by kernel_rfl
theorem c_pool_New {R : Adts A} {h : AHeap A} {K : AVal → AHeap A → Prop} {a0 : AVal} (hk : p_pool_New (Tri Pr R) (Gives Pr R) a0 h K) : Tri Pr R n_pool_New [a0] h K :=
  tri_of_funP (by kernel_rfl) (fun _ _ _ _ h => h) (fun _ _ _ _ h => h) Tryz.func47 (by rw [q_pool_New]; exact hk)
/-- bastion/state.ConfigMay -/
def p_state_ConfigMay (S : FuncId → List AVal → AHeap A → (AVal → AHeap A → Prop) → Prop) (G : Nat → AHeap A → List AVal → (List AVal → AHeap A → Prop) → Prop) (a0 : AVal) (h : AHeap A) (K : AVal → AHeap A → Prop) : Prop :=
 joinP G h.length (fun k1 =>
 nilP a0 fun v2 =>
 fadP 0 v2 fun v3 =>
 ldP 1 false v3 h fun v4 =>
 S n_state_between [v4, .int .i64 3, .int .i64 256] h fun v5 h =>
 iteP v5
 (nilP a0 fun v6 =>
 fadP 1 v6 fun v7 =>
 ldP 1 false v7 h fun v8 =>
 S n_state_between [v8, .int .i64 1, .int .i64 8] h fun v9 h =>
 iteP v9
 (nilP a0 fun v10 =>
 fadP 2 v10 fun v11 =>
 ldP 1 false v11 h fun v12 =>
 S n_state_between [v12, .int .i64 1, .int .i64 8] h fun v13 h =>
 iteP v13
 (nilP a0 fun v14 =>
 fadP 3 v14 fun v15 =>
 ldP 1 false v15 h fun v16 =>
 S n_state_between [v16, .int .i64 1, .int .i64 16] h fun v17 h =>
 iteP v17
 (nilP a0 fun v18 =>
 fadP 4 v18 fun v19 =>
 ldP 1 false v19 h fun v20 =>
 S n_state_between [v20, .int .i64 1, .int .i64 8] h fun v21 h =>
 iteP v21
 (nilP a0 fun v22 =>
 fadP 11 v22 fun v23 =>
 ldP 1 false v23 h fun v24 =>
 S n_state_between [v24, .int .i64 0, .int .i64 4] h fun v25 h =>
 iteP v25
 (nilP a0 fun v26 =>
 fadP 5 v26 fun v27 =>
 nilP a0 fun v28 =>
 fadP 6 v28 fun v29 =>
 nilP a0 fun v30 =>
 fadP 7 v30 fun v31 =>
 nilP a0 fun v32 =>
 fadP 8 v32 fun v33 =>
 nilP a0 fun v34 =>
 fadP 9 v34 fun v35 =>
 nilP a0 fun v36 =>
 fadP 10 v36 fun v37 =>
 ldP 1 false v27 h fun v38 =>
 ldP 1 false v29 h fun v39 =>
 ldP 1 false v31 h fun v40 =>
 ldP 1 false v33 h fun v41 =>
 ldP 1 false v35 h fun v42 =>
 ldP 1 false v37 h fun v43 =>
 ldV 1 false v35 h = some v42 ∧
 ldV 1 false v33 h = some v41 ∧
 ldV 1 false v31 h = some v40 ∧
 ldV 1 false v29 h = some v39 ∧
 ldV 1 false v27 h = some v38 ∧
 bslP t_int 6 [.int .i64 0, .int .i64 0, .int .i64 0, .int .i64 0, .int .i64 0, .int .i64 0] [(0, 1, v38), (1, 1, v39), (2, 1, v40), (3, 1, v41), (4, 1, v42), (5, 1, v43)] h fun v44 h =>
 S n_state_life [v44] h fun v45 h =>
 k1 [v45] h)
 (k1 [.bool false] h))
 (k1 [.bool false] h))
 (k1 [.bool false] h))
 (k1 [.bool false] h))
 (k1 [.bool false] h))
 (k1 [.bool false] h))
 (fun v47 h =>
 (fun v46 =>
 K v46 h) (v47.getD 0 .any))
theorem q_state_ConfigMay (S : FuncId → List AVal → AHeap A → (AVal → AHeap A → Prop) → Prop) (G : Nat → AHeap A → List AVal → (List AVal → AHeap A → Prop) → Prop) (a0 : AVal) (h : AHeap A) (K : AVal → AHeap A → Prop) : funP Tryz.prog S G Tryz.f48 (.two none .leaf (.two none (.draw (some [2]) (.take 0 (.take 1 (.take 2 (.alt 3 (.alt 4 (.take 5 (.split 5 (.take 6 (.take 7 (.take 8 (.alt 9 (.alt 10 (.take 11 (.take 12 (.split 12 (.take 13 (.take 14 (.take 15 (.alt 16 (.alt 17 (.take 18 (.take 19 (.split 19 (.take 20 (.take 21 (.take 22 (.alt 23 (.alt 24 (.take 25 (.take 26 (.split 26 (.take 27 (.take 28 (.take 29 (.alt 30 (.alt 31 (.take 32 (.take 33 (.split 33 (.take 34 (.take 35 (.take 36 (.alt 37 (.alt 38 (.take 39 (.take 40 (.split 40 (.take 41 (.take 42 (.take 43 (.take 45 (.take 46 (.take 47 (.take 49 (.take 50 (.take 51 (.take 53 (.take 54 (.take 55 (.take 57 (.take 58 (.take 59 (.take 61 (.take 62 (.take 63 (.load 44 (.load 48 (.load 52 (.load 56 (.load 60 (.alt 64 (.alt 65 (.alt 66 (.take 67 (.take 68 .stop)) .stop) .stop) .stop)))))))))))))))))))))))) (.skip 41 (.skip 42 (.skip 43 (.skip 44 (.skip 45 (.skip 46 (.skip 47 (.skip 48 (.skip 49 (.skip 50 (.skip 51 (.skip 52 (.skip 53 (.skip 54 (.skip 55 (.skip 56 (.skip 57 (.skip 58 (.skip 59 (.skip 60 (.skip 61 (.skip 62 (.skip 63 (.skip 64 (.skip 65 (.skip 66 (.take 67 (.take 68 .stop))))))))))))))))))))))))))))))) .stop) .stop)))) (.skip 34 (.skip 35 (.skip 36 (.skip 37 (.skip 38 (.take 39 (.take 40 (.known 40 false (.skip 41 (.skip 42 (.skip 43 (.skip 44 (.skip 45 (.skip 46 (.skip 47 (.skip 48 (.skip 49 (.skip 50 (.skip 51 (.skip 52 (.skip 53 (.skip 54 (.skip 55 (.skip 56 (.skip 57 (.skip 58 (.skip 59 (.skip 60 (.skip 61 (.skip 62 (.skip 63 (.skip 64 (.skip 65 (.skip 66 (.take 67 (.take 68 .stop))))))))))))))))))))))))))))))))))))))) .stop) .stop)))) (.skip 27 (.skip 28 (.skip 29 (.skip 30 (.skip 31 (.take 32 (.take 33 (.known 33 false (.skip 34 (.skip 35 (.skip 36 (.skip 37 (.skip 38 (.take 39 (.take 40 (.known 40 false (.skip 41 (.skip 42 (.skip 43 (.skip 44 (.skip 45 (.skip 46 (.skip 47 (.skip 48 (.skip 49 (.skip 50 (.skip 51 (.skip 52 (.skip 53 (.skip 54 (.skip 55 (.skip 56 (.skip 57 (.skip 58 (.skip 59 (.skip 60 (.skip 61 (.skip 62 (.skip 63 (.skip 64 (.skip 65 (.skip 66 (.take 67 (.take 68 .stop))))))))))))))))))))))))))))))))))))))))))))))) .stop) .stop)))) (.skip 20 (.skip 21 (.skip 22 (.skip 23 (.skip 24 (.take 25 (.take 26 (.known 26 false (.skip 27 (.skip 28 (.skip 29 (.skip 30 (.skip 31 (.take 32 (.take 33 (.known 33 false (.skip 34 (.skip 35 (.skip 36 (.skip 37 (.skip 38 (.take 39 (.take 40 (.known 40 false (.skip 41 (.skip 42 (.skip 43 (.skip 44 (.skip 45 (.skip 46 (.skip 47 (.skip 48 (.skip 49 (.skip 50 (.skip 51 (.skip 52 (.skip 53 (.skip 54 (.skip 55 (.skip 56 (.skip 57 (.skip 58 (.skip 59 (.skip 60 (.skip 61 (.skip 62 (.skip 63 (.skip 64 (.skip 65 (.skip 66 (.take 67 (.take 68 .stop))))))))))))))))))))))))))))))))))))))))))))))))))))))) .stop) .stop)))) (.skip 13 (.skip 14 (.skip 15 (.skip 16 (.skip 17 (.take 18 (.take 19 (.known 19 false (.skip 20 (.skip 21 (.skip 22 (.skip 23 (.skip 24 (.take 25 (.take 26 (.known 26 false (.skip 27 (.skip 28 (.skip 29 (.skip 30 (.skip 31 (.take 32 (.take 33 (.known 33 false (.skip 34 (.skip 35 (.skip 36 (.skip 37 (.skip 38 (.take 39 (.take 40 (.known 40 false (.skip 41 (.skip 42 (.skip 43 (.skip 44 (.skip 45 (.skip 46 (.skip 47 (.skip 48 (.skip 49 (.skip 50 (.skip 51 (.skip 52 (.skip 53 (.skip 54 (.skip 55 (.skip 56 (.skip 57 (.skip 58 (.skip 59 (.skip 60 (.skip 61 (.skip 62 (.skip 63 (.skip 64 (.skip 65 (.skip 66 (.take 67 (.take 68 .stop))))))))))))))))))))))))))))))))))))))))))))))))))))))))))))))) .stop) .stop)))) (.skip 6 (.skip 7 (.skip 8 (.skip 9 (.skip 10 (.take 11 (.take 12 (.known 12 false (.skip 13 (.skip 14 (.skip 15 (.skip 16 (.skip 17 (.take 18 (.take 19 (.known 19 false (.skip 20 (.skip 21 (.skip 22 (.skip 23 (.skip 24 (.take 25 (.take 26 (.known 26 false (.skip 27 (.skip 28 (.skip 29 (.skip 30 (.skip 31 (.take 32 (.take 33 (.known 33 false (.skip 34 (.skip 35 (.skip 36 (.skip 37 (.skip 38 (.take 39 (.take 40 (.known 40 false (.skip 41 (.skip 42 (.skip 43 (.skip 44 (.skip 45 (.skip 46 (.skip 47 (.skip 48 (.skip 49 (.skip 50 (.skip 51 (.skip 52 (.skip 53 (.skip 54 (.skip 55 (.skip 56 (.skip 57 (.skip 58 (.skip 59 (.skip 60 (.skip 61 (.skip 62 (.skip 63 (.skip 64 (.skip 65 (.skip 66 (.take 67 (.take 68 .stop)))))))))))))))))))))))))))))))))))))))))))))))))))))))))))))))))))))) .stop) .stop))))) .leaf)) [a0] h K = p_state_ConfigMay S G a0 h K := by kernel_rfl
theorem c_state_ConfigMay {R : Adts A} {h : AHeap A} {K : AVal → AHeap A → Prop} {a0 : AVal} (hk : p_state_ConfigMay (Tri Pr R) (Gives Pr R) a0 h K) : Tri Pr R n_state_ConfigMay [a0] h K :=
  tri_of_funP (by kernel_rfl) (fun _ _ _ _ h => h) (fun _ _ _ _ h => h) Tryz.func48 (by rw [q_state_ConfigMay]; exact hk)
/-- bastion/event.May -/
def p_event_May (S : FuncId → List AVal → AHeap A → (AVal → AHeap A → Prop) → Prop) (G : Nat → AHeap A → List AVal → (List AVal → AHeap A → Prop) → Prop) (a0 : AVal) (h : AHeap A) (K : AVal → AHeap A → Prop) : Prop :=
 boxP t_api_Event 8 a0 h fun v1 h =>
 fadP 0 v1 fun v2 =>
 ldP 1 false v2 h fun v3 =>
 binP .lss .other v3 (.int .i64 0) fun v4 =>
 condP v4 false (fun k5 =>
 fadP 0 v1 fun v6 =>
 ldP 1 false v6 h fun v7 =>
 binP .gtr .other v7 (.int .i64 9) fun v8 =>
 k5 v8 h)
 (.bool true) h fun v9 h =>
 condP v9 false (fun k10 =>
 fadP 0 v1 fun v11 =>
 ldP 1 false v11 h fun v12 =>
 binP .eql .other v12 (.int .i64 6) fun v13 =>
 condP v13 true (fun k14 =>
 fadP 5 v1 fun v15 =>
 ldP 1 false v15 h fun v16 =>
 binP .gtr .other v16 (.int .i64 4) fun v17 =>
 k14 v17 h)
 (.bool false) h fun v18 h =>
 k10 v18 h)
 (.bool true) h fun v19 h =>
 iteP v19
 (K (.bool false) h)
 (S n_event_parts [v1] h fun v20 h =>
 lenP v20 fun v21 =>
 loopP G (fun v50 h k23 =>
 (fun v22 =>
 binP .lss .other v22 v21 fun v24 =>
 iteP v24
 (idxP 1 v20 v22 fun v25 =>
 ldP 1 false v25 h fun v26 =>
 nilP v26 fun v27 =>
 ldP 1 false v27 h fun v28 =>
 S n_field_NumMay [v28] h fun v29 h =>
 notP v29 fun v30 =>
 iteP v30
 (K (.bool false) h)
 (binP .add .other v22 (.int .i64 1) fun v31 =>
 k23 [v31] h))
 (joinP G h.length (fun k32 =>
 fadP 1 v1 fun v33 =>
 ldP 1 false v33 h fun v34 =>
 binP .lss .other v34 (.int .i64 8) fun v35 =>
 iteP v35
 (fadP 3 v1 fun v36 =>
 ldP 1 false v36 h fun v37 =>
 binP .lss .other v37 (.int .i64 16) fun v38 =>
 iteP v38
 (fadP 7 v1 fun v39 =>
 ldP 1 false v39 h fun v40 =>
 binP .leq .other v40 (.int .i64 1048575) fun v41 =>
 iteP v41
 (fadP 6 v1 fun v42 =>
 ldP 1 false v42 h fun v43 =>
 binP .leq .other v43 (.int .i64 1048576) fun v44 =>
 iteP v44
 (ldP 8 true v1 h fun v45 =>
 S n_event_plain [v1] h fun v46 h =>
 ldV 8 true v1 h = some v45 ∧
 binP .eql (.shape (.st [(0, 1, .i), (1, 1, .i), (2, 1, .i), (3, 1, .i), (4, 1, .i), (5, 1, .i), (6, 1, .i), (7, 1, .i)])) v45 v46 fun v47 =>
 k32 [v47] h)
 (k32 [.bool false] h))
 (k32 [.bool false] h))
 (k32 [.bool false] h))
 (k32 [.bool false] h))
 (fun v49 h =>
 (fun v48 =>
 K v48 h) (v49.getD 0 .any)))) (v50.getD 0 .any)) [.int .i64 0] h)
theorem q_event_May (S : FuncId → List AVal → AHeap A → (AVal → AHeap A → Prop) → Prop) (G : Nat → AHeap A → List AVal → (List AVal → AHeap A → Prop) → Prop) (a0 : AVal) (h : AHeap A) (K : AVal → AHeap A → Prop) : funP Tryz.prog S G Tryz.f49 (.two none .leaf (.two none .leaf (.two none (.two none .leaf (.one [] (.one [25] .leaf))) (.two none (.draw (some [2]) (.take 0 (.alt 1 (.take 2 (.take 3 (.split 3 (.take 4 (.alt 5 (.take 6 (.take 7 (.take 8 (.split 8 (.take 9 (.alt 10 (.take 11 (.take 12 (.take 13 (.split 13 (.take 14 (.alt 15 (.take 16 (.take 17 (.take 18 (.split 18 (.load 19 (.alt 20 (.take 21 (.take 22 (.take 23 .stop))) .stop)) (.skip 19 (.skip 20 (.skip 21 (.take 22 (.take 23 .stop))))))))) .stop)) (.skip 14 (.skip 15 (.skip 16 (.take 17 (.take 18 (.known 18 false (.skip 19 (.skip 20 (.skip 21 (.take 22 (.take 23 .stop))))))))))))))) .stop)) (.skip 9 (.skip 10 (.skip 11 (.take 12 (.take 13 (.known 13 false (.skip 14 (.skip 15 (.skip 16 (.take 17 (.take 18 (.known 18 false (.skip 19 (.skip 20 (.skip 21 (.take 22 (.take 23 .stop))))))))))))))))))))) .stop)) (.skip 4 (.skip 5 (.skip 6 (.take 7 (.take 8 (.known 8 false (.skip 9 (.skip 10 (.skip 11 (.take 12 (.take 13 (.known 13 false (.skip 14 (.skip 15 (.skip 16 (.take 17 (.take 18 (.known 18 false (.skip 19 (.skip 20 (.skip 21 (.take 22 (.take 23 .stop)))))))))))))))))))))))))) .stop))) .leaf)))) [a0] h K = p_event_May S G a0 h K := by kernel_rfl
theorem c_event_May {R : Adts A} {h : AHeap A} {K : AVal → AHeap A → Prop} {a0 : AVal} (hk : p_event_May (Tri Pr R) (Gives Pr R) a0 h K) : Tri Pr R n_event_May [a0] h K :=
  tri_of_funP (by kernel_rfl) (fun _ _ _ _ h => h) (fun _ _ _ _ h => h) Tryz.func49 (by rw [q_event_May]; exact hk)
/-- bastion/state.Copy -/
def p_state_Copy (S : FuncId → List AVal → AHeap A → (AVal → AHeap A → Prop) → Prop) (G : Nat → AHeap A → List AVal → (List AVal → AHeap A → Prop) → Prop) (a0 : AVal) (h : AHeap A) (K : AVal → AHeap A → Prop) : Prop :=
 boxP t_api_State 7 a0 h fun v1 h =>
 newP t_api_State [.int .i64 0, .int .i64 0, .int .i64 0, .nils, .nils, .nils, .nils] h fun v2 h =>
 fadP 3 v1 fun v3 =>
 fadP 4 v1 fun v4 =>
 ldP 1 false v4 h fun v5 =>
 ldP 1 false v3 h fun v6 =>
 ldV 1 false v4 h = some v5 ∧
 S n_slices_Clone_api_User [v6] h fun v7 h =>
 ldV 1 false v4 h = some v5 ∧
 fadP 3 v1 fun v8 =>
 S n_slices_Clone_api_Session [v5] h fun v9 h =>
 stP 1 v8 v7 h fun h =>
 fadP 4 v1 fun v10 =>
 stP 1 v10 v9 h fun h =>
 fadP 5 v1 fun v11 =>
 fadP 6 v1 fun v12 =>
 ldP 1 false v12 h fun v13 =>
 ldP 1 false v11 h fun v14 =>
 ldV 1 false v12 h = some v13 ∧
 S n_slices_Clone_api_Address [v14] h fun v15 h =>
 ldV 1 false v12 h = some v13 ∧
 fadP 5 v1 fun v16 =>
 S n_slices_Clone_int [v13] h fun v17 h =>
 stP 1 v16 v15 h fun h =>
 fadP 6 v1 fun v18 =>
 stP 1 v18 v17 h fun h =>
 ldP 7 true v1 h fun v19 =>
 stP 7 v2 v19 h fun h =>
 ldP 7 true v2 h fun v20 =>
 K v20 h
theorem q_state_Copy (S : FuncId → List AVal → AHeap A → (AVal → AHeap A → Prop) → Prop) (G : Nat → AHeap A → List AVal → (List AVal → AHeap A → Prop) → Prop) (a0 : AVal) (h : AHeap A) (K : AVal → AHeap A → Prop) : funP Tryz.prog S G Tryz.f50 (.two none .leaf (.two none (.draw none (.take 0 (.take 3 (.load 4 (.alt 1 (.alt 2 (.take 6 (.alt 5 (.alt 7 (.take 8 (.alt 9 .stop .stop)) .stop) .stop)) .stop) .stop))))) (.two none (.draw none (.take 0 (.take 3 (.load 4 (.alt 1 (.alt 2 (.take 6 (.alt 5 (.alt 7 (.take 8 (.alt 9 .stop .stop)) .stop) .stop)) .stop) .stop))))) .leaf))) [a0] h K = p_state_Copy S G a0 h K := by kernel_rfl
theorem c_state_Copy {R : Adts A} {h : AHeap A} {K : AVal → AHeap A → Prop} {a0 : AVal} (hk : p_state_Copy (Tri Pr R) (Gives Pr R) a0 h K) : Tri Pr R n_state_Copy [a0] h K :=
  tri_of_funP (by kernel_rfl) (fun _ _ _ _ h => h) (fun _ _ _ _ h => h) Tryz.func50 (by rw [q_state_Copy]; exact hk)
/-- (*bastion/state.turn).does -/
def p_state_turn_does (S : FuncId → List AVal → AHeap A → (AVal → AHeap A → Prop) → Prop) (G : Nat → AHeap A → List AVal → (List AVal → AHeap A → Prop) → Prop) (a0 : AVal) (h : AHeap A) (K : AVal → AHeap A → Prop) : Prop :=
 nilP a0 fun v1 =>
 fadP 8 v1 fun v2 =>
 ldP 1 false v2 h fun v3 =>
 nilP v3 fun v4 =>
 fadP 0 v4 fun v5 =>
 ldP 1 false v5 h fun v6 =>
 binP .eql .other v6 (.int .i64 0) fun v7 =>
 iteP v7
 (S n_state_turn_boot [a0] h fun v8 h =>
 K v8 h)
 (binP .eql .other v6 (.int .i64 1) fun v9 =>
 iteP v9
 (S n_state_turn_user [a0] h fun v10 h =>
 K v10 h)
 (binP .eql .other v6 (.int .i64 5) fun v11 =>
 iteP v11
 (S n_state_turn_lease [a0] h fun v12 h =>
 K v12 h)
 (binP .eql .other v6 (.int .i64 6) fun v13 =>
 iteP v13
 (S n_state_turn_closes [a0] h fun v14 h =>
 K v14 h)
 (binP .eql .other v6 (.int .i64 8) fun v15 =>
 iteP v15
 (nilP a0 fun v16 =>
 fadP 1 v16 fun v17 =>
 fadP 1 v17 fun v18 =>
 ldP 1 false v18 h fun v19 =>
 binP .lss .other v19 (.int .i64 1073741823) fun v20 =>
 condP v20 true (fun k21 =>
 nilP a0 fun v22 =>
 fadP 1 v22 fun v23 =>
 S n_state_rotate [v23] h fun v24 h =>
 k21 v24 h)
 (.bool false) h fun v25 h =>
 K v25 h)
 (binP .eql .other v6 (.int .i64 9) fun v26 =>
 iteP v26
 (S n_state_turn_spend [a0] h fun v27 h =>
 K v27 h)
 (nilP a0 fun v28 =>
 fadP 1 v28 fun v29 =>
 nilP a0 fun v30 =>
 fadP 8 v30 fun v31 =>
 ldP 1 false v31 h fun v32 =>
 nilP v32 fun v33 =>
 fadP 1 v33 fun v34 =>
 ldP 1 false v34 h fun v35 =>
 S n_state_User [v29, v35] h fun v36 h =>
 S n_state_turn_of [a0, v36] h fun v37 h =>
 K v37 h))))))
theorem q_state_turn_does (S : FuncId → List AVal → AHeap A → (AVal → AHeap A → Prop) → Prop) (G : Nat → AHeap A → List AVal → (List AVal → AHeap A → Prop) → Prop) (a0 : AVal) (h : AHeap A) (K : AVal → AHeap A → Prop) : funP Tryz.prog S G Tryz.f51 (.two none .leaf (.two none .leaf (.two none (.draw none (.take 0 (.take 1 (.take 2 (.take 3 (.take 4 (.take 5 (.take 6 (.alt 7 (.take 8 (.take 9 (.alt 10 (.alt 11 (.alt 12 (.take 13 .stop) .stop) .stop) .stop))) .stop))))))))) .leaf))) [a0] h K = p_state_turn_does S G a0 h K := by kernel_rfl
theorem c_state_turn_does {R : Adts A} {h : AHeap A} {K : AVal → AHeap A → Prop} {a0 : AVal} (hk : p_state_turn_does (Tri Pr R) (Gives Pr R) a0 h K) : Tri Pr R n_state_turn_does [a0] h K :=
  tri_of_funP (by kernel_rfl) (fun _ _ _ _ h => h) (fun _ _ _ _ h => h) Tryz.func51 (by rw [q_state_turn_does]; exact hk)
/-- slices.IndexFunc[[]bastion/api.Session,bastion/api.Session] -/
def p_slices_IndexFunc_api_Session (S : FuncId → List AVal → AHeap A → (AVal → AHeap A → Prop) → Prop) (G : Nat → AHeap A → List AVal → (List AVal → AHeap A → Prop) → Prop) (a0 a1 : AVal) (h : AHeap A) (K : AVal → AHeap A → Prop) : Prop :=
 lenP a0 fun v1 =>
 loopP G (fun v9 h k3 =>
 (fun v2 =>
 binP .lss .other v2 v1 fun v4 =>
 iteP v4
 (idxP 4 a0 v2 fun v5 =>
 ldP 4 true v5 h fun v6 =>
 dynP Pr S a1 [v6] h fun v7 h =>
 iteP v7
 (K v2 h)
 (binP .add .other v2 (.int .i64 1) fun v8 =>
 k3 [v8] h))
 (K (.int .i64 (-1)) h)) (v9.getD 0 .any)) [.int .i64 0] h
theorem q_slices_IndexFunc_api_Session (S : FuncId → List AVal → AHeap A → (AVal → AHeap A → Prop) → Prop) (G : Nat → AHeap A → List AVal → (List AVal → AHeap A → Prop) → Prop) (a0 a1 : AVal) (h : AHeap A) (K : AVal → AHeap A → Prop) : funP Tryz.prog S G Tryz.f54 (.two none .leaf (.two none (.two none .leaf (.one [] (.one [8] .leaf))) .leaf)) [a0, a1] h K = p_slices_IndexFunc_api_Session S G a0 a1 h K := by kernel_rfl
theorem c_slices_IndexFunc_api_Session {R : Adts A} {h : AHeap A} {K : AVal → AHeap A → Prop} {a0 a1 : AVal} (hk : p_slices_IndexFunc_api_Session (Tri Pr R) (Gives Pr R) a0 a1 h K) : Tri Pr R n_slices_IndexFunc_api_Session [a0, a1] h K :=
  tri_of_funP (by kernel_rfl) (fun _ _ _ _ h => h) (fun _ _ _ _ h => h) Tryz.func54 (by rw [q_slices_IndexFunc_api_Session]; exact hk)
/-- bastion/state.Session$1 -/
def p_state_Session_c1 (S : FuncId → List AVal → AHeap A → (AVal → AHeap A → Prop) → Prop) (G : Nat → AHeap A → List AVal → (List AVal → AHeap A → Prop) → Prop) (a0 a1 : AVal) (h : AHeap A) (K : AVal → AHeap A → Prop) : Prop :=
 boxP t_api_Session 4 a0 h fun v1 h =>
 fadP 0 v1 fun v2 =>
 ldP 1 false v2 h fun v3 =>
 ldP 1 false a1 h fun v4 =>
 binP .eql .other v3 v4 fun v5 =>
 K v5 h
theorem q_state_Session_c1 (S : FuncId → List AVal → AHeap A → (AVal → AHeap A → Prop) → Prop) (G : Nat → AHeap A → List AVal → (List AVal → AHeap A → Prop) → Prop) (a0 a1 : AVal) (h : AHeap A) (K : AVal → AHeap A → Prop) : funP Tryz.prog S G Tryz.f55 .leaf [a0, a1] h K = p_state_Session_c1 S G a0 a1 h K := by kernel_rfl
theorem c_state_Session_c1 {R : Adts A} {h : AHeap A} {K : AVal → AHeap A → Prop} {a0 a1 : AVal} (hk : p_state_Session_c1 (Tri Pr R) (Gives Pr R) a0 a1 h K) : Tri Pr R n_state_Session_c1 [a0, a1] h K :=
  tri_of_funP (by kernel_rfl) (fun _ _ _ _ h => h) (fun _ _ _ _ h => h) Tryz.func55 (by rw [q_state_Session_c1]; exact hk)
/-- bastion/bastionref20.life -/
def p_ref20_life (S : FuncId → List AVal → AHeap A → (AVal → AHeap A → Prop) → Prop) (G : Nat → AHeap A → List AVal → (List AVal → AHeap A → Prop) → Prop) (a0 : AVal) (h : AHeap A) (K : AVal → AHeap A → Prop) : Prop :=
 binP .geq .other a0 (.int .i64 1) fun v1 =>
 condP v1 true (fun k2 =>
 binP .leq .other a0 (.int .i64 65536) fun v3 =>
 k2 v3 h)
 (.bool false) h fun v4 h =>
 K v4 h
theorem q_ref20_life (S : FuncId → List AVal → AHeap A → (AVal → AHeap A → Prop) → Prop) (G : Nat → AHeap A → List AVal → (List AVal → AHeap A → Prop) → Prop) (a0 : AVal) (h : AHeap A) (K : AVal → AHeap A → Prop) : funP Tryz.prog S G Tryz.f56 .leaf [a0] h K = p_ref20_life S G a0 h K := by kernel_rfl
theorem c_ref20_life {R : Adts A} {h : AHeap A} {K : AVal → AHeap A → Prop} {a0 : AVal} (hk : p_ref20_life (Tri Pr R) (Gives Pr R) a0 h K) : Tri Pr R n_ref20_life [a0] h K :=
  tri_of_funP (by kernel_rfl) (fun _ _ _ _ h => h) (fun _ _ _ _ h => h) Tryz.func56 (by rw [q_ref20_life]; exact hk)
/-- bastion/bastionref1.part -/
def p_ref1_part (S : FuncId → List AVal → AHeap A → (AVal → AHeap A → Prop) → Prop) (G : Nat → AHeap A → List AVal → (List AVal → AHeap A → Prop) → Prop) (a0 : AVal) (h : AHeap A) (K : AVal → AHeap A → Prop) : Prop :=
 boxP t_api_Event 8 a0 h fun v1 h =>
 newP t_api_Event [.int .i64 0, .int .i64 0, .int .i64 0, .int .i64 0, .int .i64 0, .int .i64 0, .int .i64 0, .int .i64 0] h fun v2 h =>
 fadP 0 v1 fun v3 =>
 ldP 1 false v3 h fun v4 =>
 bldP [.int .i64 0, .int .i64 0, .int .i64 0, .int .i64 0, .int .i64 0, .int .i64 0, .int .i64 0, .int .i64 0] [(0, 1, v4)] fun v5 =>
 newP t_api_Event [.int .i64 0, .int .i64 0, .int .i64 0, .int .i64 0, .int .i64 0, .int .i64 0, .int .i64 0, .int .i64 0] h fun v6 h =>
 stP 8 v6 v5 h fun h =>
 joinP G h.length (fun k7 =>
 fadP 0 v1 fun v8 =>
 ldP 1 false v8 h fun v9 =>
 binP .eql .other v9 (.int .i64 0) fun v10 =>
 iteP v10
 (fadP 7 v1 fun v11 =>
 ldP 1 false v11 h fun v12 =>
 fadP 7 v6 fun v13 =>
 stP 1 v13 v12 h fun h =>
 k7 [] h)
 (binP .eql .other v9 (.int .i64 1) fun v14 =>
 iteP v14
 (fadP 1 v1 fun v15 =>
 ldP 1 false v15 h fun v16 =>
 fadP 1 v6 fun v17 =>
 stP 1 v17 v16 h fun h =>
 fadP 4 v1 fun v18 =>
 ldP 1 false v18 h fun v19 =>
 fadP 4 v6 fun v20 =>
 stP 1 v20 v19 h fun h =>
 fadP 5 v1 fun v21 =>
 ldP 1 false v21 h fun v22 =>
 fadP 5 v6 fun v23 =>
 stP 1 v23 v22 h fun h =>
 fadP 6 v1 fun v24 =>
 ldP 1 false v24 h fun v25 =>
 fadP 6 v6 fun v26 =>
 stP 1 v26 v25 h fun h =>
 k7 [] h)
 (binP .eql .other v9 (.int .i64 2) fun v27 =>
 iteP v27
 (fadP 1 v1 fun v28 =>
 ldP 1 false v28 h fun v29 =>
 fadP 1 v6 fun v30 =>
 stP 1 v30 v29 h fun h =>
 fadP 7 v1 fun v31 =>
 ldP 1 false v31 h fun v32 =>
 fadP 7 v6 fun v33 =>
 stP 1 v33 v32 h fun h =>
 k7 [] h)
 (binP .eql .other v9 (.int .i64 3) fun v34 =>
 iteP v34
 (fadP 1 v1 fun v35 =>
 ldP 1 false v35 h fun v36 =>
 fadP 1 v6 fun v37 =>
 stP 1 v37 v36 h fun h =>
 fadP 4 v1 fun v38 =>
 ldP 1 false v38 h fun v39 =>
 fadP 4 v6 fun v40 =>
 stP 1 v40 v39 h fun h =>
 k7 [] h)
 (joinP G h.length (fun k41 =>
 binP .eql .other v9 (.int .i64 4) fun v42 =>
 iteP v42
 (k41 [v42] h)
 (binP .eql .other v9 (.int .i64 7) fun v43 =>
 k41 [v43] h))
 (fun v81 h =>
 (fun v44 =>
 iteP v44
 (fadP 1 v1 fun v45 =>
 ldP 1 false v45 h fun v46 =>
 fadP 1 v6 fun v47 =>
 stP 1 v47 v46 h fun h =>
 k7 [] h)
 (binP .eql .other v9 (.int .i64 5) fun v48 =>
 iteP v48
 (fadP 2 v1 fun v49 =>
 ldP 1 false v49 h fun v50 =>
 fadP 2 v6 fun v51 =>
 stP 1 v51 v50 h fun h =>
 fadP 1 v1 fun v52 =>
 ldP 1 false v52 h fun v53 =>
 fadP 1 v6 fun v54 =>
 stP 1 v54 v53 h fun h =>
 fadP 3 v1 fun v55 =>
 ldP 1 false v55 h fun v56 =>
 fadP 3 v6 fun v57 =>
 stP 1 v57 v56 h fun h =>
 fadP 7 v1 fun v58 =>
 ldP 1 false v58 h fun v59 =>
 fadP 7 v6 fun v60 =>
 stP 1 v60 v59 h fun h =>
 k7 [] h)
 (binP .eql .other v9 (.int .i64 6) fun v61 =>
 iteP v61
 (fadP 2 v1 fun v62 =>
 ldP 1 false v62 h fun v63 =>
 fadP 2 v6 fun v64 =>
 stP 1 v64 v63 h fun h =>
 fadP 4 v1 fun v65 =>
 ldP 1 false v65 h fun v66 =>
 fadP 4 v6 fun v67 =>
 stP 1 v67 v66 h fun h =>
 fadP 5 v1 fun v68 =>
 ldP 1 false v68 h fun v69 =>
 fadP 5 v6 fun v70 =>
 stP 1 v70 v69 h fun h =>
 fadP 7 v1 fun v71 =>
 ldP 1 false v71 h fun v72 =>
 fadP 7 v6 fun v73 =>
 stP 1 v73 v72 h fun h =>
 k7 [] h)
 (binP .eql .other v9 (.int .i64 8) fun v74 =>
 iteP v74
 (k7 [] h)
 (binP .eql .other v9 (.int .i64 9) fun v75 =>
 iteP v75
 (fadP 2 v1 fun v76 =>
 ldP 1 false v76 h fun v77 =>
 fadP 2 v6 fun v78 =>
 stP 1 v78 v77 h fun h =>
 k7 [] h)
 (ldP 8 true v6 h fun v79 =>
 stP 8 v2 v79 h fun h =>
 ldP 8 true v2 h fun v80 =>
 K (.tup [v80, .bool false]) h)))))) (v81.getD 0 .any)))))))
 (fun _ h =>
 ldP 8 true v6 h fun v82 =>
 stP 8 v2 v82 h fun h =>
 ldP 8 true v2 h fun v83 =>
 K (.tup [v83, .bool true]) h)
theorem q_ref1_part (S : FuncId → List AVal → AHeap A → (AVal → AHeap A → Prop) → Prop) (G : Nat → AHeap A → List AVal → (List AVal → AHeap A → Prop) → Prop) (a0 : AVal) (h : AHeap A) (K : AVal → AHeap A → Prop) : funP Tryz.prog S G Tryz.f57 (.two none .leaf (.two none .leaf (.two (some []) (.two none .leaf (.one [] (.two none .leaf (.two none .leaf (.two none .leaf (.two none .leaf (.two none .leaf (.two none .leaf (.two none .leaf (.two none .leaf (.two (some [46]) .leaf .leaf))))))))))) .leaf))) [a0] h K = p_ref1_part S G a0 h K := by kernel_rfl
theorem c_ref1_part {R : Adts A} {h : AHeap A} {K : AVal → AHeap A → Prop} {a0 : AVal} (hk : p_ref1_part (Tri Pr R) (Gives Pr R) a0 h K) : Tri Pr R n_ref1_part [a0] h K :=
  tri_of_funP (by kernel_rfl) (fun _ _ _ _ h => h) (fun _ _ _ _ h => h) Tryz.func57 (by rw [q_ref1_part]; exact hk)
/-- bastion/bastionref1.num -/
def p_ref1_num (S : FuncId → List AVal → AHeap A → (AVal → AHeap A → Prop) → Prop) (G : Nat → AHeap A → List AVal → (List AVal → AHeap A → Prop) → Prop) (a0 : AVal) (h : AHeap A) (K : AVal → AHeap A → Prop) : Prop :=
 binP .geq .other a0 (.int .i64 0) fun v1 =>
 condP v1 true (fun k2 =>
 binP .leq .other a0 (.int .i64 1073741823) fun v3 =>
 k2 v3 h)
 (.bool false) h fun v4 h =>
 K v4 h
theorem q_ref1_num (S : FuncId → List AVal → AHeap A → (AVal → AHeap A → Prop) → Prop) (G : Nat → AHeap A → List AVal → (List AVal → AHeap A → Prop) → Prop) (a0 : AVal) (h : AHeap A) (K : AVal → AHeap A → Prop) : funP Tryz.prog S G Tryz.f58 .leaf [a0] h K = p_ref1_num S G a0 h K := by kernel_rfl
theorem c_ref1_num {R : Adts A} {h : AHeap A} {K : AVal → AHeap A → Prop} {a0 : AVal} (hk : p_ref1_num (Tri Pr R) (Gives Pr R) a0 h K) : Tri Pr R n_ref1_num [a0] h K :=
  tri_of_funP (by kernel_rfl) (fun _ _ _ _ h => h) (fun _ _ _ _ h => h) Tryz.func58 (by rw [q_ref1_num]; exact hk)
/-- bastion/bastionref20.booted -/
def p_ref20_booted (S : FuncId → List AVal → AHeap A → (AVal → AHeap A → Prop) → Prop) (G : Nat → AHeap A → List AVal → (List AVal → AHeap A → Prop) → Prop) (a0 a1 a2 : AVal) (h : AHeap A) (K : AVal → AHeap A → Prop) : Prop :=
 boxP t_api_Config 12 a0 h fun v1 h =>
 boxP t_api_State 7 a1 h fun v2 h =>
 boxP t_api_Event 8 a2 h fun v3 h =>
 newP t_api_State [.int .i64 0, .int .i64 0, .int .i64 0, .nils, .nils, .nils, .nils] h fun v4 h =>
 fadP 0 v2 fun v5 =>
 ldP 1 false v5 h fun v6 =>
 binP .lss .other v6 (.int .i64 0) fun v7 =>
 condP v7 false (fun k8 =>
 fadP 0 v2 fun v9 =>
 ldP 1 false v9 h fun v10 =>
 binP .geq .other v10 (.int .i64 1073741823) fun v11 =>
 k8 v11 h)
 (.bool true) h fun v12 h =>
 iteP v12
 (ldP 7 true v2 h fun v13 =>
 stP 7 v4 v13 h fun h =>
 ldP 7 true v4 h fun v14 =>
 K (.tup [v14, .bool false]) h)
 (fadP 0 v2 fun v15 =>
 ldP 1 false v15 h fun v16 =>
 binP .add .other v16 (.int .i64 1) fun v17 =>
 fadP 0 v2 fun v18 =>
 stP 1 v18 v17 h fun h =>
 loopP G (fun v48 h k20 =>
 (fun v19 =>
 fadP 4 v2 fun v21 =>
 ldP 1 false v21 h fun v22 =>
 lenP v22 fun v23 =>
 binP .lss .other v19 v23 fun v24 =>
 iteP v24
 (fadP 5 v2 fun v25 =>
 fadP 4 v2 fun v26 =>
 fadP 7 v3 fun v27 =>
 fadP 9 v1 fun v28 =>
 ldP 1 false v25 h fun v29 =>
 ldP 1 false v26 h fun v30 =>
 idxP 4 v30 v19 fun v31 =>
 fadP 2 v31 fun v32 =>
 ldP 1 false v32 h fun v33 =>
 ldP 1 false v27 h fun v34 =>
 ldP 1 false v28 h fun v35 =>
 ldV 1 false v27 h = some v34 ∧
 ldV 1 false v32 h = some v33 ∧
 ldV 1 false v26 h = some v30 ∧
 ldV 1 false v25 h = some v29 ∧
 binP .add .other v34 v35 fun v36 =>
 S n_ref12_Free [v29, v33, v36] h fun v37 h =>
 extP v37 0 fun v38 =>
 extP v37 1 fun v39 =>
 binP .neq .other v39 (.int .i64 0) fun v40 =>
 iteP v40
 (ldP 7 true v2 h fun v41 =>
 stP 7 v4 v41 h fun h =>
 ldP 7 true v4 h fun v42 =>
 K (.tup [v42, .bool false]) h)
 (fadP 5 v2 fun v43 =>
 stP 1 v43 v38 h fun h =>
 binP .add .other v19 (.int .i64 1) fun v44 =>
 k20 [v44] h))
 (fadP 4 v2 fun v45 =>
 stP 1 v45 .nils h fun h =>
 ldP 7 true v2 h fun v46 =>
 stP 7 v4 v46 h fun h =>
 ldP 7 true v4 h fun v47 =>
 K (.tup [v47, .bool true]) h)) (v48.getD 0 .any)) [.int .i64 0] h)
theorem q_ref20_booted (S : FuncId → List AVal → AHeap A → (AVal → AHeap A → Prop) → Prop) (G : Nat → AHeap A → List AVal → (List AVal → AHeap A → Prop) → Prop) (a0 a1 a2 : AVal) (h : AHeap A) (K : AVal → AHeap A → Prop) : funP Tryz.prog S G Tryz.f59 (.two none .leaf (.two none .leaf (.two none .leaf (.two none (.two none .leaf (.one [] (.one [8] (.two none .leaf (.two none (.one [] (.two none (.draw none (.take 0 (.take 2 (.take 4 (.take 8 (.take 10 (.load 1 (.load 3 (.take 5 (.take 6 (.load 7 (.load 9 (.alt 11 (.take 12 (.alt 13 (.take 14 (.take 15 (.take 16 (.take 17 (.take 18 .stop))))) .stop)) .stop))))))))))))) .leaf)) .leaf))))) .leaf)))) [a0, a1, a2] h K = p_ref20_booted S G a0 a1 a2 h K := by kernel_rfl
theorem c_ref20_booted {R : Adts A} {h : AHeap A} {K : AVal → AHeap A → Prop} {a0 a1 a2 : AVal} (hk : p_ref20_booted (Tri Pr R) (Gives Pr R) a0 a1 a2 h K) : Tri Pr R n_ref20_booted [a0, a1, a2] h K :=
  tri_of_funP (by kernel_rfl) (fun _ _ _ _ h => h) (fun _ _ _ _ h => h) Tryz.func59 (by rw [q_ref20_booted]; exact hk)
end Go.AI
