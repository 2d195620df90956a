/- The functions as texts over the abstract heap. -/
import Derived.Test.YtmdlhohhimdkaaaGreatNm
import Derived.KernelRfl
set_option linter.all false
namespace Go.AI
open Go.Proofs
set_option maxRecDepth 1000000
variable {A : Type}
/-- bastion/bastionref20.leased -/
def p_ref20_leased (S : FuncId → List AVal → AHeap A → (AVal → AHeap A → Prop) → Prop) (G : Nat → AHeap A → List AVal → (List AVal → AHeap A → Prop) → Prop) (a0 a1 a2 : AVal) (h : AHeap A) (K : AVal → AHeap A → Prop) : Prop :=
 boxP t_api_Config 12 a0 h fun v1 h =>
 boxP t_api_State 7 a1 h fun v2 h =>
 boxP t_api_Event 8 a2 h fun v3 h =>
 newP t_api_State [.int .i64 0, .int .i64 0, .int .i64 0, .nils, .nils, .nils, .nils] h fun v4 h =>
 fadP 2 v3 fun v5 =>
 ldP 1 false v5 h fun v6 =>
 fadP 2 v2 fun v7 =>
 ldP 1 false v7 h fun v8 =>
 binP .neq .other v6 v8 fun v9 =>
 condP v9 false (fun k10 =>
 ldP 7 true v2 h fun v11 =>
 fadP 1 v3 fun v12 =>
 ldP 1 false v12 h fun v13 =>
 S n_ref20_UserAt [v11, v13] h fun v14 h =>
 binP .lss .other v14 (.int .i64 0) fun v15 =>
 k10 v15 h)
 (.bool true) h fun v16 h =>
 condP v16 false (fun k17 =>
 fadP 4 v2 fun v18 =>
 ldP 1 false v18 h fun v19 =>
 lenP v19 fun v20 =>
 fadP 2 v1 fun v21 =>
 ldP 1 false v21 h fun v22 =>
 binP .geq .other v20 v22 fun v23 =>
 k17 v23 h)
 (.bool true) h fun v24 h =>
 iteP v24
 (ldP 7 true v2 h fun v25 =>
 stP 7 v4 v25 h fun h =>
 ldP 7 true v4 h fun v26 =>
 K (.tup [v26, .bool false]) h)
 (fadP 5 v2 fun v27 =>
 ldP 1 false v27 h fun v28 =>
 fadP 3 v3 fun v29 =>
 ldP 1 false v29 h fun v30 =>
 fadP 1 v3 fun v31 =>
 ldP 1 false v31 h fun v32 =>
 S n_ref12_Take [v28, v30, v32] h fun v33 h =>
 extP v33 0 fun v34 =>
 extP v33 1 fun v35 =>
 binP .neq .other v35 (.int .i64 0) fun v36 =>
 iteP v36
 (ldP 7 true v2 h fun v37 =>
 stP 7 v4 v37 h fun h =>
 ldP 7 true v4 h fun v38 =>
 K (.tup [v38, .bool false]) h)
 (fadP 5 v2 fun v39 =>
 stP 1 v39 v34 h fun h =>
 fadP 2 v2 fun v40 =>
 ldP 1 false v40 h fun v41 =>
 binP .add .other v41 (.int .i64 1) fun v42 =>
 fadP 2 v2 fun v43 =>
 stP 1 v43 v42 h fun h =>
 fadP 4 v2 fun v44 =>
 ldP 1 false v44 h fun v45 =>
 fadP 2 v3 fun v46 =>
 ldP 1 false v46 h fun v47 =>
 fadP 1 v3 fun v48 =>
 ldP 1 false v48 h fun v49 =>
 fadP 3 v3 fun v50 =>
 ldP 1 false v50 h fun v51 =>
 fadP 7 v3 fun v52 =>
 ldP 1 false v52 h fun v53 =>
 bldP [.int .i64 0, .int .i64 0, .int .i64 0, .int .i64 0] [(0, 1, v47), (1, 1, v49), (2, 1, v51), (3, 1, v53)] fun v54 =>
 bslP t_api_Session 1 [.int .i64 0, .int .i64 0, .int .i64 0, .int .i64 0] [(0, 4, v54)] h fun v55 h =>
 appP t_api_Session 4 32 v45 v55 h fun v56 h =>
 fadP 4 v2 fun v57 =>
 stP 1 v57 v56 h fun h =>
 ldP 7 true v2 h fun v58 =>
 stP 7 v4 v58 h fun h =>
 ldP 7 true v4 h fun v59 =>
 K (.tup [v59, .bool true]) h))
theorem q_ref20_leased (S : FuncId → List AVal → AHeap A → (AVal → AHeap A → Prop) → Prop) (G : Nat → AHeap A → List AVal → (List AVal → AHeap A → Prop) → Prop) (a0 a1 a2 : AVal) (h : AHeap A) (K : AVal → AHeap A → Prop) : funP Tryz.prog S G Tryz.f60 .leaf [a0, a1, a2] h K = p_ref20_leased S G a0 a1 a2 h K := by kernel_rfl
theorem c_ref20_leased {R : Adts A} {h : AHeap A} {K : AVal → AHeap A → Prop} {a0 a1 a2 : AVal} (hk : p_ref20_leased (Tri Pr R) (Gives Pr R) a0 a1 a2 h K) : Tri Pr R n_ref20_leased [a0, a1, a2] h K :=
  tri_of_funP (by kernel_rfl) (fun _ _ _ _ h => h) (fun _ _ _ _ h => h) Tryz.func60 (by rw [q_ref20_leased]; exact hk)
/-- bastion/bastionref20.closed -/
def p_ref20_closed (S : FuncId → List AVal → AHeap A → (AVal → AHeap A → Prop) → Prop) (G : Nat → AHeap A → List AVal → (List AVal → AHeap A → Prop) → Prop) (a0 a1 : AVal) (h : AHeap A) (K : AVal → AHeap A → Prop) : Prop :=
 boxP t_api_State 7 a0 h fun v1 h =>
 boxP t_api_Event 8 a1 h fun v2 h =>
 newP t_api_State [.int .i64 0, .int .i64 0, .int .i64 0, .nils, .nils, .nils, .nils] h fun v3 h =>
 ldP 7 true v1 h fun v4 =>
 fadP 2 v2 fun v5 =>
 ldP 1 false v5 h fun v6 =>
 S n_ref20_SessionAt [v4, v6] h fun v7 h =>
 binP .lss .other v7 (.int .i64 0) fun v8 =>
 iteP v8
 (ldP 7 true v1 h fun v9 =>
 stP 7 v3 v9 h fun h =>
 ldP 7 true v3 h fun v10 =>
 K (.tup [v10, .bool false]) h)
 (fadP 4 v1 fun v11 =>
 ldP 1 false v11 h fun v12 =>
 idxP 4 v12 v7 fun v13 =>
 ldP 4 true v13 h fun v14 =>
 newP t_api_Session [.int .i64 0, .int .i64 0, .int .i64 0, .int .i64 0] h fun v15 h =>
 stP 4 v15 v14 h fun h =>
 fadP 5 v1 fun v16 =>
 ldP 1 false v16 h fun v17 =>
 fadP 2 v15 fun v18 =>
 ldP 1 false v18 h fun v19 =>
 fadP 7 v2 fun v20 =>
 ldP 1 false v20 h fun v21 =>
 S n_ref12_Free [v17, v19, v21] h fun v22 h =>
 extP v22 0 fun v23 =>
 extP v22 1 fun v24 =>
 binP .neq .other v24 (.int .i64 0) fun v25 =>
 iteP v25
 (ldP 7 true v1 h fun v26 =>
 stP 7 v3 v26 h fun h =>
 ldP 7 true v3 h fun v27 =>
 K (.tup [v27, .bool false]) h)
 (fadP 5 v1 fun v28 =>
 stP 1 v28 v23 h fun h =>
 ldP 7 true v1 h fun v29 =>
 fadP 1 v15 fun v30 =>
 ldP 1 false v30 h fun v31 =>
 S n_ref20_UserAt [v29, v31] h fun v32 h =>
 joinP G h.length (fun k33 =>
 binP .geq .other v32 (.int .i64 0) fun v34 =>
 iteP v34
 (fadP 3 v1 fun v35 =>
 ldP 1 false v35 h fun v36 =>
 idxP 9 v36 v32 fun v37 =>
 ldP 9 true v37 h fun v38 =>
 newP t_api_User (reps 9 (.int .i64 0)) h fun v39 h =>
 stP 9 v39 v38 h fun h =>
 fadP 4 v39 fun v40 =>
 ldP 1 false v40 h fun v41 =>
 fadP 4 v2 fun v42 =>
 ldP 1 false v42 h fun v43 =>
 S n_ref20_Sum [v41, v43] h fun v44 h =>
 fadP 4 v39 fun v45 =>
 stP 1 v45 v44 h fun h =>
 fadP 3 v1 fun v46 =>
 ldP 1 false v46 h fun v47 =>
 ldP 9 true v39 h fun v48 =>
 idxP 9 v47 v32 fun v49 =>
 stP 9 v49 v48 h fun h =>
 k33 [] h)
 (k33 [] h))
 (fun _ h =>
 bslP t_api_Session 0 [] [] h fun v50 h =>
 fadP 4 v1 fun v51 =>
 ldP 1 false v51 h fun v52 =>
 rslP 4 v52 none (some v7) none fun v53 =>
 appP t_api_Session 4 32 v50 v53 h fun v54 h =>
 fadP 4 v1 fun v55 =>
 ldP 1 false v55 h fun v56 =>
 binP .add .other v7 (.int .i64 1) fun v57 =>
 rslP 4 v56 (some v57) none none fun v58 =>
 appP t_api_Session 4 32 v54 v58 h fun v59 h =>
 fadP 4 v1 fun v60 =>
 stP 1 v60 v59 h fun h =>
 ldP 7 true v1 h fun v61 =>
 stP 7 v3 v61 h fun h =>
 ldP 7 true v3 h fun v62 =>
 K (.tup [v62, .bool true]) h)))
theorem q_ref20_closed (S : FuncId → List AVal → AHeap A → (AVal → AHeap A → Prop) → Prop) (G : Nat → AHeap A → List AVal → (List AVal → AHeap A → Prop) → Prop) (a0 a1 : AVal) (h : AHeap A) (K : AVal → AHeap A → Prop) : funP Tryz.prog S G Tryz.f61 (.two none .leaf (.two none .leaf (.two none .leaf (.two none .leaf (.two none .leaf (.two none .leaf (.two none .leaf (.two none .leaf (.two (some []) .leaf .leaf))))))))) [a0, a1] h K = p_ref20_closed S G a0 a1 h K := by kernel_rfl
theorem c_ref20_closed {R : Adts A} {h : AHeap A} {K : AVal → AHeap A → Prop} {a0 a1 : AVal} (hk : p_ref20_closed (Tri Pr R) (Gives Pr R) a0 a1 h K) : Tri Pr R n_ref20_closed [a0, a1] h K :=
  tri_of_funP (by kernel_rfl) (fun _ _ _ _ h => h) (fun _ _ _ _ h => h) Tryz.func61 (by rw [q_ref20_closed]; exact hk)
/-- bastion/bastionref20.spent -/
def p_ref20_spent (S : FuncId → List AVal → AHeap A → (AVal → AHeap A → Prop) → Prop) (G : Nat → AHeap A → List AVal → (List AVal → AHeap A → Prop) → Prop) (a0 a1 : AVal) (h : AHeap A) (K : AVal → AHeap A → Prop) : Prop :=
 boxP t_api_State 7 a0 h fun v1 h =>
 loopP G (fun v14 h k3 =>
 (fun v2 =>
 fadP 6 v1 fun v4 =>
 ldP 1 false v4 h fun v5 =>
 lenP v5 fun v6 =>
 binP .lss .other v2 v6 fun v7 =>
 iteP v7
 (fadP 6 v1 fun v8 =>
 ldP 1 false v8 h fun v9 =>
 idxP 1 v9 v2 fun v10 =>
 ldP 1 false v10 h fun v11 =>
 binP .eql .other v11 a1 fun v12 =>
 iteP v12
 (K (.bool true) h)
 (binP .add .other v2 (.int .i64 1) fun v13 =>
 k3 [v13] h))
 (K (.bool false) h)) (v14.getD 0 .any)) [.int .i64 0] h
theorem q_ref20_spent (S : FuncId → List AVal → AHeap A → (AVal → AHeap A → Prop) → Prop) (G : Nat → AHeap A → List AVal → (List AVal → AHeap A → Prop) → Prop) (a0 a1 : AVal) (h : AHeap A) (K : AVal → AHeap A → Prop) : funP Tryz.prog S G Tryz.f62 (.two none .leaf (.two none (.two none .leaf (.one [] (.one [5] .leaf))) .leaf)) [a0, a1] h K = p_ref20_spent S G a0 a1 h K := by kernel_rfl
theorem c_ref20_spent {R : Adts A} {h : AHeap A} {K : AVal → AHeap A → Prop} {a0 a1 : AVal} (hk : p_ref20_spent (Tri Pr R) (Gives Pr R) a0 a1 h K) : Tri Pr R n_ref20_spent [a0, a1] h K :=
  tri_of_funP (by kernel_rfl) (fun _ _ _ _ h => h) (fun _ _ _ _ h => h) Tryz.func62 (by rw [q_ref20_spent]; exact hk)
/-- bastion/bastionref20.added -/
def p_ref20_added (S : FuncId → List AVal → AHeap A → (AVal → AHeap A → Prop) → Prop) (G : Nat → AHeap A → List AVal → (List AVal → AHeap A → Prop) → Prop) (a0 a1 : AVal) (h : AHeap A) (K : AVal → AHeap A → Prop) : Prop :=
 boxP t_api_State 7 a0 h fun v1 h =>
 boxP t_api_Event 8 a1 h fun v2 h =>
 newP t_api_State [.int .i64 0, .int .i64 0, .int .i64 0, .nils, .nils, .nils, .nils] h fun v3 h =>
 ldP 7 true v1 h fun v4 =>
 fadP 1 v2 fun v5 =>
 ldP 1 false v5 h fun v6 =>
 S n_ref20_UserAt [v4, v6] h fun v7 h =>
 binP .geq .other v7 (.int .i64 0) fun v8 =>
 iteP v8
 (ldP 7 true v1 h fun v9 =>
 stP 7 v3 v9 h fun h =>
 ldP 7 true v3 h fun v10 =>
 K (.tup [v10, .bool false]) h)
 (fadP 1 v2 fun v11 =>
 ldP 1 false v11 h fun v12 =>
 fadP 4 v2 fun v13 =>
 ldP 1 false v13 h fun v14 =>
 fadP 5 v2 fun v15 =>
 ldP 1 false v15 h fun v16 =>
 fadP 6 v2 fun v17 =>
 ldP 1 false v17 h fun v18 =>
 bldP [.int .i64 0, .int .i64 0, .int .i64 0, .int .i64 0, .int .i64 0, .int .i64 0, .int .i64 0, .int .i64 0, .int .i64 0] [(0, 1, v12), (1, 1, v14), (2, 1, v16), (3, 1, v18)] fun v19 =>
 newP t_api_User (reps 9 (.int .i64 0)) h fun v20 h =>
 stP 9 v20 v19 h fun h =>
 loopP G (fun v65 h k24 =>
 (fun v21 v22 v23 =>
 fadP 3 v1 fun v25 =>
 ldP 1 false v25 h fun v26 =>
 lenP v26 fun v27 =>
 binP .lss .other v23 v27 fun v28 =>
 iteP v28
 (joinP G h.length (fun k29 =>
 joinP G h.length (fun k30 =>
 notP v22 fun v31 =>
 iteP v31
 (fadP 3 v1 fun v32 =>
 fadP 1 v2 fun v33 =>
 ldP 1 false v32 h fun v34 =>
 idxP 9 v34 v23 fun v35 =>
 fadP 0 v35 fun v36 =>
 ldP 1 false v36 h fun v37 =>
 ldP 1 false v33 h fun v38 =>
 ldV 1 false v36 h = some v37 ∧
 ldV 1 false v32 h = some v34 ∧
 binP .gtr .other v37 v38 fun v39 =>
 k30 [v39] h)
 (k30 [.bool false] h))
 (fun v44 h =>
 (fun v40 =>
 iteP v40
 (ldP 9 true v20 h fun v41 =>
 bslP t_api_User 1 [.int .i64 0, .int .i64 0, .int .i64 0, .int .i64 0, .int .i64 0, .int .i64 0, .int .i64 0, .int .i64 0, .int .i64 0] [(0, 9, v41)] h fun v42 h =>
 appP t_api_User 9 72 v21 v42 h fun v43 h =>
 k29 [v43, .bool true] h)
 (k29 [v21, v22] h)) (v44.getD 0 .any)))
 (fun v54 h =>
 (fun v45 v46 =>
 fadP 3 v1 fun v47 =>
 ldP 1 false v47 h fun v48 =>
 idxP 9 v48 v23 fun v49 =>
 ldP 9 true v49 h fun v50 =>
 bslP t_api_User 1 [.int .i64 0, .int .i64 0, .int .i64 0, .int .i64 0, .int .i64 0, .int .i64 0, .int .i64 0, .int .i64 0, .int .i64 0] [(0, 9, v50)] h fun v51 h =>
 appP t_api_User 9 72 v45 v51 h fun v52 h =>
 binP .add .other v23 (.int .i64 1) fun v53 =>
 k24 [v52, v46, v53] h) (v54.getD 0 .any) (v54.getD 1 .any)))
 (joinP G h.length (fun k55 =>
 notP v22 fun v56 =>
 iteP v56
 (ldP 9 true v20 h fun v57 =>
 bslP t_api_User 1 [.int .i64 0, .int .i64 0, .int .i64 0, .int .i64 0, .int .i64 0, .int .i64 0, .int .i64 0, .int .i64 0, .int .i64 0] [(0, 9, v57)] h fun v58 h =>
 appP t_api_User 9 72 v21 v58 h fun v59 h =>
 k55 [v59] h)
 (k55 [v21] h))
 (fun v64 h =>
 (fun v60 =>
 fadP 3 v1 fun v61 =>
 stP 1 v61 v60 h fun h =>
 ldP 7 true v1 h fun v62 =>
 stP 7 v3 v62 h fun h =>
 ldP 7 true v3 h fun v63 =>
 K (.tup [v63, .bool true]) h) (v64.getD 0 .any)))) (v65.getD 0 .any) (v65.getD 1 .any) (v65.getD 2 .any)) [.nils, .bool false, .int .i64 0] h)
theorem q_ref20_added (S : FuncId → List AVal → AHeap A → (AVal → AHeap A → Prop) → Prop) (G : Nat → AHeap A → List AVal → (List AVal → AHeap A → Prop) → Prop) (a0 a1 : AVal) (h : AHeap A) (K : AVal → AHeap A → Prop) : funP Tryz.prog S G Tryz.f63 (.two none .leaf (.two none .leaf (.two none .leaf (.two none .leaf (.two none .leaf (.two none (.two none .leaf (.one [] (.one [6, 8, 9] (.two none .leaf (.two none (.one [] (.two (some [6, 8]) (.two none (.draw (some [44]) (.take 0 (.take 1 (.take 2 (.split 2 (.take 3 (.take 5 (.take 9 (.load 4 (.take 6 (.take 7 (.load 8 (.alt 10 (.take 11 (.take 12 .stop)) .stop)))))))) (.skip 3 (.skip 4 (.skip 5 (.skip 6 (.skip 7 (.skip 8 (.skip 9 (.skip 10 (.skip 11 (.take 12 .stop))))))))))))))) .leaf) .leaf)) .leaf))))) (.two (some [6]) .leaf .leaf))))))) [a0, a1] h K = p_ref20_added S G a0 a1 h K := by kernel_rfl
theorem c_ref20_added {R : Adts A} {h : AHeap A} {K : AVal → AHeap A → Prop} {a0 a1 : AVal} (hk : p_ref20_added (Tri Pr R) (Gives Pr R) a0 a1 h K) : Tri Pr R n_ref20_added [a0, a1] h K :=
  tri_of_funP (by kernel_rfl) (fun _ _ _ _ h => h) (fun _ _ _ _ h => h) Tryz.func63 (by rw [q_ref20_added]; exact hk)
/-- bastion/bastionref20.turned -/
def p_ref20_turned (S : FuncId → List AVal → AHeap A → (AVal → AHeap A → Prop) → Prop) (G : Nat → AHeap A → List AVal → (List AVal → AHeap A → Prop) → Prop) (a0 a1 a2 a3 : AVal) (h : AHeap A) (K : AVal → AHeap A → Prop) : Prop :=
 boxP t_api_Config 12 a0 h fun v1 h =>
 boxP t_api_State 7 a1 h fun v2 h =>
 boxP t_api_Event 8 a3 h fun v3 h =>
 newP t_api_State [.int .i64 0, .int .i64 0, .int .i64 0, .nils, .nils, .nils, .nils] h fun v4 h =>
 fadP 3 v2 fun v5 =>
 ldP 1 false v5 h fun v6 =>
 idxP 9 v6 a2 fun v7 =>
 ldP 9 true v7 h fun v8 =>
 newP t_api_User (reps 9 (.int .i64 0)) h fun v9 h =>
 stP 9 v9 v8 h fun h =>
 joinP G h.length (fun k10 =>
 fadP 0 v3 fun v11 =>
 ldP 1 false v11 h fun v12 =>
 binP .eql .other v12 (.int .i64 2) fun v13 =>
 iteP v13
 (fadP 5 v9 fun v14 =>
 ldP 2 true v14 h fun v15 =>
 fadP 7 v3 fun v16 =>
 ldP 1 false v16 h fun v17 =>
 fadP 4 v1 fun v18 =>
 ldP 1 false v18 h fun v19 =>
 fadP 5 v1 fun v20 =>
 ldP 1 false v20 h fun v21 =>
 S n_ref12_Fail [v15, v17, v19, v21] h fun v22 h =>
 extP v22 0 fun v23 =>
 extP v22 1 fun v24 =>
 newP t_api_Lock [.int .i64 0, .int .i64 0] h fun v25 h =>
 stP 2 v25 v23 h fun h =>
 binP .neq .other v24 (.int .i64 0) fun v26 =>
 iteP v26
 (ldP 7 true v2 h fun v27 =>
 stP 7 v4 v27 h fun h =>
 ldP 7 true v4 h fun v28 =>
 K (.tup [v28, .bool false]) h)
 (ldP 2 true v25 h fun v29 =>
 fadP 5 v9 fun v30 =>
 stP 2 v30 v29 h fun h =>
 k10 [] h))
 (binP .eql .other v12 (.int .i64 3) fun v31 =>
 iteP v31
 (fadP 4 v3 fun v32 =>
 ldP 1 false v32 h fun v33 =>
 fadP 7 v9 fun v34 =>
 ldP 1 false v34 h fun v35 =>
 binP .leq .other v33 v35 fun v36 =>
 iteP v36
 (ldP 7 true v2 h fun v37 =>
 stP 7 v4 v37 h fun h =>
 ldP 7 true v4 h fun v38 =>
 K (.tup [v38, .bool false]) h)
 (fadP 4 v3 fun v39 =>
 ldP 1 false v39 h fun v40 =>
 fadP 7 v9 fun v41 =>
 stP 1 v41 v40 h fun h =>
 bldP [.int .i64 0, .int .i64 0] [] fun v42 =>
 fadP 5 v9 fun v43 =>
 stP 2 v43 v42 h fun h =>
 k10 [] h))
 (binP .eql .other v12 (.int .i64 4) fun v44 =>
 iteP v44
 (bldP [.int .i64 0, .int .i64 0] [] fun v45 =>
 fadP 5 v9 fun v46 =>
 stP 2 v46 v45 h fun h =>
 k10 [] h)
 (binP .eql .other v12 (.int .i64 7) fun v47 =>
 iteP v47
 (fadP 8 v9 fun v48 =>
 ldP 1 false v48 h fun v49 =>
 binP .lss .other v49 (.int .i64 0) fun v50 =>
 condP v50 false (fun k51 =>
 fadP 8 v9 fun v52 =>
 ldP 1 false v52 h fun v53 =>
 binP .geq .other v53 (.int .i64 1073741823) fun v54 =>
 k51 v54 h)
 (.bool true) h fun v55 h =>
 iteP v55
 (ldP 7 true v2 h fun v56 =>
 stP 7 v4 v56 h fun h =>
 ldP 7 true v4 h fun v57 =>
 K (.tup [v57, .bool false]) h)
 (fadP 8 v9 fun v58 =>
 ldP 1 false v58 h fun v59 =>
 binP .add .other v59 (.int .i64 1) fun v60 =>
 fadP 8 v9 fun v61 =>
 stP 1 v61 v60 h fun h =>
 k10 [] h))
 (k10 [] h)))))
 (fun _ h =>
 fadP 3 v2 fun v62 =>
 ldP 1 false v62 h fun v63 =>
 ldP 9 true v9 h fun v64 =>
 idxP 9 v63 a2 fun v65 =>
 stP 9 v65 v64 h fun h =>
 ldP 7 true v2 h fun v66 =>
 stP 7 v4 v66 h fun h =>
 ldP 7 true v4 h fun v67 =>
 K (.tup [v67, .bool true]) h)
theorem q_ref20_turned (S : FuncId → List AVal → AHeap A → (AVal → AHeap A → Prop) → Prop) (G : Nat → AHeap A → List AVal → (List AVal → AHeap A → Prop) → Prop) (a0 a1 a2 a3 : AVal) (h : AHeap A) (K : AVal → AHeap A → Prop) : funP Tryz.prog S G Tryz.f64 (.two none .leaf (.two none .leaf (.two (some []) .leaf .leaf))) [a0, a1, a2, a3] h K = p_ref20_turned S G a0 a1 a2 a3 h K := by kernel_rfl
theorem c_ref20_turned {R : Adts A} {h : AHeap A} {K : AVal → AHeap A → Prop} {a0 a1 a2 a3 : AVal} (hk : p_ref20_turned (Tri Pr R) (Gives Pr R) a0 a1 a2 a3 h K) : Tri Pr R n_ref20_turned [a0, a1, a2, a3] h K :=
  tri_of_funP (by kernel_rfl) (fun _ _ _ _ h => h) (fun _ _ _ _ h => h) Tryz.func64 (by rw [q_ref20_turned]; exact hk)
/-- slices.Repeat[[]bastion/api.Address,bastion/api.Address] -/
def p_slices_Repeat_api_Address (S : FuncId → List AVal → AHeap A → (AVal → AHeap A → Prop) → Prop) (G : Nat → AHeap A → List AVal → (List AVal → AHeap A → Prop) → Prop) (a0 a1 : AVal) (h : AHeap A) (K : AVal → AHeap A → Prop) : Prop :=
 joinP G h.length (fun k1 =>
 binP .lss .other a1 (.int .i64 0) fun v2 =>
 iteP v2
 (mkiP t_string (.str [99, 97, 110, 110, 111, 116, 32, 98, 101, 32, 110, 101, 103, 97, 116, 105, 118, 101]) fun v3 =>
 False)
 (k1 [] h))
 (fun _ h =>
 lenP a0 fun v4 =>
 cviP .u64 v4 fun v5 =>
 cviP .u64 a1 fun v6 =>
 S n_math_bits_Mul [v5, v6] h fun v7 h =>
 extP v7 0 fun v8 =>
 extP v7 1 fun v9 =>
 joinP G h.length (fun k10 =>
 binP .gtr .other v8 (.int .u64 0) fun v11 =>
 condP v11 false (fun k12 =>
 binP .gtr .other v9 (.int .u64 9223372036854775807) fun v13 =>
 k12 v13 h)
 (.bool true) h fun v14 h =>
 iteP v14
 (mkiP t_string (.str [116, 104, 101, 32, 114, 101, 115, 117, 108, 116, 32, 111, 102, 32, 40, 108, 101, 110, 40, 120, 41, 32, 42, 32, 99, 111, 117, 110, 116, 41, 32, 111, 118, 101, 114, 102, 108, 111, 119, 115]) fun v15 =>
 False)
 (k10 [] h))
 (fun _ h =>
 cviP .i64 v9 fun v16 =>
 mkslP t_api_Address 3 24 [.bool false, .int .i64 0, .int .i64 0] v16 v16 h fun v17 h =>
 cpyP 3 v17 a0 h fun v18 h =>
 loopP G (fun v27 h k20 =>
 (fun v19 =>
 lenP v17 fun v21 =>
 binP .lss .other v19 v21 fun v22 =>
 iteP v22
 (rslP 3 v17 (some v19) none none fun v23 =>
 rslP 3 v17 none (some v19) none fun v24 =>
 cpyP 3 v23 v24 h fun v25 h =>
 binP .add .other v19 v25 fun v26 =>
 k20 [v26] h)
 (K v17 h)) (v27.getD 0 .any)) [v18] h))
theorem q_slices_Repeat_api_Address (S : FuncId → List AVal → AHeap A → (AVal → AHeap A → Prop) → Prop) (G : Nat → AHeap A → List AVal → (List AVal → AHeap A → Prop) → Prop) (a0 a1 : AVal) (h : AHeap A) (K : AVal → AHeap A → Prop) : funP Tryz.prog S G Tryz.f65 (.two none .leaf (.two (some []) .leaf (.two none .leaf (.two (some []) .leaf (.two none .leaf (.two none .leaf (.two none (.one [] (.one [8] (.two none .leaf (.one [] (.draw none (.take 0 (.take 1 (.take 2 (.take 3 (.take 4 (.take 5 (.take 6 (.alt 7 (.take 8 (.take 9 .stop)) .stop))))))))))))) .leaf))))))) [a0, a1] h K = p_slices_Repeat_api_Address S G a0 a1 h K := by kernel_rfl
theorem c_slices_Repeat_api_Address {R : Adts A} {h : AHeap A} {K : AVal → AHeap A → Prop} {a0 a1 : AVal} (hk : p_slices_Repeat_api_Address (Tri Pr R) (Gives Pr R) a0 a1 h K) : Tri Pr R n_slices_Repeat_api_Address [a0, a1] h K :=
  tri_of_funP (by kernel_rfl) (fun _ _ _ _ h => h) (fun _ _ _ _ h => h) Tryz.func65 (by rw [q_slices_Repeat_api_Address]; exact hk)
/-- bastion/state.between -/
def p_state_between (S : FuncId → List AVal → AHeap A → (AVal → AHeap A → Prop) → Prop) (G : Nat → AHeap A → List AVal → (List AVal → AHeap A → Prop) → Prop) (a0 a1 a2 : AVal) (h : AHeap A) (K : AVal → AHeap A → Prop) : Prop :=
 binP .geq .other a0 a1 fun v1 =>
 condP v1 true (fun k2 =>
 binP .leq .other a0 a2 fun v3 =>
 k2 v3 h)
 (.bool false) h fun v4 h =>
 K v4 h
theorem q_state_between (S : FuncId → List AVal → AHeap A → (AVal → AHeap A → Prop) → Prop) (G : Nat → AHeap A → List AVal → (List AVal → AHeap A → Prop) → Prop) (a0 a1 a2 : AVal) (h : AHeap A) (K : AVal → AHeap A → Prop) : funP Tryz.prog S G Tryz.f66 .leaf [a0, a1, a2] h K = p_state_between S G a0 a1 a2 h K := by kernel_rfl
theorem c_state_between {R : Adts A} {h : AHeap A} {K : AVal → AHeap A → Prop} {a0 a1 a2 : AVal} (hk : p_state_between (Tri Pr R) (Gives Pr R) a0 a1 a2 h K) : Tri Pr R n_state_between [a0, a1, a2] h K :=
  tri_of_funP (by kernel_rfl) (fun _ _ _ _ h => h) (fun _ _ _ _ h => h) Tryz.func66 (by rw [q_state_between]; exact hk)
/-- bastion/state.life -/
def p_state_life (S : FuncId → List AVal → AHeap A → (AVal → AHeap A → Prop) → Prop) (G : Nat → AHeap A → List AVal → (List AVal → AHeap A → Prop) → Prop) (a0 : AVal) (h : AHeap A) (K : AVal → AHeap A → Prop) : Prop :=
 lenP a0 fun v1 =>
 loopP G (fun v12 h k3 =>
 (fun v2 =>
 binP .lss .other v2 v1 fun v4 =>
 iteP v4
 (idxP 1 a0 v2 fun v5 =>
 ldP 1 false v5 h fun v6 =>
 binP .lss .other v6 (.int .i64 1) fun v7 =>
 condP v7 false (fun k8 =>
 binP .gtr .other v6 (.int .i64 65536) fun v9 =>
 k8 v9 h)
 (.bool true) h fun v10 h =>
 iteP v10
 (K (.bool false) h)
 (binP .add .other v2 (.int .i64 1) fun v11 =>
 k3 [v11] h))
 (K (.bool true) h)) (v12.getD 0 .any)) [.int .i64 0] h
theorem q_state_life (S : FuncId → List AVal → AHeap A → (AVal → AHeap A → Prop) → Prop) (G : Nat → AHeap A → List AVal → (List AVal → AHeap A → Prop) → Prop) (a0 : AVal) (h : AHeap A) (K : AVal → AHeap A → Prop) : funP Tryz.prog S G Tryz.f67 (.two none .leaf (.two none (.two none .leaf (.one [] (.one [7] .leaf))) .leaf)) [a0] h K = p_state_life S G a0 h K := by kernel_rfl
theorem c_state_life {R : Adts A} {h : AHeap A} {K : AVal → AHeap A → Prop} {a0 : AVal} (hk : p_state_life (Tri Pr R) (Gives Pr R) a0 h K) : Tri Pr R n_state_life [a0] h K :=
  tri_of_funP (by kernel_rfl) (fun _ _ _ _ h => h) (fun _ _ _ _ h => h) Tryz.func67 (by rw [q_state_life]; exact hk)
/-- bastion/event.parts -/
def p_event_parts (S : FuncId → List AVal → AHeap A → (AVal → AHeap A → Prop) → Prop) (G : Nat → AHeap A → List AVal → (List AVal → AHeap A → Prop) → Prop) (a0 : AVal) (h : AHeap A) (K : AVal → AHeap A → Prop) : Prop :=
 nilP a0 fun v1 =>
 fadP 0 v1 fun v2 =>
 ldP 1 false v2 h fun v3 =>
 joinP G h.length (fun k4 =>
 joinP G h.length (fun k5 =>
 binP .eql .other v3 (.int .i64 1) fun v6 =>
 iteP v6
 (nilP a0 fun v7 =>
 fadP 1 v7 fun v8 =>
 nilP a0 fun v9 =>
 fadP 4 v9 fun v10 =>
 nilP a0 fun v11 =>
 fadP 5 v11 fun v12 =>
 nilP a0 fun v13 =>
 fadP 6 v13 fun v14 =>
 bslP t_p_int 4 [.nilp, .nilp, .nilp, .nilp] [(0, 1, v8), (1, 1, v10), (2, 1, v12), (3, 1, v14)] h fun v15 h =>
 K v15 h)
 (binP .eql .other v3 (.int .i64 3) fun v16 =>
 iteP v16
 (nilP a0 fun v17 =>
 fadP 4 v17 fun v18 =>
 bslP t_p_int 1 [.nilp] [(0, 1, v18)] h fun v19 h =>
 k5 [v19] h)
 (joinP G h.length (fun k20 =>
 binP .eql .other v3 (.int .i64 4) fun v21 =>
 iteP v21
 (k20 [v21] h)
 (binP .eql .other v3 (.int .i64 7) fun v22 =>
 k20 [v22] h))
 (fun v53 h =>
 (fun v23 =>
 iteP v23
 (k5 [.nils] h)
 (binP .eql .other v3 (.int .i64 2) fun v24 =>
 iteP v24
 (nilP a0 fun v25 =>
 fadP 1 v25 fun v26 =>
 nilP a0 fun v27 =>
 fadP 7 v27 fun v28 =>
 bslP t_p_int 2 [.nilp, .nilp] [(0, 1, v26), (1, 1, v28)] h fun v29 h =>
 K v29 h)
 (binP .eql .other v3 (.int .i64 5) fun v30 =>
 iteP v30
 (nilP a0 fun v31 =>
 fadP 2 v31 fun v32 =>
 nilP a0 fun v33 =>
 fadP 1 v33 fun v34 =>
 nilP a0 fun v35 =>
 fadP 3 v35 fun v36 =>
 nilP a0 fun v37 =>
 fadP 7 v37 fun v38 =>
 bslP t_p_int 4 [.nilp, .nilp, .nilp, .nilp] [(0, 1, v32), (1, 1, v34), (2, 1, v36), (3, 1, v38)] h fun v39 h =>
 K v39 h)
 (binP .eql .other v3 (.int .i64 6) fun v40 =>
 iteP v40
 (nilP a0 fun v41 =>
 fadP 4 v41 fun v42 =>
 nilP a0 fun v43 =>
 fadP 5 v43 fun v44 =>
 nilP a0 fun v45 =>
 fadP 7 v45 fun v46 =>
 bslP t_p_int 3 [.nilp, .nilp, .nilp] [(0, 1, v42), (1, 1, v44), (2, 1, v46)] h fun v47 h =>
 k4 [v47] h)
 (binP .eql .other v3 (.int .i64 9) fun v48 =>
 iteP v48
 (k4 [.nils] h)
 (binP .eql .other v3 (.int .i64 0) fun v49 =>
 iteP v49
 (nilP a0 fun v50 =>
 fadP 7 v50 fun v51 =>
 bslP t_p_int 1 [.nilp] [(0, 1, v51)] h fun v52 h =>
 K v52 h)
 (K .nils h))))))) (v53.getD 0 .any)))))
 (fun v59 h =>
 (fun v54 =>
 nilP a0 fun v55 =>
 fadP 1 v55 fun v56 =>
 bslP t_p_int 1 [.nilp] [(0, 1, v56)] h fun v57 h =>
 appP t_p_int 1 8 v57 v54 h fun v58 h =>
 K v58 h) (v59.getD 0 .any)))
 (fun v65 h =>
 (fun v60 =>
 nilP a0 fun v61 =>
 fadP 2 v61 fun v62 =>
 bslP t_p_int 1 [.nilp] [(0, 1, v62)] h fun v63 h =>
 appP t_p_int 1 8 v63 v60 h fun v64 h =>
 K v64 h) (v65.getD 0 .any))
theorem q_event_parts (S : FuncId → List AVal → AHeap A → (AVal → AHeap A → Prop) → Prop) (G : Nat → AHeap A → List AVal → (List AVal → AHeap A → Prop) → Prop) (a0 : AVal) (h : AHeap A) (K : AVal → AHeap A → Prop) : funP Tryz.prog S G Tryz.f68 (.two none .leaf (.two none .leaf (.two none (.two none .leaf (.one [] (.two none (.one [] (.two (some [3]) (.one [] (.two none (.one [] (.two none (.one [] (.two none (.one [] (.two (some [3]) (.one [] (.two none (.one [] (.two none (.one [] (.two none (.two none .leaf (.two none .leaf (.two none (.two (some [12]) .leaf .leaf) .leaf))) .leaf)) (.two none (.two none (.draw none (.take 0 (.take 1 (.take 2 (.take 3 (.take 4 (.take 5 (.take 6 (.take 7 (.take 8 (.take 9 (.take 10 (.take 11 (.alt 12 (.take 13 .stop) .stop)))))))))))))) .leaf) .leaf))) .leaf)) .leaf)) (.two none (.two none (.draw none (.take 0 (.take 1 (.take 2 (.take 3 (.take 4 (.take 5 (.alt 6 (.take 7 .stop) .stop)))))))) .leaf) .leaf))) (.two none (.two none (.draw none (.take 0 (.take 1 (.take 2 (.take 3 (.take 4 (.take 5 (.take 6 (.take 7 (.take 8 (.take 9 (.take 10 (.take 11 (.alt 12 (.take 13 .stop) .stop)))))))))))))) .leaf) .leaf))) (.draw none (.take 0 (.take 1 (.take 2 (.take 3 (.take 4 (.take 5 (.take 6 (.take 7 (.take 8 (.alt 9 (.take 10 .stop) .stop))))))))))))) .leaf)) .leaf))) .leaf))) [a0] h K = p_event_parts S G a0 h K := by kernel_rfl
theorem c_event_parts {R : Adts A} {h : AHeap A} {K : AVal → AHeap A → Prop} {a0 : AVal} (hk : p_event_parts (Tri Pr R) (Gives Pr R) a0 h K) : Tri Pr R n_event_parts [a0] h K :=
  tri_of_funP (by kernel_rfl) (fun _ _ _ _ h => h) (fun _ _ _ _ h => h) Tryz.func68 (by rw [q_event_parts]; exact hk)
/-- bastion/field.NumMay -/
def p_field_NumMay (S : FuncId → List AVal → AHeap A → (AVal → AHeap A → Prop) → Prop) (G : Nat → AHeap A → List AVal → (List AVal → AHeap A → Prop) → Prop) (a0 : AVal) (h : AHeap A) (K : AVal → AHeap A → Prop) : Prop :=
 binP .geq .other a0 (.int .i64 0) fun v1 =>
 condP v1 true (fun k2 =>
 binP .leq .other a0 (.int .i64 1073741823) fun v3 =>
 k2 v3 h)
 (.bool false) h fun v4 h =>
 K v4 h
theorem q_field_NumMay (S : FuncId → List AVal → AHeap A → (AVal → AHeap A → Prop) → Prop) (G : Nat → AHeap A → List AVal → (List AVal → AHeap A → Prop) → Prop) (a0 : AVal) (h : AHeap A) (K : AVal → AHeap A → Prop) : funP Tryz.prog S G Tryz.f69 .leaf [a0] h K = p_field_NumMay S G a0 h K := by kernel_rfl
theorem c_field_NumMay {R : Adts A} {h : AHeap A} {K : AVal → AHeap A → Prop} {a0 : AVal} (hk : p_field_NumMay (Tri Pr R) (Gives Pr R) a0 h K) : Tri Pr R n_field_NumMay [a0] h K :=
  tri_of_funP (by kernel_rfl) (fun _ _ _ _ h => h) (fun _ _ _ _ h => h) Tryz.func69 (by rw [q_field_NumMay]; exact hk)
/-- bastion/event.plain -/
def p_event_plain (S : FuncId → List AVal → AHeap A → (AVal → AHeap A → Prop) → Prop) (G : Nat → AHeap A → List AVal → (List AVal → AHeap A → Prop) → Prop) (a0 : AVal) (h : AHeap A) (K : AVal → AHeap A → Prop) : Prop :=
 newP t_api_Event [.int .i64 0, .int .i64 0, .int .i64 0, .int .i64 0, .int .i64 0, .int .i64 0, .int .i64 0, .int .i64 0] h fun v1 h =>
 nilP a0 fun v2 =>
 fadP 0 v2 fun v3 =>
 ldP 1 false v3 h fun v4 =>
 bldP [.int .i64 0, .int .i64 0, .int .i64 0, .int .i64 0, .int .i64 0, .int .i64 0, .int .i64 0, .int .i64 0] [(0, 1, v4)] fun v5 =>
 newP t_api_Event [.int .i64 0, .int .i64 0, .int .i64 0, .int .i64 0, .int .i64 0, .int .i64 0, .int .i64 0, .int .i64 0] h fun v6 h =>
 stP 8 v6 v5 h fun h =>
 S n_event_parts [v6] h fun v7 h =>
 S n_event_parts [a0] h fun v8 h =>
 lenP v8 fun v9 =>
 loopP G (fun v23 h k11 =>
 (fun v10 =>
 binP .lss .other v10 v9 fun v12 =>
 iteP v12
 (idxP 1 v8 v10 fun v13 =>
 ldP 1 false v13 h fun v14 =>
 idxP 1 v7 v10 fun v15 =>
 nilP v14 fun v16 =>
 ldP 1 false v15 h fun v17 =>
 ldP 1 false v16 h fun v18 =>
 ldV 1 false v15 h = some v17 ∧
 nilP v17 fun v19 =>
 stP 1 v19 v18 h fun h =>
 binP .add .other v10 (.int .i64 1) fun v20 =>
 k11 [v20] h)
 (ldP 8 true v6 h fun v21 =>
 stP 8 v1 v21 h fun h =>
 ldP 8 true v1 h fun v22 =>
 K v22 h)) (v23.getD 0 .any)) [.int .i64 0] h
theorem q_event_plain (S : FuncId → List AVal → AHeap A → (AVal → AHeap A → Prop) → Prop) (G : Nat → AHeap A → List AVal → (List AVal → AHeap A → Prop) → Prop) (a0 : AVal) (h : AHeap A) (K : AVal → AHeap A → Prop) : funP Tryz.prog S G Tryz.f70 (.two none .leaf (.two none .leaf (.two none .leaf (.two none (.two none .leaf (.one [] (.one [16] (.two none .leaf (.two none .leaf (.two none (.one [] (.two none .leaf (.draw none (.take 0 (.take 1 (.take 2 (.take 4 (.take 5 (.load 3 (.alt 6 (.take 7 (.alt 8 .stop .stop)) .stop)))))))))) .leaf)))))) .leaf)))) [a0] h K = p_event_plain S G a0 h K := by kernel_rfl
theorem c_event_plain {R : Adts A} {h : AHeap A} {K : AVal → AHeap A → Prop} {a0 : AVal} (hk : p_event_plain (Tri Pr R) (Gives Pr R) a0 h K) : Tri Pr R n_event_plain [a0] h K :=
  tri_of_funP (by kernel_rfl) (fun _ _ _ _ h => h) (fun _ _ _ _ h => h) Tryz.func70 (by rw [q_event_plain]; exact hk)
/-- slices.Clone[[]bastion/api.User,bastion/api.User] -/
def p_slices_Clone_api_User (S : FuncId → List AVal → AHeap A → (AVal → AHeap A → Prop) → Prop) (G : Nat → AHeap A → List AVal → (List AVal → AHeap A → Prop) → Prop) (a0 : AVal) (h : AHeap A) (K : AVal → AHeap A → Prop) : Prop :=
 binP .eql .sl a0 .nils fun v1 =>
 iteP v1
 (K .nils h)
 (bslP t_api_User 0 [] [] h fun v2 h =>
 appP t_api_User 9 72 v2 a0 h fun v3 h =>
 K v3 h)
theorem q_slices_Clone_api_User (S : FuncId → List AVal → AHeap A → (AVal → AHeap A → Prop) → Prop) (G : Nat → AHeap A → List AVal → (List AVal → AHeap A → Prop) → Prop) (a0 : AVal) (h : AHeap A) (K : AVal → AHeap A → Prop) : funP Tryz.prog S G Tryz.f71 .leaf [a0] h K = p_slices_Clone_api_User S G a0 h K := by kernel_rfl
theorem c_slices_Clone_api_User {R : Adts A} {h : AHeap A} {K : AVal → AHeap A → Prop} {a0 : AVal} (hk : p_slices_Clone_api_User (Tri Pr R) (Gives Pr R) a0 h K) : Tri Pr R n_slices_Clone_api_User [a0] h K :=
  tri_of_funP (by kernel_rfl) (fun _ _ _ _ h => h) (fun _ _ _ _ h => h) Tryz.func71 (by rw [q_slices_Clone_api_User]; exact hk)
/-- slices.Clone[[]bastion/api.Session,bastion/api.Session] -/
def p_slices_Clone_api_Session (S : FuncId → List AVal → AHeap A → (AVal → AHeap A → Prop) → Prop) (G : Nat → AHeap A → List AVal → (List AVal → AHeap A → Prop) → Prop) (a0 : AVal) (h : AHeap A) (K : AVal → AHeap A → Prop) : Prop :=
 binP .eql .sl a0 .nils fun v1 =>
 iteP v1
 (K .nils h)
 (bslP t_api_Session 0 [] [] h fun v2 h =>
 appP t_api_Session 4 32 v2 a0 h fun v3 h =>
 K v3 h)
theorem q_slices_Clone_api_Session (S : FuncId → List AVal → AHeap A → (AVal → AHeap A → Prop) → Prop) (G : Nat → AHeap A → List AVal → (List AVal → AHeap A → Prop) → Prop) (a0 : AVal) (h : AHeap A) (K : AVal → AHeap A → Prop) : funP Tryz.prog S G Tryz.f72 .leaf [a0] h K = p_slices_Clone_api_Session S G a0 h K := by kernel_rfl
theorem c_slices_Clone_api_Session {R : Adts A} {h : AHeap A} {K : AVal → AHeap A → Prop} {a0 : AVal} (hk : p_slices_Clone_api_Session (Tri Pr R) (Gives Pr R) a0 h K) : Tri Pr R n_slices_Clone_api_Session [a0] h K :=
  tri_of_funP (by kernel_rfl) (fun _ _ _ _ h => h) (fun _ _ _ _ h => h) Tryz.func72 (by rw [q_slices_Clone_api_Session]; exact hk)
/-- slices.Clone[[]bastion/api.Address,bastion/api.Address] -/
def p_slices_Clone_api_Address (S : FuncId → List AVal → AHeap A → (AVal → AHeap A → Prop) → Prop) (G : Nat → AHeap A → List AVal → (List AVal → AHeap A → Prop) → Prop) (a0 : AVal) (h : AHeap A) (K : AVal → AHeap A → Prop) : Prop :=
 binP .eql .sl a0 .nils fun v1 =>
 iteP v1
 (K .nils h)
 (bslP t_api_Address 0 [] [] h fun v2 h =>
 appP t_api_Address 3 24 v2 a0 h fun v3 h =>
 K v3 h)
theorem q_slices_Clone_api_Address (S : FuncId → List AVal → AHeap A → (AVal → AHeap A → Prop) → Prop) (G : Nat → AHeap A → List AVal → (List AVal → AHeap A → Prop) → Prop) (a0 : AVal) (h : AHeap A) (K : AVal → AHeap A → Prop) : funP Tryz.prog S G Tryz.f73 .leaf [a0] h K = p_slices_Clone_api_Address S G a0 h K := by kernel_rfl
theorem c_slices_Clone_api_Address {R : Adts A} {h : AHeap A} {K : AVal → AHeap A → Prop} {a0 : AVal} (hk : p_slices_Clone_api_Address (Tri Pr R) (Gives Pr R) a0 h K) : Tri Pr R n_slices_Clone_api_Address [a0] h K :=
  tri_of_funP (by kernel_rfl) (fun _ _ _ _ h => h) (fun _ _ _ _ h => h) Tryz.func73 (by rw [q_slices_Clone_api_Address]; exact hk)
/-- slices.Clone[[]int,int] -/
def p_slices_Clone_int (S : FuncId → List AVal → AHeap A → (AVal → AHeap A → Prop) → Prop) (G : Nat → AHeap A → List AVal → (List AVal → AHeap A → Prop) → Prop) (a0 : AVal) (h : AHeap A) (K : AVal → AHeap A → Prop) : Prop :=
 binP .eql .sl a0 .nils fun v1 =>
 iteP v1
 (K .nils h)
 (bslP t_int 0 [] [] h fun v2 h =>
 appP t_int 1 8 v2 a0 h fun v3 h =>
 K v3 h)
theorem q_slices_Clone_int (S : FuncId → List AVal → AHeap A → (AVal → AHeap A → Prop) → Prop) (G : Nat → AHeap A → List AVal → (List AVal → AHeap A → Prop) → Prop) (a0 : AVal) (h : AHeap A) (K : AVal → AHeap A → Prop) : funP Tryz.prog S G Tryz.f74 .leaf [a0] h K = p_slices_Clone_int S G a0 h K := by kernel_rfl
theorem c_slices_Clone_int {R : Adts A} {h : AHeap A} {K : AVal → AHeap A → Prop} {a0 : AVal} (hk : p_slices_Clone_int (Tri Pr R) (Gives Pr R) a0 h K) : Tri Pr R n_slices_Clone_int [a0] h K :=
  tri_of_funP (by kernel_rfl) (fun _ _ _ _ h => h) (fun _ _ _ _ h => h) Tryz.func74 (by rw [q_slices_Clone_int]; exact hk)
/-- (*bastion/state.turn).boot -/
def p_state_turn_boot (S : FuncId → List AVal → AHeap A → (AVal → AHeap A → Prop) → Prop) (G : Nat → AHeap A → List AVal → (List AVal → AHeap A → Prop) → Prop) (a0 : AVal) (h : AHeap A) (K : AVal → AHeap A → Prop) : Prop :=
 nilP a0 fun v1 =>
 fadP 1 v1 fun v2 =>
 fadP 4 v2 fun v3 =>
 ldP 1 false v3 h fun v4 =>
 lenP v4 fun v5 =>
 loopP G (fun v37 h k7 =>
 (fun v6 =>
 binP .lss .other v6 v5 fun v8 =>
 iteP v8
 (idxP 4 v4 v6 fun v9 =>
 ldP 4 true v9 h fun v10 =>
 newP t_api_Session [.int .i64 0, .int .i64 0, .int .i64 0, .int .i64 0] h fun v11 h =>
 stP 4 v11 v10 h fun h =>
 fadP 2 v11 fun v12 =>
 nilP a0 fun v13 =>
 fadP 8 v13 fun v14 =>
 nilP a0 fun v15 =>
 fadP 0 v15 fun v16 =>
 ldP 1 false v12 h fun v17 =>
 ldP 1 false v14 h fun v18 =>
 nilP v18 fun v19 =>
 fadP 7 v19 fun v20 =>
 ldP 1 false v20 h fun v21 =>
 ldP 1 false v16 h fun v22 =>
 ldV 1 false v20 h = some v21 ∧
 ldV 1 false v14 h = some v18 ∧
 ldV 1 false v12 h = some v17 ∧
 nilP v22 fun v23 =>
 fadP 9 v23 fun v24 =>
 ldP 1 false v24 h fun v25 =>
 ldV 1 false v20 h = some v21 ∧
 ldV 1 false v14 h = some v18 ∧
 ldV 1 false v12 h = some v17 ∧
 binP .add .other v21 v25 fun v26 =>
 S n_state_turn_free [a0, v17, v26] h fun v27 h =>
 notP v27 fun v28 =>
 iteP v28
 (K (.bool false) h)
 (binP .add .other v6 (.int .i64 1) fun v29 =>
 k7 [v29] h))
 (nilP a0 fun v30 =>
 fadP 1 v30 fun v31 =>
 fadP 4 v31 fun v32 =>
 stP 1 v32 .nils h fun h =>
 nilP a0 fun v33 =>
 fadP 1 v33 fun v34 =>
 fadP 0 v34 fun v35 =>
 S n_state_rises [v35] h fun v36 h =>
 K v36 h)) (v37.getD 0 .any)) [.int .i64 0] h
theorem q_state_turn_boot (S : FuncId → List AVal → AHeap A → (AVal → AHeap A → Prop) → Prop) (G : Nat → AHeap A → List AVal → (List AVal → AHeap A → Prop) → Prop) (a0 : AVal) (h : AHeap A) (K : AVal → AHeap A → Prop) : funP Tryz.prog S G Tryz.f75 (.two none .leaf (.two none (.two none .leaf (.one [] (.one [11] (.two none .leaf (.two none .leaf (.two none (.one [] (.two none .leaf (.two none (.draw none (.take 0 (.take 1 (.take 3 (.take 4 (.take 5 (.take 10 (.take 11 (.take 12 (.load 2 (.load 6 (.take 7 (.take 8 (.load 9 (.alt 13 (.take 14 (.take 15 (.alt 16 (.take 17 (.alt 18 (.take 19 .stop) .stop)) .stop))) .stop))))))))))))))) .leaf))) .leaf)))))) .leaf)) [a0] h K = p_state_turn_boot S G a0 h K := by kernel_rfl
theorem c_state_turn_boot {R : Adts A} {h : AHeap A} {K : AVal → AHeap A → Prop} {a0 : AVal} (hk : p_state_turn_boot (Tri Pr R) (Gives Pr R) a0 h K) : Tri Pr R n_state_turn_boot [a0] h K :=
  tri_of_funP (by kernel_rfl) (fun _ _ _ _ h => h) (fun _ _ _ _ h => h) Tryz.func75 (by rw [q_state_turn_boot]; exact hk)
/-- (*bastion/state.turn).user -/
def p_state_turn_user (S : FuncId → List AVal → AHeap A → (AVal → AHeap A → Prop) → Prop) (G : Nat → AHeap A → List AVal → (List AVal → AHeap A → Prop) → Prop) (a0 : AVal) (h : AHeap A) (K : AVal → AHeap A → Prop) : Prop :=
 boxP t_p_state_turn 1 a0 h fun v1 h =>
 ldP 1 false v1 h fun v2 =>
 nilP v2 fun v3 =>
 fadP 1 v3 fun v4 =>
 ldP 1 false v1 h fun v5 =>
 ldV 1 false v1 h = some v2 ∧
 nilP v5 fun v6 =>
 fadP 8 v6 fun v7 =>
 ldP 1 false v7 h fun v8 =>
 ldV 1 false v1 h = some v2 ∧
 nilP v8 fun v9 =>
 fadP 1 v9 fun v10 =>
 ldP 1 false v10 h fun v11 =>
 ldV 1 false v1 h = some v2 ∧
 S n_state_User [v4, v11] h fun v12 h =>
 binP .neq .ptr v12 .nilp fun v13 =>
 iteP v13
 (K (.bool false) h)
 (ldP 1 false v1 h fun v14 =>
 nilP v14 fun v15 =>
 fadP 1 v15 fun v16 =>
 fadP 3 v16 fun v17 =>
 ldP 1 false v17 h fun v18 =>
 mkfP (.func n_state_turn_user_c1) [] [v1] fun v19 =>
 S n_slices_IndexFunc_api_User [v18, v19] h fun v20 h =>
 joinP G h.length (fun k21 =>
 binP .lss .other v20 (.int .i64 0) fun v22 =>
 iteP v22
 (ldP 1 false v1 h fun v23 =>
 nilP v23 fun v24 =>
 fadP 1 v24 fun v25 =>
 fadP 3 v25 fun v26 =>
 ldP 1 false v26 h fun v27 =>
 lenP v27 fun v28 =>
 k21 [v28] h)
 (k21 [v20] h))
 (fun v70 h =>
 (fun v29 =>
 ldP 1 false v1 h fun v30 =>
 ldP 1 false v1 h fun v31 =>
 nilP v31 fun v32 =>
 fadP 1 v32 fun v33 =>
 fadP 3 v33 fun v34 =>
 ldP 1 false v34 h fun v35 =>
 ldP 1 false v1 h fun v36 =>
 nilP v36 fun v37 =>
 fadP 8 v37 fun v38 =>
 ldP 1 false v38 h fun v39 =>
 nilP v39 fun v40 =>
 fadP 1 v40 fun v41 =>
 ldP 1 false v41 h fun v42 =>
 ldP 1 false v1 h fun v43 =>
 nilP v43 fun v44 =>
 fadP 8 v44 fun v45 =>
 ldP 1 false v45 h fun v46 =>
 nilP v46 fun v47 =>
 fadP 4 v47 fun v48 =>
 ldP 1 false v48 h fun v49 =>
 ldP 1 false v1 h fun v50 =>
 nilP v50 fun v51 =>
 fadP 8 v51 fun v52 =>
 ldP 1 false v52 h fun v53 =>
 nilP v53 fun v54 =>
 fadP 5 v54 fun v55 =>
 ldP 1 false v55 h fun v56 =>
 ldP 1 false v1 h fun v57 =>
 ldV 1 false v55 h = some v56 ∧
 ldV 1 false v52 h = some v53 ∧
 ldV 1 false v1 h = some v50 ∧
 ldV 1 false v48 h = some v49 ∧
 ldV 1 false v45 h = some v46 ∧
 ldV 1 false v1 h = some v43 ∧
 ldV 1 false v41 h = some v42 ∧
 ldV 1 false v38 h = some v39 ∧
 ldV 1 false v1 h = some v36 ∧
 ldV 1 false v34 h = some v35 ∧
 ldV 1 false v1 h = some v31 ∧
 ldV 1 false v1 h = some v30 ∧
 nilP v57 fun v58 =>
 fadP 8 v58 fun v59 =>
 ldP 1 false v59 h fun v60 =>
 ldV 1 false v55 h = some v56 ∧
 ldV 1 false v52 h = some v53 ∧
 ldV 1 false v1 h = some v50 ∧
 ldV 1 false v48 h = some v49 ∧
 ldV 1 false v45 h = some v46 ∧
 ldV 1 false v1 h = some v43 ∧
 ldV 1 false v41 h = some v42 ∧
 ldV 1 false v38 h = some v39 ∧
 ldV 1 false v1 h = some v36 ∧
 ldV 1 false v34 h = some v35 ∧
 ldV 1 false v1 h = some v31 ∧
 ldV 1 false v1 h = some v30 ∧
 nilP v60 fun v61 =>
 fadP 6 v61 fun v62 =>
 ldP 1 false v62 h fun v63 =>
 ldV 1 false v55 h = some v56 ∧
 ldV 1 false v52 h = some v53 ∧
 ldV 1 false v1 h = some v50 ∧
 ldV 1 false v48 h = some v49 ∧
 ldV 1 false v45 h = some v46 ∧
 ldV 1 false v1 h = some v43 ∧
 ldV 1 false v41 h = some v42 ∧
 ldV 1 false v38 h = some v39 ∧
 ldV 1 false v1 h = some v36 ∧
 ldV 1 false v34 h = some v35 ∧
 ldV 1 false v1 h = some v31 ∧
 ldV 1 false v1 h = some v30 ∧
 bldP [.int .i64 0, .int .i64 0, .int .i64 0, .int .i64 0, .int .i64 0, .int .i64 0, .int .i64 0, .int .i64 0, .int .i64 0] [(0, 1, v42), (1, 1, v49), (2, 1, v56), (3, 1, v63)] fun v64 =>
 bslP t_api_User 1 [.int .i64 0, .int .i64 0, .int .i64 0, .int .i64 0, .int .i64 0, .int .i64 0, .int .i64 0, .int .i64 0, .int .i64 0] [(0, 9, v64)] h fun v65 h =>
 ldV 1 false v34 h = some v35 ∧
 ldV 1 false v1 h = some v31 ∧
 ldV 1 false v1 h = some v30 ∧
 S n_slices_Insert_api_User [v35, v29, v65] h fun v66 h =>
 ldV 1 false v1 h = some v30 ∧
 nilP v30 fun v67 =>
 fadP 1 v67 fun v68 =>
 fadP 3 v68 fun v69 =>
 stP 1 v69 v66 h fun h =>
 K (.bool true) h) (v70.getD 0 .any)))
theorem q_state_turn_user (S : FuncId → List AVal → AHeap A → (AVal → AHeap A → Prop) → Prop) (G : Nat → AHeap A → List AVal → (List AVal → AHeap A → Prop) → Prop) (a0 : AVal) (h : AHeap A) (K : AVal → AHeap A → Prop) : funP Tryz.prog S G Tryz.f76 (.two none .leaf (.two none (.two none (.draw none (.load 0 (.take 1 (.take 2 (.alt 3 (.take 4 (.take 5 (.alt 6 (.take 7 (.take 8 (.alt 9 (.alt 10 (.take 11 .stop) .stop) .stop))) .stop))) .stop))))) .leaf) (.two none .leaf (.two (some [3]) .leaf (.two none (.draw none (.take 6 (.load 0 (.load 1 (.take 2 (.take 3 (.take 4 (.load 5 (.load 7 (.take 8 (.take 9 (.load 10 (.take 11 (.take 12 (.load 13 (.load 14 (.take 15 (.take 16 (.load 17 (.take 18 (.take 19 (.load 20 (.load 21 (.take 22 (.take 23 (.load 24 (.take 25 (.take 26 (.load 27 (.alt 28 (.take 29 (.take 30 (.alt 31 (.take 32 (.take 33 (.alt 34 (.take 35 (.alt 36 (.alt 37 (.take 38 (.take 39 (.take 40 (.alt 41 .stop .stop)))) .stop) .stop)) .stop))) .stop))) .stop)))))))))))))))))))))))))))))) .leaf))))) [a0] h K = p_state_turn_user S G a0 h K := by kernel_rfl
theorem c_state_turn_user {R : Adts A} {h : AHeap A} {K : AVal → AHeap A → Prop} {a0 : AVal} (hk : p_state_turn_user (Tri Pr R) (Gives Pr R) a0 h K) : Tri Pr R n_state_turn_user [a0] h K :=
  tri_of_funP (by kernel_rfl) (fun _ _ _ _ h => h) (fun _ _ _ _ h => h) Tryz.func76 (by rw [q_state_turn_user]; exact hk)
end Go.AI
