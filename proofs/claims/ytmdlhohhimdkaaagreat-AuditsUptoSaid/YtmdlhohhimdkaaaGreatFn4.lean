/- The functions as texts over the abstract heap. -/
import Derived.Test.YtmdlhohhimdkaaaGreatNm
import Derived.KernelRfl
set_option linter.all false
namespace Go.AI
open Go.Proofs
set_option maxRecDepth 1000000
variable {A : Type}
/-- (*bastion/state.turn).lease -/
def p_state_turn_lease (S : FuncId → List AVal → AHeap A → (AVal → AHeap A → Prop) → Prop) (G : Nat → AHeap A → List AVal → (List AVal → AHeap A → Prop) → Prop) (a0 : AVal) (h : AHeap A) (K : AVal → AHeap A → Prop) : Prop :=
 nilP a0 fun v1 =>
 fadP 1 v1 fun v2 =>
 fadP 5 v2 fun v3 =>
 nilP a0 fun v4 =>
 fadP 8 v4 fun v5 =>
 nilP a0 fun v6 =>
 fadP 8 v6 fun v7 =>
 ldP 1 false v3 h fun v8 =>
 ldP 1 false v5 h fun v9 =>
 nilP v9 fun v10 =>
 fadP 3 v10 fun v11 =>
 ldP 1 false v11 h fun v12 =>
 ldP 1 false v7 h fun v13 =>
 ldV 1 false v11 h = some v12 ∧
 ldV 1 false v5 h = some v9 ∧
 ldV 1 false v3 h = some v8 ∧
 nilP v13 fun v14 =>
 fadP 1 v14 fun v15 =>
 ldP 1 false v15 h fun v16 =>
 ldV 1 false v11 h = some v12 ∧
 ldV 1 false v5 h = some v9 ∧
 ldV 1 false v3 h = some v8 ∧
 S n_pool_Take [v8, v12, v16] h fun v17 h =>
 extP v17 0 fun v18 =>
 extP v17 1 fun v19 =>
 joinP G h.length (fun k20 =>
 nilP a0 fun v21 =>
 fadP 8 v21 fun v22 =>
 nilP a0 fun v23 =>
 fadP 1 v23 fun v24 =>
 fadP 2 v24 fun v25 =>
 ldP 1 false v22 h fun v26 =>
 nilP v26 fun v27 =>
 fadP 2 v27 fun v28 =>
 ldP 1 false v28 h fun v29 =>
 ldP 1 false v25 h fun v30 =>
 ldV 1 false v28 h = some v29 ∧
 ldV 1 false v22 h = some v26 ∧
 binP .neq .other v29 v30 fun v31 =>
 iteP v31
 (k20 [.bool true] h)
 (nilP a0 fun v32 =>
 fadP 1 v32 fun v33 =>
 nilP a0 fun v34 =>
 fadP 8 v34 fun v35 =>
 ldP 1 false v35 h fun v36 =>
 nilP v36 fun v37 =>
 fadP 1 v37 fun v38 =>
 ldP 1 false v38 h fun v39 =>
 S n_state_User [v33, v39] h fun v40 h =>
 binP .eql .ptr v40 .nilp fun v41 =>
 iteP v41
 (k20 [.bool true] h)
 (binP .neq .other v19 (.int .i64 0) fun v42 =>
 iteP v42
 (k20 [.bool true] h)
 (nilP a0 fun v43 =>
 fadP 1 v43 fun v44 =>
 fadP 4 v44 fun v45 =>
 nilP a0 fun v46 =>
 fadP 0 v46 fun v47 =>
 ldP 1 false v45 h fun v48 =>
 lenP v48 fun v49 =>
 ldP 1 false v47 h fun v50 =>
 ldV 1 false v45 h = some v48 ∧
 nilP v50 fun v51 =>
 fadP 2 v51 fun v52 =>
 ldP 1 false v52 h fun v53 =>
 ldV 1 false v45 h = some v48 ∧
 binP .geq .other v49 v53 fun v54 =>
 k20 [v54] h))))
 (fun v101 h =>
 (fun v55 =>
 iteP v55
 (K (.bool false) h)
 (nilP a0 fun v56 =>
 fadP 1 v56 fun v57 =>
 fadP 5 v57 fun v58 =>
 stP 1 v58 v18 h fun h =>
 nilP a0 fun v59 =>
 fadP 1 v59 fun v60 =>
 fadP 4 v60 fun v61 =>
 nilP a0 fun v62 =>
 fadP 8 v62 fun v63 =>
 nilP a0 fun v64 =>
 fadP 8 v64 fun v65 =>
 nilP a0 fun v66 =>
 fadP 8 v66 fun v67 =>
 nilP a0 fun v68 =>
 fadP 8 v68 fun v69 =>
 ldP 1 false v61 h fun v70 =>
 ldP 1 false v63 h fun v71 =>
 nilP v71 fun v72 =>
 fadP 2 v72 fun v73 =>
 ldP 1 false v73 h fun v74 =>
 ldP 1 false v65 h fun v75 =>
 nilP v75 fun v76 =>
 fadP 1 v76 fun v77 =>
 ldP 1 false v77 h fun v78 =>
 ldP 1 false v67 h fun v79 =>
 nilP v79 fun v80 =>
 fadP 3 v80 fun v81 =>
 ldP 1 false v81 h fun v82 =>
 ldP 1 false v69 h fun v83 =>
 ldV 1 false v81 h = some v82 ∧
 ldV 1 false v67 h = some v79 ∧
 ldV 1 false v77 h = some v78 ∧
 ldV 1 false v65 h = some v75 ∧
 ldV 1 false v73 h = some v74 ∧
 ldV 1 false v63 h = some v71 ∧
 ldV 1 false v61 h = some v70 ∧
 nilP v83 fun v84 =>
 fadP 7 v84 fun v85 =>
 ldP 1 false v85 h fun v86 =>
 ldV 1 false v81 h = some v82 ∧
 ldV 1 false v67 h = some v79 ∧
 ldV 1 false v77 h = some v78 ∧
 ldV 1 false v65 h = some v75 ∧
 ldV 1 false v73 h = some v74 ∧
 ldV 1 false v63 h = some v71 ∧
 ldV 1 false v61 h = some v70 ∧
 bldP [.int .i64 0, .int .i64 0, .int .i64 0, .int .i64 0] [(0, 1, v74), (1, 1, v78), (2, 1, v82), (3, 1, v86)] fun v87 =>
 bslP t_api_Session 1 [.int .i64 0, .int .i64 0, .int .i64 0, .int .i64 0] [(0, 4, v87)] h fun v88 h =>
 ldV 1 false v61 h = some v70 ∧
 appP t_api_Session 4 32 v70 v88 h fun v89 h =>
 nilP a0 fun v90 =>
 fadP 1 v90 fun v91 =>
 fadP 4 v91 fun v92 =>
 stP 1 v92 v89 h fun h =>
 nilP a0 fun v93 =>
 fadP 1 v93 fun v94 =>
 fadP 2 v94 fun v95 =>
 ldP 1 false v95 h fun v96 =>
 binP .add .other v96 (.int .i64 1) fun v97 =>
 nilP a0 fun v98 =>
 fadP 1 v98 fun v99 =>
 fadP 2 v99 fun v100 =>
 stP 1 v100 v97 h fun h =>
 K (.bool true) h)) (v101.getD 0 .any))
theorem q_state_turn_lease (S : FuncId → List AVal → AHeap A → (AVal → AHeap A → Prop) → Prop) (G : Nat → AHeap A → List AVal → (List AVal → AHeap A → Prop) → Prop) (a0 : AVal) (h : AHeap A) (K : AVal → AHeap A → Prop) : funP Tryz.prog S G Tryz.f77 (.two none .leaf (.two none (.draw none (.take 0 (.take 1 (.take 2 (.take 3 (.take 5 (.take 6 (.take 7 (.take 12 (.take 13 (.take 14 (.load 4 (.load 8 (.take 9 (.take 10 (.load 11 (.alt 15 (.take 16 (.take 17 (.alt 18 (.alt 19 (.take 20 (.take 21 (.take 22 (.take 23 (.take 24 .stop))))) .stop) .stop))) .stop))))))))))))))))) (.two none (.two none (.draw (some [74]) (.take 0 (.take 1 (.take 2 (.take 7 (.take 8 (.take 9 (.take 10 (.load 3 (.take 4 (.take 5 (.load 6 (.alt 11 (.take 12 (.take 13 (.split 13 (.skip 14 (.skip 15 (.skip 16 (.skip 17 (.skip 18 (.skip 19 (.skip 20 (.skip 21 (.skip 22 (.skip 23 (.skip 24 (.skip 25 (.take 26 (.take 27 (.known 27 true (.skip 28 (.skip 29 (.take 30 (.take 31 (.known 31 true (.skip 32 (.skip 33 (.skip 34 (.skip 35 (.skip 36 (.skip 37 (.skip 38 (.skip 39 (.skip 40 (.skip 41 (.skip 42 (.skip 43 (.skip 44 (.skip 45 (.take 46 .stop))))))))))))))))))))))))))))))))))) (.take 14 (.take 15 (.take 16 (.take 17 (.take 18 (.take 19 (.alt 20 (.take 21 (.take 22 (.alt 23 (.alt 24 (.take 25 (.take 26 (.take 27 (.split 27 (.skip 28 (.skip 29 (.take 30 (.take 31 (.known 31 true (.skip 32 (.skip 33 (.skip 34 (.skip 35 (.skip 36 (.skip 37 (.skip 38 (.skip 39 (.skip 40 (.skip 41 (.skip 42 (.skip 43 (.skip 44 (.skip 45 (.take 46 .stop)))))))))))))))))))) (.take 28 (.take 29 (.take 30 (.take 31 (.split 31 (.skip 32 (.skip 33 (.skip 34 (.skip 35 (.skip 36 (.skip 37 (.skip 38 (.skip 39 (.skip 40 (.skip 41 (.skip 42 (.skip 43 (.skip 44 (.skip 45 (.take 46 .stop))))))))))))))) (.take 32 (.take 33 (.take 34 (.take 35 (.take 38 (.take 39 (.take 40 (.load 36 (.take 37 (.alt 41 (.take 42 (.take 43 (.alt 44 (.take 45 (.take 46 .stop)) .stop))) .stop))))))))))))))))))) .stop) .stop))) .stop)))))))))) .stop))))))))))))) .leaf) (.two none .leaf (.two none (.draw none (.take 0 (.take 1 (.take 2 (.take 3 (.take 4 (.take 6 (.take 7 (.take 8 (.take 13 (.take 14 (.take 15 (.take 20 (.take 21 (.take 22 (.take 27 (.take 28 (.take 29 (.load 5 (.load 9 (.take 10 (.take 11 (.load 12 (.load 16 (.take 17 (.take 18 (.load 19 (.load 23 (.take 24 (.take 25 (.load 26 (.alt 30 (.take 31 (.take 32 (.alt 33 (.take 34 (.alt 35 (.alt 36 (.take 37 (.take 38 (.take 39 (.alt 40 .stop .stop)))) .stop) .stop)) .stop))) .stop)))))))))))))))))))))))))))))))) .leaf))))) [a0] h K = p_state_turn_lease S G a0 h K := by kernel_rfl
theorem c_state_turn_lease {R : Adts A} {h : AHeap A} {K : AVal → AHeap A → Prop} {a0 : AVal} (hk : p_state_turn_lease (Tri Pr R) (Gives Pr R) a0 h K) : Tri Pr R n_state_turn_lease [a0] h K :=
  tri_of_funP (by kernel_rfl) (fun _ _ _ _ h => h) (fun _ _ _ _ h => h) Tryz.func77 (by rw [q_state_turn_lease]; exact hk)
/-- (*bastion/state.turn).closes -/
def p_state_turn_closes (S : FuncId → List AVal → AHeap A → (AVal → AHeap A → Prop) → Prop) (G : Nat → AHeap A → List AVal → (List AVal → AHeap A → Prop) → Prop) (a0 : AVal) (h : AHeap A) (K : AVal → AHeap A → Prop) : Prop :=
 boxP t_p_state_turn 1 a0 h fun v1 h =>
 ldP 1 false v1 h fun v2 =>
 nilP v2 fun v3 =>
 fadP 1 v3 fun v4 =>
 fadP 4 v4 fun v5 =>
 ldP 1 false v5 h fun v6 =>
 mkfP (.func n_state_turn_closes_c1) [] [v1] fun v7 =>
 S n_slices_IndexFunc_api_Session [v6, v7] h fun v8 h =>
 joinP G h.length (fun k9 =>
 binP .lss .other v8 (.int .i64 0) fun v10 =>
 iteP v10
 (k9 [.bool true] h)
 (ldP 1 false v1 h fun v11 =>
 ldP 1 false v1 h fun v12 =>
 nilP v12 fun v13 =>
 fadP 1 v13 fun v14 =>
 fadP 4 v14 fun v15 =>
 ldP 1 false v15 h fun v16 =>
 idxP 4 v16 v8 fun v17 =>
 fadP 2 v17 fun v18 =>
 ldP 1 false v18 h fun v19 =>
 ldP 1 false v1 h fun v20 =>
 ldV 1 false v18 h = some v19 ∧
 ldV 1 false v15 h = some v16 ∧
 ldV 1 false v1 h = some v12 ∧
 ldV 1 false v1 h = some v11 ∧
 nilP v20 fun v21 =>
 fadP 8 v21 fun v22 =>
 ldP 1 false v22 h fun v23 =>
 ldV 1 false v18 h = some v19 ∧
 ldV 1 false v15 h = some v16 ∧
 ldV 1 false v1 h = some v12 ∧
 ldV 1 false v1 h = some v11 ∧
 nilP v23 fun v24 =>
 fadP 7 v24 fun v25 =>
 ldP 1 false v25 h fun v26 =>
 ldV 1 false v18 h = some v19 ∧
 ldV 1 false v15 h = some v16 ∧
 ldV 1 false v1 h = some v12 ∧
 ldV 1 false v1 h = some v11 ∧
 S n_state_turn_free [v11, v19, v26] h fun v27 h =>
 notP v27 fun v28 =>
 k9 [v28] h))
 (fun v83 h =>
 (fun v29 =>
 iteP v29
 (K (.bool false) h)
 (joinP G h.length (fun k30 =>
 ldP 1 false v1 h fun v31 =>
 nilP v31 fun v32 =>
 fadP 1 v32 fun v33 =>
 ldP 1 false v1 h fun v34 =>
 ldV 1 false v1 h = some v31 ∧
 nilP v34 fun v35 =>
 fadP 1 v35 fun v36 =>
 fadP 4 v36 fun v37 =>
 ldP 1 false v37 h fun v38 =>
 ldV 1 false v1 h = some v31 ∧
 idxP 4 v38 v8 fun v39 =>
 fadP 1 v39 fun v40 =>
 ldP 1 false v40 h fun v41 =>
 ldV 1 false v1 h = some v31 ∧
 S n_state_User [v33, v41] h fun v42 h =>
 binP .neq .ptr v42 .nilp fun v43 =>
 iteP v43
 (nilP v42 fun v44 =>
 fadP 4 v44 fun v45 =>
 ldP 1 false v45 h fun v46 =>
 ldP 1 false v1 h fun v47 =>
 ldV 1 false v45 h = some v46 ∧
 nilP v47 fun v48 =>
 fadP 8 v48 fun v49 =>
 ldP 1 false v49 h fun v50 =>
 ldV 1 false v45 h = some v46 ∧
 nilP v50 fun v51 =>
 fadP 4 v51 fun v52 =>
 ldP 1 false v52 h fun v53 =>
 ldV 1 false v45 h = some v46 ∧
 binP .sub .other (.int .i64 1073741823) v53 fun v54 =>
 binP .gtr .other v46 v54 fun v55 =>
 iteP v55
 (nilP v42 fun v56 =>
 fadP 4 v56 fun v57 =>
 stP 1 v57 (.int .i64 1073741823) h fun h =>
 k30 [] h)
 (nilP v42 fun v58 =>
 fadP 4 v58 fun v59 =>
 ldP 1 false v59 h fun v60 =>
 ldP 1 false v1 h fun v61 =>
 ldV 1 false v59 h = some v60 ∧
 nilP v61 fun v62 =>
 fadP 8 v62 fun v63 =>
 ldP 1 false v63 h fun v64 =>
 ldV 1 false v59 h = some v60 ∧
 nilP v64 fun v65 =>
 fadP 4 v65 fun v66 =>
 ldP 1 false v66 h fun v67 =>
 ldV 1 false v59 h = some v60 ∧
 binP .add .other v60 v67 fun v68 =>
 nilP v42 fun v69 =>
 fadP 4 v69 fun v70 =>
 stP 1 v70 v68 h fun h =>
 k30 [] h))
 (k30 [] h))
 (fun _ h =>
 binP .add .other v8 (.int .i64 1) fun v71 =>
 ldP 1 false v1 h fun v72 =>
 ldP 1 false v1 h fun v73 =>
 ldV 1 false v1 h = some v72 ∧
 nilP v73 fun v74 =>
 fadP 1 v74 fun v75 =>
 fadP 4 v75 fun v76 =>
 ldP 1 false v76 h fun v77 =>
 ldV 1 false v1 h = some v72 ∧
 S n_slices_Delete_api_Session [v77, v8, v71] h fun v78 h =>
 ldV 1 false v1 h = some v72 ∧
 nilP v72 fun v79 =>
 fadP 1 v79 fun v80 =>
 fadP 4 v80 fun v81 =>
 stP 1 v81 v78 h fun h =>
 K (.bool true) h))) (v83.getD 0 .any))
theorem q_state_turn_closes (S : FuncId → List AVal → AHeap A → (AVal → AHeap A → Prop) → Prop) (G : Nat → AHeap A → List AVal → (List AVal → AHeap A → Prop) → Prop) (a0 : AVal) (h : AHeap A) (K : AVal → AHeap A → Prop) : funP Tryz.prog S G Tryz.f78 (.two none .leaf (.two none .leaf (.two none (.two none (.draw (some [34]) (.take 0 (.take 1 (.take 2 (.split 2 (.skip 3 (.skip 4 (.skip 5 (.skip 6 (.skip 7 (.skip 8 (.skip 9 (.skip 10 (.skip 11 (.skip 12 (.skip 13 (.skip 14 (.skip 15 (.skip 16 (.skip 17 (.skip 18 (.skip 19 (.skip 20 (.skip 21 (.take 22 .stop)))))))))))))))))))) (.take 9 (.load 3 (.load 4 (.take 5 (.take 6 (.take 7 (.load 8 (.take 10 (.take 11 (.load 12 (.alt 13 (.take 14 (.take 15 (.alt 16 (.take 17 (.take 18 (.alt 19 (.alt 20 (.take 21 (.take 22 .stop)) .stop) .stop))) .stop))) .stop)))))))))))))))) .leaf) (.two (some []) (.two none (.draw none (.take 8 (.load 0 (.take 1 (.take 2 (.alt 3 (.take 4 (.take 5 (.take 6 (.alt 7 (.take 9 (.take 10 (.alt 11 (.alt 12 (.take 13 .stop) .stop) .stop))) .stop)))) .stop)))))) (.two none .leaf (.two none (.two none (.draw none (.take 0 (.take 1 (.take 2 (.load 3 (.alt 4 (.take 5 (.take 6 (.alt 7 (.take 8 (.take 9 (.alt 10 (.take 11 (.take 12 .stop)) .stop))) .stop))) .stop)))))) (.two none .leaf (.draw none (.take 0 (.take 1 (.take 2 (.load 3 (.alt 4 (.take 5 (.take 6 (.alt 7 (.take 8 (.take 9 (.alt 10 (.take 11 (.take 12 (.take 13 (.alt 14 .stop .stop)))) .stop))) .stop))) .stop)))))))) .leaf))) (.two none (.draw none (.take 6 (.take 7 (.take 8 (.load 0 (.alt 1 (.take 2 (.take 3 (.take 4 (.alt 5 (.alt 9 (.take 10 (.take 11 (.take 12 (.alt 13 .stop .stop)))) .stop) .stop)))) .stop)))))) .leaf))))) [a0] h K = p_state_turn_closes S G a0 h K := by kernel_rfl
theorem c_state_turn_closes {R : Adts A} {h : AHeap A} {K : AVal → AHeap A → Prop} {a0 : AVal} (hk : p_state_turn_closes (Tri Pr R) (Gives Pr R) a0 h K) : Tri Pr R n_state_turn_closes [a0] h K :=
  tri_of_funP (by kernel_rfl) (fun _ _ _ _ h => h) (fun _ _ _ _ h => h) Tryz.func78 (by rw [q_state_turn_closes]; exact hk)
/-- bastion/state.rotate -/
def p_state_rotate (S : FuncId → List AVal → AHeap A → (AVal → AHeap A → Prop) → Prop) (G : Nat → AHeap A → List AVal → (List AVal → AHeap A → Prop) → Prop) (a0 : AVal) (h : AHeap A) (K : AVal → AHeap A → Prop) : Prop :=
 nilP a0 fun v1 =>
 fadP 1 v1 fun v2 =>
 ldP 1 false v2 h fun v3 =>
 binP .add .other v3 (.int .i64 1) fun v4 =>
 nilP a0 fun v5 =>
 fadP 1 v5 fun v6 =>
 stP 1 v6 v4 h fun h =>
 K (.bool true) h
theorem q_state_rotate (S : FuncId → List AVal → AHeap A → (AVal → AHeap A → Prop) → Prop) (G : Nat → AHeap A → List AVal → (List AVal → AHeap A → Prop) → Prop) (a0 : AVal) (h : AHeap A) (K : AVal → AHeap A → Prop) : funP Tryz.prog S G Tryz.f79 .leaf [a0] h K = p_state_rotate S G a0 h K := by kernel_rfl
theorem c_state_rotate {R : Adts A} {h : AHeap A} {K : AVal → AHeap A → Prop} {a0 : AVal} (hk : p_state_rotate (Tri Pr R) (Gives Pr R) a0 h K) : Tri Pr R n_state_rotate [a0] h K :=
  tri_of_funP (by kernel_rfl) (fun _ _ _ _ h => h) (fun _ _ _ _ h => h) Tryz.func79 (by rw [q_state_rotate]; exact hk)
/-- (*bastion/state.turn).spend -/
def p_state_turn_spend (S : FuncId → List AVal → AHeap A → (AVal → AHeap A → Prop) → Prop) (G : Nat → AHeap A → List AVal → (List AVal → AHeap A → Prop) → Prop) (a0 : AVal) (h : AHeap A) (K : AVal → AHeap A → Prop) : Prop :=
 nilP a0 fun v1 =>
 fadP 1 v1 fun v2 =>
 fadP 6 v2 fun v3 =>
 nilP a0 fun v4 =>
 fadP 8 v4 fun v5 =>
 ldP 1 false v3 h fun v6 =>
 ldP 1 false v5 h fun v7 =>
 ldV 1 false v3 h = some v6 ∧
 nilP v7 fun v8 =>
 fadP 2 v8 fun v9 =>
 ldP 1 false v9 h fun v10 =>
 ldV 1 false v3 h = some v6 ∧
 S n_slices_Contains_int [v6, v10] h fun v11 h =>
 iteP v11
 (K (.bool false) h)
 (nilP a0 fun v12 =>
 fadP 1 v12 fun v13 =>
 fadP 6 v13 fun v14 =>
 nilP a0 fun v15 =>
 fadP 8 v15 fun v16 =>
 ldP 1 false v14 h fun v17 =>
 ldP 1 false v16 h fun v18 =>
 ldV 1 false v14 h = some v17 ∧
 nilP v18 fun v19 =>
 fadP 2 v19 fun v20 =>
 ldP 1 false v20 h fun v21 =>
 ldV 1 false v14 h = some v17 ∧
 bslP t_int 1 [.int .i64 0] [(0, 1, v21)] h fun v22 h =>
 ldV 1 false v14 h = some v17 ∧
 appP t_int 1 8 v17 v22 h fun v23 h =>
 nilP a0 fun v24 =>
 fadP 1 v24 fun v25 =>
 fadP 6 v25 fun v26 =>
 stP 1 v26 v23 h fun h =>
 K (.bool true) h)
theorem q_state_turn_spend (S : FuncId → List AVal → AHeap A → (AVal → AHeap A → Prop) → Prop) (G : Nat → AHeap A → List AVal → (List AVal → AHeap A → Prop) → Prop) (a0 : AVal) (h : AHeap A) (K : AVal → AHeap A → Prop) : funP Tryz.prog S G Tryz.f80 (.two none .leaf (.two none (.two none (.draw none (.take 0 (.take 1 (.take 2 (.take 3 (.take 5 (.take 6 (.take 7 (.load 4 (.alt 8 (.take 9 (.take 10 (.alt 11 (.alt 12 .stop .stop) .stop))) .stop)))))))))) .leaf) (.two none (.draw none (.take 0 (.take 1 (.take 2 (.take 3 (.take 4 (.take 6 (.take 7 (.take 8 (.load 5 (.alt 9 (.take 10 (.take 11 (.alt 12 (.alt 13 (.alt 14 (.take 15 (.take 16 (.take 17 (.alt 18 .stop .stop)))) .stop) .stop) .stop))) .stop))))))))))) .leaf))) [a0] h K = p_state_turn_spend S G a0 h K := by kernel_rfl
theorem c_state_turn_spend {R : Adts A} {h : AHeap A} {K : AVal → AHeap A → Prop} {a0 : AVal} (hk : p_state_turn_spend (Tri Pr R) (Gives Pr R) a0 h K) : Tri Pr R n_state_turn_spend [a0] h K :=
  tri_of_funP (by kernel_rfl) (fun _ _ _ _ h => h) (fun _ _ _ _ h => h) Tryz.func80 (by rw [q_state_turn_spend]; exact hk)
/-- (*bastion/state.turn).of -/
def p_state_turn_of (S : FuncId → List AVal → AHeap A → (AVal → AHeap A → Prop) → Prop) (G : Nat → AHeap A → List AVal → (List AVal → AHeap A → Prop) → Prop) (a0 a1 : AVal) (h : AHeap A) (K : AVal → AHeap A → Prop) : Prop :=
 binP .eql .ptr a1 .nilp fun v1 =>
 iteP v1
 (K (.bool false) h)
 (joinP G h.length (fun k2 =>
 nilP a0 fun v3 =>
 fadP 8 v3 fun v4 =>
 ldP 1 false v4 h fun v5 =>
 nilP v5 fun v6 =>
 fadP 0 v6 fun v7 =>
 ldP 1 false v7 h fun v8 =>
 joinP G h.length (fun k9 =>
 binP .eql .other v8 (.int .i64 7) fun v10 =>
 iteP v10
 (nilP a1 fun v11 =>
 fadP 8 v11 fun v12 =>
 S n_state_rises [v12] h fun v13 h =>
 K v13 h)
 (binP .eql .other v8 (.int .i64 2) fun v14 =>
 iteP v14
 (joinP G h.length (fun k15 =>
 nilP a1 fun v16 =>
 fadP 5 v16 fun v17 =>
 nilP a0 fun v18 =>
 fadP 8 v18 fun v19 =>
 nilP a0 fun v20 =>
 fadP 0 v20 fun v21 =>
 nilP a0 fun v22 =>
 fadP 0 v22 fun v23 =>
 ldP 2 true v17 h fun v24 =>
 ldP 1 false v19 h fun v25 =>
 nilP v25 fun v26 =>
 fadP 7 v26 fun v27 =>
 ldP 1 false v27 h fun v28 =>
 ldP 1 false v21 h fun v29 =>
 nilP v29 fun v30 =>
 fadP 4 v30 fun v31 =>
 ldP 1 false v31 h fun v32 =>
 ldP 1 false v23 h fun v33 =>
 nilP v33 fun v34 =>
 fadP 5 v34 fun v35 =>
 ldP 1 false v35 h fun v36 =>
 (S n_lock_Fail [v24, v28, v32, v36] h fun v37 h =>
 extP v37 0 fun v38 =>
 extP v37 1 fun v39 =>
 newP t_api_Lock [.int .i64 0, .int .i64 0] h fun v40 h =>
 stP 2 v40 v38 h fun h =>
 k15 [v40, v39] h) ∧
 (newP t_api_Lock [.int .i64 0, .int .i64 0] h fun v41 h =>
 ldV 1 false v35 h = some v36 ∧
 ldV 1 false v23 h = some v33 ∧
 ldV 1 false v31 h = some v32 ∧
 ldV 1 false v21 h = some v29 ∧
 ldV 1 false v27 h = some v28 ∧
 ldV 1 false v19 h = some v25 ∧
 ldV 2 true v17 h = some v24 ∧
 S n_lock_Fail [v24, v28, v32, v36] h fun v42 h =>
 extP v42 0 fun v43 =>
 extP v42 1 fun v44 =>
 stP 2 v41 v43 h fun h =>
 k15 [v41, v44] h))
 (fun v54 h =>
 (fun v45 v46 =>
 joinP G h.length (fun k47 =>
 binP .eql .other v46 (.int .i64 0) fun v48 =>
 iteP v48
 (ldP 2 true v45 h fun v49 =>
 nilP a1 fun v50 =>
 fadP 5 v50 fun v51 =>
 stP 2 v51 v49 h fun h =>
 k47 [] h)
 (k47 [] h))
 (fun _ h =>
 binP .eql .other v46 (.int .i64 0) fun v52 =>
 K v52 h)) (v54.getD 0 .any) (v54.getD 1 .any)))
 (binP .eql .other v8 (.int .i64 3) fun v55 =>
 iteP v55
 (nilP a0 fun v56 =>
 fadP 8 v56 fun v57 =>
 nilP a1 fun v58 =>
 fadP 7 v58 fun v59 =>
 ldP 1 false v57 h fun v60 =>
 nilP v60 fun v61 =>
 fadP 4 v61 fun v62 =>
 ldP 1 false v62 h fun v63 =>
 ldP 1 false v59 h fun v64 =>
 ldV 1 false v62 h = some v63 ∧
 ldV 1 false v57 h = some v60 ∧
 binP .leq .other v63 v64 fun v65 =>
 iteP v65
 (K (.bool false) h)
 (nilP a0 fun v66 =>
 fadP 8 v66 fun v67 =>
 ldP 1 false v67 h fun v68 =>
 nilP v68 fun v69 =>
 fadP 4 v69 fun v70 =>
 ldP 1 false v70 h fun v71 =>
 nilP a1 fun v72 =>
 fadP 7 v72 fun v73 =>
 stP 1 v73 v71 h fun h =>
 k9 [] h))
 (binP .eql .other v8 (.int .i64 4) fun v74 =>
 iteP v74
 (k9 [] h)
 (k2 [] h)))))
 (fun _ h =>
 bldP [.int .i64 0, .int .i64 0] [] fun v75 =>
 nilP a1 fun v76 =>
 fadP 5 v76 fun v77 =>
 stP 2 v77 v75 h fun h =>
 k2 [] h))
 (fun _ h =>
 K (.bool true) h))
theorem q_state_turn_of (S : FuncId → List AVal → AHeap A → (AVal → AHeap A → Prop) → Prop) (G : Nat → AHeap A → List AVal → (List AVal → AHeap A → Prop) → Prop) (a0 a1 : AVal) (h : AHeap A) (K : AVal → AHeap A → Prop) : funP Tryz.prog S G Tryz.f81 (.two none .leaf (.two none .leaf (.two (some []) (.two none .leaf (.one [] (.two (some []) (.one [] (.two none (.one [] (.two none .leaf (.two none (.two none (.draw (some [5, 6]) (.take 0 (.take 1 (.take 2 (.take 4 (.take 5 (.take 6 (.take 11 (.take 12 (.take 13 (.take 18 (.take 19 (.take 20 (.load 3 (.load 7 (.take 8 (.take 9 (.load 10 (.load 14 (.take 15 (.take 16 (.load 17 (.load 21 (.take 22 (.take 23 (.load 24 (.alt 25 (.take 26 (.take 27 (.take 28 (.alt 29 (.alt 30 (.take 31 .stop) .stop) .stop)))) (.alt 29 (.alt 25 (.take 26 (.take 27 (.take 28 (.alt 30 (.take 31 .stop) .stop)))) .stop) .stop)))))))))))))))))))))))))))) (.two (some []) .leaf .leaf)) .leaf))) (.two none (.two none (.draw none (.take 0 (.take 1 (.take 2 (.take 7 (.take 8 (.take 9 (.load 3 (.take 4 (.take 5 (.load 6 (.alt 10 (.take 11 .stop) .stop)))))))))))) .leaf) .leaf))) .leaf))) .leaf))) [a0, a1] h K = p_state_turn_of S G a0 a1 h K := by kernel_rfl
theorem c_state_turn_of {R : Adts A} {h : AHeap A} {K : AVal → AHeap A → Prop} {a0 a1 : AVal} (hk : p_state_turn_of (Tri Pr R) (Gives Pr R) a0 a1 h K) : Tri Pr R n_state_turn_of [a0, a1] h K :=
  tri_of_funP (by kernel_rfl) (fun _ _ _ _ h => h) (fun _ _ _ _ h => h) Tryz.func81 (by rw [q_state_turn_of]; exact hk)
/-- bastion/bastionref12.Free -/
def p_ref12_Free (S : FuncId → List AVal → AHeap A → (AVal → AHeap A → Prop) → Prop) (G : Nat → AHeap A → List AVal → (List AVal → AHeap A → Prop) → Prop) (a0 a1 a2 : AVal) (h : AHeap A) (K : AVal → AHeap A → Prop) : Prop :=
 S n_ref12_poolMay [a0, .int .i64 0] h fun v1 h =>
 notP v1 fun v2 =>
 condP v2 false (fun k3 =>
 binP .lss .other a1 (.int .i64 0) fun v4 =>
 k3 v4 h)
 (.bool true) h fun v5 h =>
 condP v5 false (fun k6 =>
 lenP a0 fun v7 =>
 binP .geq .other a1 v7 fun v8 =>
 k6 v8 h)
 (.bool true) h fun v9 h =>
 condP v9 false (fun k10 =>
 idxP 3 a0 a1 fun v11 =>
 fadP 0 v11 fun v12 =>
 ldP 1 false v12 h fun v13 =>
 notP v13 fun v14 =>
 k10 v14 h)
 (.bool true) h fun v15 h =>
 condP v15 false (fun k16 =>
 binP .lss .other a2 (.int .i64 0) fun v17 =>
 k16 v17 h)
 (.bool true) h fun v18 h =>
 iteP v18
 (K (.tup [.nils, .int .i64 1600]) h)
 (idxP 3 a0 a1 fun v19 =>
 ldP 3 true v19 h fun v20 =>
 newP t_api_Address [.bool false, .int .i64 0, .int .i64 0] h fun v21 h =>
 stP 3 v21 v20 h fun h =>
 fadP 0 v21 fun v22 =>
 stP 1 v22 (.bool false) h fun h =>
 fadP 2 v21 fun v23 =>
 stP 1 v23 a2 h fun h =>
 ldP 3 true v21 h fun v24 =>
 S n_ref12_with [a0, a1, v24] h fun v25 h =>
 K (.tup [v25, .int .i64 0]) h)
theorem q_ref12_Free (S : FuncId → List AVal → AHeap A → (AVal → AHeap A → Prop) → Prop) (G : Nat → AHeap A → List AVal → (List AVal → AHeap A → Prop) → Prop) (a0 a1 a2 : AVal) (h : AHeap A) (K : AVal → AHeap A → Prop) : funP Tryz.prog S G Tryz.f82 .leaf [a0, a1, a2] h K = p_ref12_Free S G a0 a1 a2 h K := by kernel_rfl
theorem c_ref12_Free {R : Adts A} {h : AHeap A} {K : AVal → AHeap A → Prop} {a0 a1 a2 : AVal} (hk : p_ref12_Free (Tri Pr R) (Gives Pr R) a0 a1 a2 h K) : Tri Pr R n_ref12_Free [a0, a1, a2] h K :=
  tri_of_funP (by kernel_rfl) (fun _ _ _ _ h => h) (fun _ _ _ _ h => h) Tryz.func82 (by rw [q_ref12_Free]; exact hk)
/-- bastion/bastionref12.Take -/
def p_ref12_Take (S : FuncId → List AVal → AHeap A → (AVal → AHeap A → Prop) → Prop) (G : Nat → AHeap A → List AVal → (List AVal → AHeap A → Prop) → Prop) (a0 a1 a2 : AVal) (h : AHeap A) (K : AVal → AHeap A → Prop) : Prop :=
 S n_ref12_poolMay [a0, a2] h fun v1 h =>
 notP v1 fun v2 =>
 condP v2 false (fun k3 =>
 binP .lss .other a1 (.int .i64 0) fun v4 =>
 k3 v4 h)
 (.bool true) h fun v5 h =>
 condP v5 false (fun k6 =>
 lenP a0 fun v7 =>
 binP .geq .other a1 v7 fun v8 =>
 k6 v8 h)
 (.bool true) h fun v9 h =>
 condP v9 false (fun k10 =>
 idxP 3 a0 a1 fun v11 =>
 fadP 0 v11 fun v12 =>
 ldP 1 false v12 h fun v13 =>
 k10 v13 h)
 (.bool true) h fun v14 h =>
 iteP v14
 (K (.tup [.nils, .int .i64 1600]) h)
 (bldP [.bool false, .int .i64 0, .int .i64 0] [(0, 1, .bool true), (1, 1, a2)] fun v15 =>
 S n_ref12_with [a0, a1, v15] h fun v16 h =>
 K (.tup [v16, .int .i64 0]) h)
theorem q_ref12_Take (S : FuncId → List AVal → AHeap A → (AVal → AHeap A → Prop) → Prop) (G : Nat → AHeap A → List AVal → (List AVal → AHeap A → Prop) → Prop) (a0 a1 a2 : AVal) (h : AHeap A) (K : AVal → AHeap A → Prop) : funP Tryz.prog S G Tryz.f83 .leaf [a0, a1, a2] h K = p_ref12_Take S G a0 a1 a2 h K := by kernel_rfl
theorem c_ref12_Take {R : Adts A} {h : AHeap A} {K : AVal → AHeap A → Prop} {a0 a1 a2 : AVal} (hk : p_ref12_Take (Tri Pr R) (Gives Pr R) a0 a1 a2 h K) : Tri Pr R n_ref12_Take [a0, a1, a2] h K :=
  tri_of_funP (by kernel_rfl) (fun _ _ _ _ h => h) (fun _ _ _ _ h => h) Tryz.func83 (by rw [q_ref12_Take]; exact hk)
/-- bastion/bastionref20.Sum -/
def p_ref20_Sum (S : FuncId → List AVal → AHeap A → (AVal → AHeap A → Prop) → Prop) (G : Nat → AHeap A → List AVal → (List AVal → AHeap A → Prop) → Prop) (a0 a1 : AVal) (h : AHeap A) (K : AVal → AHeap A → Prop) : Prop :=
 binP .sub .other (.int .i64 1073741823) a1 fun v1 =>
 binP .gtr .other a0 v1 fun v2 =>
 iteP v2
 (K (.int .i64 1073741823) h)
 (binP .add .other a0 a1 fun v3 =>
 K v3 h)
theorem q_ref20_Sum (S : FuncId → List AVal → AHeap A → (AVal → AHeap A → Prop) → Prop) (G : Nat → AHeap A → List AVal → (List AVal → AHeap A → Prop) → Prop) (a0 a1 : AVal) (h : AHeap A) (K : AVal → AHeap A → Prop) : funP Tryz.prog S G Tryz.f84 .leaf [a0, a1] h K = p_ref20_Sum S G a0 a1 h K := by kernel_rfl
theorem c_ref20_Sum {R : Adts A} {h : AHeap A} {K : AVal → AHeap A → Prop} {a0 a1 : AVal} (hk : p_ref20_Sum (Tri Pr R) (Gives Pr R) a0 a1 h K) : Tri Pr R n_ref20_Sum [a0, a1] h K :=
  tri_of_funP (by kernel_rfl) (fun _ _ _ _ h => h) (fun _ _ _ _ h => h) Tryz.func84 (by rw [q_ref20_Sum]; exact hk)
/-- bastion/bastionref12.Fail -/
def p_ref12_Fail (S : FuncId → List AVal → AHeap A → (AVal → AHeap A → Prop) → Prop) (G : Nat → AHeap A → List AVal → (List AVal → AHeap A → Prop) → Prop) (a0 a1 a2 a3 : AVal) (h : AHeap A) (K : AVal → AHeap A → Prop) : Prop :=
 boxP t_api_Lock 2 a0 h fun v1 h =>
 newP t_api_Lock [.int .i64 0, .int .i64 0] h fun v2 h =>
 fadP 0 v1 fun v3 =>
 ldP 1 false v3 h fun v4 =>
 binP .lss .other v4 (.int .i64 0) fun v5 =>
 condP v5 false (fun k6 =>
 fadP 0 v1 fun v7 =>
 ldP 1 false v7 h fun v8 =>
 binP .gtr .other v8 (.int .i64 8) fun v9 =>
 k6 v9 h)
 (.bool true) h fun v10 h =>
 condP v10 false (fun k11 =>
 fadP 1 v1 fun v12 =>
 ldP 1 false v12 h fun v13 =>
 binP .lss .other v13 (.int .i64 0) fun v14 =>
 k11 v14 h)
 (.bool true) h fun v15 h =>
 condP v15 false (fun k16 =>
 fadP 1 v1 fun v17 =>
 ldP 1 false v17 h fun v18 =>
 binP .gtr .other v18 (.int .i64 1114111) fun v19 =>
 k16 v19 h)
 (.bool true) h fun v20 h =>
 condP v20 false (fun k21 =>
 S n_ref12_tickMay [a1] h fun v22 h =>
 notP v22 fun v23 =>
 k21 v23 h)
 (.bool true) h fun v24 h =>
 condP v24 false (fun k25 =>
 binP .lss .other a2 (.int .i64 1) fun v26 =>
 k25 v26 h)
 (.bool true) h fun v27 h =>
 condP v27 false (fun k28 =>
 binP .gtr .other a2 (.int .i64 8) fun v29 =>
 k28 v29 h)
 (.bool true) h fun v30 h =>
 condP v30 false (fun k31 =>
 binP .lss .other a3 (.int .i64 1) fun v32 =>
 k31 v32 h)
 (.bool true) h fun v33 h =>
 condP v33 false (fun k34 =>
 binP .gtr .other a3 (.int .i64 65536) fun v35 =>
 k34 v35 h)
 (.bool true) h fun v36 h =>
 condP v36 false (fun k37 =>
 ldP 2 true v1 h fun v38 =>
 S n_ref12_LockOpen [v38, a1] h fun v39 h =>
 notP v39 fun v40 =>
 k37 v40 h)
 (.bool true) h fun v41 h =>
 iteP v41
 (bldP [.int .i64 0, .int .i64 0] [] fun v42 =>
 stP 2 v2 v42 h fun h =>
 ldP 2 true v2 h fun v43 =>
 K (.tup [v43, .int .i64 1300]) h)
 (joinP G h.length (fun k44 =>
 fadP 0 v1 fun v45 =>
 ldP 1 false v45 h fun v46 =>
 binP .geq .other v46 a2 fun v47 =>
 iteP v47
 (fadP 0 v1 fun v48 =>
 stP 1 v48 (.int .i64 0) h fun h =>
 k44 [] h)
 (k44 [] h))
 (fun _ h =>
 fadP 0 v1 fun v49 =>
 ldP 1 false v49 h fun v50 =>
 binP .add .other v50 (.int .i64 1) fun v51 =>
 fadP 0 v1 fun v52 =>
 stP 1 v52 v51 h fun h =>
 joinP G h.length (fun k53 =>
 fadP 0 v1 fun v54 =>
 ldP 1 false v54 h fun v55 =>
 binP .eql .other v55 a2 fun v56 =>
 iteP v56
 (binP .add .other a1 a3 fun v57 =>
 fadP 1 v1 fun v58 =>
 stP 1 v58 v57 h fun h =>
 k53 [] h)
 (k53 [] h))
 (fun _ h =>
 ldP 2 true v1 h fun v59 =>
 stP 2 v2 v59 h fun h =>
 ldP 2 true v2 h fun v60 =>
 K (.tup [v60, .int .i64 0]) h)))
theorem q_ref12_Fail (S : FuncId → List AVal → AHeap A → (AVal → AHeap A → Prop) → Prop) (G : Nat → AHeap A → List AVal → (List AVal → AHeap A → Prop) → Prop) (a0 a1 a2 a3 : AVal) (h : AHeap A) (K : AVal → AHeap A → Prop) : funP Tryz.prog S G Tryz.f85 (.two none .leaf (.two none .leaf (.two (some []) .leaf (.two none .leaf (.two (some []) .leaf .leaf))))) [a0, a1, a2, a3] h K = p_ref12_Fail S G a0 a1 a2 a3 h K := by kernel_rfl
theorem c_ref12_Fail {R : Adts A} {h : AHeap A} {K : AVal → AHeap A → Prop} {a0 a1 a2 a3 : AVal} (hk : p_ref12_Fail (Tri Pr R) (Gives Pr R) a0 a1 a2 a3 h K) : Tri Pr R n_ref12_Fail [a0, a1, a2, a3] h K :=
  tri_of_funP (by kernel_rfl) (fun _ _ _ _ h => h) (fun _ _ _ _ h => h) Tryz.func85 (by rw [q_ref12_Fail]; exact hk)
/-- math/bits.Mul -/
def p_math_bits_Mul (S : FuncId → List AVal → AHeap A → (AVal → AHeap A → Prop) → Prop) (G : Nat → AHeap A → List AVal → (List AVal → AHeap A → Prop) → Prop) (a0 a1 : AVal) (h : AHeap A) (K : AVal → AHeap A → Prop) : Prop :=
 iteP (.bool false)
 (cviP .u32 a0 fun v1 =>
 cviP .u32 a1 fun v2 =>
 S n_math_bits_Mul32 [v1, v2] h fun v3 h =>
 extP v3 0 fun v4 =>
 extP v3 1 fun v5 =>
 cviP .u64 v4 fun v6 =>
 cviP .u64 v5 fun v7 =>
 K (.tup [v6, v7]) h)
 (S n_math_bits_Mul64 [a0, a1] h fun v8 h =>
 extP v8 0 fun v9 =>
 extP v8 1 fun v10 =>
 K (.tup [v9, v10]) h)
theorem q_math_bits_Mul (S : FuncId → List AVal → AHeap A → (AVal → AHeap A → Prop) → Prop) (G : Nat → AHeap A → List AVal → (List AVal → AHeap A → Prop) → Prop) (a0 a1 : AVal) (h : AHeap A) (K : AVal → AHeap A → Prop) : funP Tryz.prog S G Tryz.f86 .leaf [a0, a1] h K = p_math_bits_Mul S G a0 a1 h K := by kernel_rfl
theorem c_math_bits_Mul {R : Adts A} {h : AHeap A} {K : AVal → AHeap A → Prop} {a0 a1 : AVal} (hk : p_math_bits_Mul (Tri Pr R) (Gives Pr R) a0 a1 h K) : Tri Pr R n_math_bits_Mul [a0, a1] h K :=
  tri_of_funP (by kernel_rfl) (fun _ _ _ _ h => h) (fun _ _ _ _ h => h) Tryz.func86 (by rw [q_math_bits_Mul]; exact hk)
/-- (*bastion/state.turn).free -/
def p_state_turn_free (S : FuncId → List AVal → AHeap A → (AVal → AHeap A → Prop) → Prop) (G : Nat → AHeap A → List AVal → (List AVal → AHeap A → Prop) → Prop) (a0 a1 a2 : AVal) (h : AHeap A) (K : AVal → AHeap A → Prop) : Prop :=
 nilP a0 fun v1 =>
 fadP 1 v1 fun v2 =>
 fadP 5 v2 fun v3 =>
 ldP 1 false v3 h fun v4 =>
 S n_pool_Free [v4, a1, a2] h fun v5 h =>
 extP v5 0 fun v6 =>
 extP v5 1 fun v7 =>
 joinP G h.length (fun k8 =>
 binP .eql .other v7 (.int .i64 0) fun v9 =>
 iteP v9
 (nilP a0 fun v10 =>
 fadP 1 v10 fun v11 =>
 fadP 5 v11 fun v12 =>
 stP 1 v12 v6 h fun h =>
 k8 [] h)
 (k8 [] h))
 (fun _ h =>
 binP .eql .other v7 (.int .i64 0) fun v13 =>
 K v13 h)
theorem q_state_turn_free (S : FuncId → List AVal → AHeap A → (AVal → AHeap A → Prop) → Prop) (G : Nat → AHeap A → List AVal → (List AVal → AHeap A → Prop) → Prop) (a0 a1 a2 : AVal) (h : AHeap A) (K : AVal → AHeap A → Prop) : funP Tryz.prog S G Tryz.f87 (.two none .leaf (.two none .leaf (.two (some []) .leaf .leaf))) [a0, a1, a2] h K = p_state_turn_free S G a0 a1 a2 h K := by kernel_rfl
theorem c_state_turn_free {R : Adts A} {h : AHeap A} {K : AVal → AHeap A → Prop} {a0 a1 a2 : AVal} (hk : p_state_turn_free (Tri Pr R) (Gives Pr R) a0 a1 a2 h K) : Tri Pr R n_state_turn_free [a0, a1, a2] h K :=
  tri_of_funP (by kernel_rfl) (fun _ _ _ _ h => h) (fun _ _ _ _ h => h) Tryz.func87 (by rw [q_state_turn_free]; exact hk)
/-- bastion/state.rises -/
def p_state_rises (S : FuncId → List AVal → AHeap A → (AVal → AHeap A → Prop) → Prop) (G : Nat → AHeap A → List AVal → (List AVal → AHeap A → Prop) → Prop) (a0 : AVal) (h : AHeap A) (K : AVal → AHeap A → Prop) : Prop :=
 nilP a0 fun v1 =>
 ldP 1 false v1 h fun v2 =>
 S n_state_between [v2, .int .i64 0, .int .i64 1073741822] h fun v3 h =>
 notP v3 fun v4 =>
 iteP v4
 (K (.bool false) h)
 (nilP a0 fun v5 =>
 ldP 1 false v5 h fun v6 =>
 binP .add .other v6 (.int .i64 1) fun v7 =>
 nilP a0 fun v8 =>
 stP 1 v8 v7 h fun h =>
 K (.bool true) h)
theorem q_state_rises (S : FuncId → List AVal → AHeap A → (AVal → AHeap A → Prop) → Prop) (G : Nat → AHeap A → List AVal → (List AVal → AHeap A → Prop) → Prop) (a0 : AVal) (h : AHeap A) (K : AVal → AHeap A → Prop) : funP Tryz.prog S G Tryz.f88 .leaf [a0] h K = p_state_rises S G a0 h K := by kernel_rfl
theorem c_state_rises {R : Adts A} {h : AHeap A} {K : AVal → AHeap A → Prop} {a0 : AVal} (hk : p_state_rises (Tri Pr R) (Gives Pr R) a0 h K) : Tri Pr R n_state_rises [a0] h K :=
  tri_of_funP (by kernel_rfl) (fun _ _ _ _ h => h) (fun _ _ _ _ h => h) Tryz.func88 (by rw [q_state_rises]; exact hk)
/-- (*bastion/state.turn).user$1 -/
def p_state_turn_user_c1 (S : FuncId → List AVal → AHeap A → (AVal → AHeap A → Prop) → Prop) (G : Nat → AHeap A → List AVal → (List AVal → AHeap A → Prop) → Prop) (a0 a1 : AVal) (h : AHeap A) (K : AVal → AHeap A → Prop) : Prop :=
 boxP t_api_User 9 a0 h fun v1 h =>
 fadP 0 v1 fun v2 =>
 ldP 1 false v2 h fun v3 =>
 ldP 1 false a1 h fun v4 =>
 ldV 1 false v2 h = some v3 ∧
 nilP v4 fun v5 =>
 fadP 8 v5 fun v6 =>
 ldP 1 false v6 h fun v7 =>
 ldV 1 false v2 h = some v3 ∧
 nilP v7 fun v8 =>
 fadP 1 v8 fun v9 =>
 ldP 1 false v9 h fun v10 =>
 ldV 1 false v2 h = some v3 ∧
 binP .gtr .other v3 v10 fun v11 =>
 K v11 h
theorem q_state_turn_user_c1 (S : FuncId → List AVal → AHeap A → (AVal → AHeap A → Prop) → Prop) (G : Nat → AHeap A → List AVal → (List AVal → AHeap A → Prop) → Prop) (a0 a1 : AVal) (h : AHeap A) (K : AVal → AHeap A → Prop) : funP Tryz.prog S G Tryz.f89 (.two none .leaf (.two none (.draw none (.take 0 (.load 1 (.alt 2 (.take 3 (.take 4 (.alt 5 (.take 6 (.take 7 (.alt 8 (.take 9 (.take 10 .stop)) .stop))) .stop))) .stop)))) .leaf)) [a0, a1] h K = p_state_turn_user_c1 S G a0 a1 h K := by kernel_rfl
theorem c_state_turn_user_c1 {R : Adts A} {h : AHeap A} {K : AVal → AHeap A → Prop} {a0 a1 : AVal} (hk : p_state_turn_user_c1 (Tri Pr R) (Gives Pr R) a0 a1 h K) : Tri Pr R n_state_turn_user_c1 [a0, a1] h K :=
  tri_of_funP (by kernel_rfl) (fun _ _ _ _ h => h) (fun _ _ _ _ h => h) Tryz.func89 (by rw [q_state_turn_user_c1]; exact hk)
/-- slices.Insert[[]bastion/api.User,bastion/api.User] -/
def p_slices_Insert_api_User (S : FuncId → List AVal → AHeap A → (AVal → AHeap A → Prop) → Prop) (G : Nat → AHeap A → List AVal → (List AVal → AHeap A → Prop) → Prop) (a0 a1 a2 : AVal) (h : AHeap A) (K : AVal → AHeap A → Prop) : Prop :=
 rslP 9 a0 (some a1) none none fun v1 =>
 lenP a2 fun v2 =>
 binP .eql .other v2 (.int .i64 0) fun v3 =>
 iteP v3
 (K a0 h)
 (lenP a0 fun v4 =>
 binP .eql .other a1 v4 fun v5 =>
 iteP v5
 (appP t_api_User 9 72 a0 a2 h fun v6 h =>
 K v6 h)
 (binP .add .other v4 v2 fun v7 =>
 capP a0 fun v8 =>
 binP .gtr .other v7 v8 fun v9 =>
 iteP v9
 (rslP 9 a0 none (some a1) none fun v10 =>
 binP .add .other v4 v2 fun v11 =>
 binP .sub .other v11 a1 fun v12 =>
 apzP t_api_User 9 72 [.int .i64 0, .int .i64 0, .int .i64 0, .int .i64 0, .int .i64 0, .int .i64 0, .int .i64 0, .int .i64 0, .int .i64 0] v10 v12 h fun v13 h =>
 rslP 9 v13 (some a1) none none fun v14 =>
 cpyP 9 v14 a2 h fun v15 h =>
 binP .add .other a1 v2 fun v16 =>
 rslP 9 v13 (some v16) none none fun v17 =>
 rslP 9 a0 (some a1) none none fun v18 =>
 cpyP 9 v17 v18 h fun v19 h =>
 K v13 h)
 (binP .add .other v4 v2 fun v20 =>
 rslP 9 a0 none (some v20) none fun v21 =>
 binP .add .other a1 v2 fun v22 =>
 rslP 9 v21 (some v22) none none fun v23 =>
 ovlP Pr n_slices_overlaps_api_User a2 v23 h fun v24 =>
 notP v24 fun v25 =>
 iteP v25
 (binP .add .other a1 v2 fun v26 =>
 rslP 9 v21 (some v26) none none fun v27 =>
 rslP 9 v21 (some a1) none none fun v28 =>
 cpyP 9 v27 v28 h fun v29 h =>
 rslP 9 v21 (some a1) none none fun v30 =>
 cpyP 9 v30 a2 h fun v31 h =>
 K v21 h)
 (rslP 9 v21 (some v4) none none fun v32 =>
 cpyP 9 v32 a2 h fun v33 h =>
 rslP 9 v21 (some a1) none none fun v34 =>
 S n_slices_rotateRight_api_User [v34, v2] h fun v35 h =>
 K v21 h))))
theorem q_slices_Insert_api_User (S : FuncId → List AVal → AHeap A → (AVal → AHeap A → Prop) → Prop) (G : Nat → AHeap A → List AVal → (List AVal → AHeap A → Prop) → Prop) (a0 a1 a2 : AVal) (h : AHeap A) (K : AVal → AHeap A → Prop) : funP Tryz.prog S G Tryz.f90 (.two none .leaf (.two none .leaf (.two none .leaf (.two none .leaf (.two none .leaf (.two none .leaf (.two none (.two none .leaf (.two none (.two none .leaf (.two none .leaf (.two none (.draw none (.take 0 (.take 1 (.take 2 (.take 3 (.take 4 (.take 5 (.take 6 (.take 7 (.alt 8 .stop .stop)))))))))) .leaf))) .leaf)) (.two none .leaf (.two none (.two none .leaf (.two none (.two none (.draw none (.take 0 (.take 1 (.take 2 (.take 3 (.take 4 (.take 5 (.take 6 (.take 7 (.alt 8 .stop .stop)))))))))) .leaf) .leaf)) .leaf))))))))) [a0, a1, a2] h K = p_slices_Insert_api_User S G a0 a1 a2 h K := by kernel_rfl
theorem c_slices_Insert_api_User {R : Adts A} {h : AHeap A} {K : AVal → AHeap A → Prop} {a0 a1 a2 : AVal} (hk : p_slices_Insert_api_User (Tri Pr R) (Gives Pr R) a0 a1 a2 h K) : Tri Pr R n_slices_Insert_api_User [a0, a1, a2] h K :=
  tri_of_funP (by kernel_rfl) (fun _ _ _ _ h => h) (fun _ _ _ _ h => h) Tryz.func90 (by rw [q_slices_Insert_api_User]; exact hk)
/-- bastion/pool.Take -/
def p_pool_Take (S : FuncId → List AVal → AHeap A → (AVal → AHeap A → Prop) → Prop) (G : Nat → AHeap A → List AVal → (List AVal → AHeap A → Prop) → Prop) (a0 a1 a2 : AVal) (h : AHeap A) (K : AVal → AHeap A → Prop) : Prop :=
 S n_pool_may [a0] h fun v1 h =>
 notP v1 fun v2 =>
 condP v2 false (fun k3 =>
 S n_pool_userMay [a2] h fun v4 h =>
 notP v4 fun v5 =>
 k3 v5 h)
 (.bool true) h fun v6 h =>
 condP v6 false (fun k7 =>
 S n_pool_there [a0, a1] h fun v8 h =>
 notP v8 fun v9 =>
 k7 v9 h)
 (.bool true) h fun v10 h =>
 condP v10 false (fun k11 =>
 idxP 3 a0 a1 fun v12 =>
 fadP 0 v12 fun v13 =>
 ldP 1 false v13 h fun v14 =>
 k11 v14 h)
 (.bool true) h fun v15 h =>
 iteP v15
 (K (.tup [.nils, .int .i64 1600]) h)
 (bldP [.bool false, .int .i64 0, .int .i64 0] [(0, 1, .bool true), (1, 1, a2)] fun v16 =>
 S n_pool_with [a0, a1, v16] h fun v17 h =>
 K (.tup [v17, .int .i64 0]) h)
theorem q_pool_Take (S : FuncId → List AVal → AHeap A → (AVal → AHeap A → Prop) → Prop) (G : Nat → AHeap A → List AVal → (List AVal → AHeap A → Prop) → Prop) (a0 a1 a2 : AVal) (h : AHeap A) (K : AVal → AHeap A → Prop) : funP Tryz.prog S G Tryz.f91 .leaf [a0, a1, a2] h K = p_pool_Take S G a0 a1 a2 h K := by kernel_rfl
theorem c_pool_Take {R : Adts A} {h : AHeap A} {K : AVal → AHeap A → Prop} {a0 a1 a2 : AVal} (hk : p_pool_Take (Tri Pr R) (Gives Pr R) a0 a1 a2 h K) : Tri Pr R n_pool_Take [a0, a1, a2] h K :=
  tri_of_funP (by kernel_rfl) (fun _ _ _ _ h => h) (fun _ _ _ _ h => h) Tryz.func91 (by rw [q_pool_Take]; exact hk)
/-- (*bastion/state.turn).closes$1 -/
def p_state_turn_closes_c1 (S : FuncId → List AVal → AHeap A → (AVal → AHeap A → Prop) → Prop) (G : Nat → AHeap A → List AVal → (List AVal → AHeap A → Prop) → Prop) (a0 a1 : AVal) (h : AHeap A) (K : AVal → AHeap A → Prop) : Prop :=
 boxP t_api_Session 4 a0 h fun v1 h =>
 fadP 0 v1 fun v2 =>
 ldP 1 false v2 h fun v3 =>
 ldP 1 false a1 h fun v4 =>
 ldV 1 false v2 h = some v3 ∧
 nilP v4 fun v5 =>
 fadP 8 v5 fun v6 =>
 ldP 1 false v6 h fun v7 =>
 ldV 1 false v2 h = some v3 ∧
 nilP v7 fun v8 =>
 fadP 2 v8 fun v9 =>
 ldP 1 false v9 h fun v10 =>
 ldV 1 false v2 h = some v3 ∧
 binP .eql .other v3 v10 fun v11 =>
 K v11 h
theorem q_state_turn_closes_c1 (S : FuncId → List AVal → AHeap A → (AVal → AHeap A → Prop) → Prop) (G : Nat → AHeap A → List AVal → (List AVal → AHeap A → Prop) → Prop) (a0 a1 : AVal) (h : AHeap A) (K : AVal → AHeap A → Prop) : funP Tryz.prog S G Tryz.f92 (.two none .leaf (.two none (.draw none (.take 0 (.load 1 (.alt 2 (.take 3 (.take 4 (.alt 5 (.take 6 (.take 7 (.alt 8 (.take 9 (.take 10 .stop)) .stop))) .stop))) .stop)))) .leaf)) [a0, a1] h K = p_state_turn_closes_c1 S G a0 a1 h K := by kernel_rfl
theorem c_state_turn_closes_c1 {R : Adts A} {h : AHeap A} {K : AVal → AHeap A → Prop} {a0 a1 : AVal} (hk : p_state_turn_closes_c1 (Tri Pr R) (Gives Pr R) a0 a1 h K) : Tri Pr R n_state_turn_closes_c1 [a0, a1] h K :=
  tri_of_funP (by kernel_rfl) (fun _ _ _ _ h => h) (fun _ _ _ _ h => h) Tryz.func92 (by rw [q_state_turn_closes_c1]; exact hk)
/-- slices.Delete[[]bastion/api.Session,bastion/api.Session] -/
def p_slices_Delete_api_Session (S : FuncId → List AVal → AHeap A → (AVal → AHeap A → Prop) → Prop) (G : Nat → AHeap A → List AVal → (List AVal → AHeap A → Prop) → Prop) (a0 a1 a2 : AVal) (h : AHeap A) (K : AVal → AHeap A → Prop) : Prop :=
 lenP a0 fun v1 =>
 rslP 4 a0 (some a1) (some a2) (some v1) fun v2 =>
 binP .eql .other a1 a2 fun v3 =>
 iteP v3
 (K a0 h)
 (lenP a0 fun v4 =>
 rslP 4 a0 none (some a1) none fun v5 =>
 rslP 4 a0 (some a2) none none fun v6 =>
 appP t_api_Session 4 32 v5 v6 h fun v7 h =>
 lenP v7 fun v8 =>
 rslP 4 v7 (some v8) (some v4) none fun v9 =>
 clrP 4 [.int .i64 0, .int .i64 0, .int .i64 0, .int .i64 0] v9 h fun h =>
 K v7 h)
theorem q_slices_Delete_api_Session (S : FuncId → List AVal → AHeap A → (AVal → AHeap A → Prop) → Prop) (G : Nat → AHeap A → List AVal → (List AVal → AHeap A → Prop) → Prop) (a0 a1 a2 : AVal) (h : AHeap A) (K : AVal → AHeap A → Prop) : funP Tryz.prog S G Tryz.f93 (.two none .leaf (.two none .leaf (.two none .leaf (.two none .leaf (.two none (.draw none (.take 0 (.take 1 (.take 2 (.take 3 (.take 4 (.take 5 (.alt 6 (.take 7 .stop) .stop)))))))) .leaf))))) [a0, a1, a2] h K = p_slices_Delete_api_Session S G a0 a1 a2 h K := by kernel_rfl
theorem c_slices_Delete_api_Session {R : Adts A} {h : AHeap A} {K : AVal → AHeap A → Prop} {a0 a1 a2 : AVal} (hk : p_slices_Delete_api_Session (Tri Pr R) (Gives Pr R) a0 a1 a2 h K) : Tri Pr R n_slices_Delete_api_Session [a0, a1, a2] h K :=
  tri_of_funP (by kernel_rfl) (fun _ _ _ _ h => h) (fun _ _ _ _ h => h) Tryz.func93 (by rw [q_slices_Delete_api_Session]; exact hk)
/-- slices.Contains[[]int,int] -/
def p_slices_Contains_int (S : FuncId → List AVal → AHeap A → (AVal → AHeap A → Prop) → Prop) (G : Nat → AHeap A → List AVal → (List AVal → AHeap A → Prop) → Prop) (a0 a1 : AVal) (h : AHeap A) (K : AVal → AHeap A → Prop) : Prop :=
 S n_slices_Index_int [a0, a1] h fun v1 h =>
 binP .geq .other v1 (.int .i64 0) fun v2 =>
 K v2 h
theorem q_slices_Contains_int (S : FuncId → List AVal → AHeap A → (AVal → AHeap A → Prop) → Prop) (G : Nat → AHeap A → List AVal → (List AVal → AHeap A → Prop) → Prop) (a0 a1 : AVal) (h : AHeap A) (K : AVal → AHeap A → Prop) : funP Tryz.prog S G Tryz.f94 .leaf [a0, a1] h K = p_slices_Contains_int S G a0 a1 h K := by kernel_rfl
theorem c_slices_Contains_int {R : Adts A} {h : AHeap A} {K : AVal → AHeap A → Prop} {a0 a1 : AVal} (hk : p_slices_Contains_int (Tri Pr R) (Gives Pr R) a0 a1 h K) : Tri Pr R n_slices_Contains_int [a0, a1] h K :=
  tri_of_funP (by kernel_rfl) (fun _ _ _ _ h => h) (fun _ _ _ _ h => h) Tryz.func94 (by rw [q_slices_Contains_int]; exact hk)
/-- bastion/lock.Fail -/
def p_lock_Fail (S : FuncId → List AVal → AHeap A → (AVal → AHeap A → Prop) → Prop) (G : Nat → AHeap A → List AVal → (List AVal → AHeap A → Prop) → Prop) (a0 a1 a2 a3 : AVal) (h : AHeap A) (K : AVal → AHeap A → Prop) : Prop :=
 boxP t_api_Lock 2 a0 h fun v1 h =>
 newP t_api_Lock [.int .i64 0, .int .i64 0] h fun v2 h =>
 fadP 0 v1 fun v3 =>
 ldP 1 false v3 h fun v4 =>
 binP .lss .other v4 (.int .i64 0) fun v5 =>
 condP v5 false (fun k6 =>
 fadP 0 v1 fun v7 =>
 ldP 1 false v7 h fun v8 =>
 binP .gtr .other v8 (.int .i64 8) fun v9 =>
 k6 v9 h)
 (.bool true) h fun v10 h =>
 condP v10 false (fun k11 =>
 fadP 1 v1 fun v12 =>
 ldP 1 false v12 h fun v13 =>
 binP .lss .other v13 (.int .i64 0) fun v14 =>
 k11 v14 h)
 (.bool true) h fun v15 h =>
 condP v15 false (fun k16 =>
 fadP 1 v1 fun v17 =>
 ldP 1 false v17 h fun v18 =>
 binP .gtr .other v18 (.int .i64 1114111) fun v19 =>
 k16 v19 h)
 (.bool true) h fun v20 h =>
 condP v20 false (fun k21 =>
 S n_totp_TickMay [a1] h fun v22 h =>
 notP v22 fun v23 =>
 k21 v23 h)
 (.bool true) h fun v24 h =>
 iteP v24
 (bldP [.int .i64 0, .int .i64 0] [] fun v25 =>
 stP 2 v2 v25 h fun h =>
 ldP 2 true v2 h fun v26 =>
 K (.tup [v26, .int .i64 1300]) h)
 (binP .lss .other a2 (.int .i64 1) fun v27 =>
 condP v27 false (fun k28 =>
 binP .gtr .other a2 (.int .i64 8) fun v29 =>
 k28 v29 h)
 (.bool true) h fun v30 h =>
 condP v30 false (fun k31 =>
 binP .lss .other a3 (.int .i64 1) fun v32 =>
 k31 v32 h)
 (.bool true) h fun v33 h =>
 condP v33 false (fun k34 =>
 binP .gtr .other a3 (.int .i64 65536) fun v35 =>
 k34 v35 h)
 (.bool true) h fun v36 h =>
 condP v36 false (fun k37 =>
 ldP 2 true v1 h fun v38 =>
 S n_lock_Open [v38, a1] h fun v39 h =>
 notP v39 fun v40 =>
 k37 v40 h)
 (.bool true) h fun v41 h =>
 iteP v41
 (bldP [.int .i64 0, .int .i64 0] [] fun v42 =>
 stP 2 v2 v42 h fun h =>
 ldP 2 true v2 h fun v43 =>
 K (.tup [v43, .int .i64 1300]) h)
 (joinP G h.length (fun k44 =>
 fadP 0 v1 fun v45 =>
 ldP 1 false v45 h fun v46 =>
 binP .geq .other v46 a2 fun v47 =>
 iteP v47
 (fadP 0 v1 fun v48 =>
 stP 1 v48 (.int .i64 0) h fun h =>
 k44 [] h)
 (k44 [] h))
 (fun _ h =>
 fadP 0 v1 fun v49 =>
 ldP 1 false v49 h fun v50 =>
 binP .add .other v50 (.int .i64 1) fun v51 =>
 fadP 0 v1 fun v52 =>
 stP 1 v52 v51 h fun h =>
 joinP G h.length (fun k53 =>
 fadP 0 v1 fun v54 =>
 ldP 1 false v54 h fun v55 =>
 binP .eql .other v55 a2 fun v56 =>
 iteP v56
 (binP .add .other a1 a3 fun v57 =>
 fadP 1 v1 fun v58 =>
 stP 1 v58 v57 h fun h =>
 k53 [] h)
 (k53 [] h))
 (fun _ h =>
 ldP 2 true v1 h fun v59 =>
 stP 2 v2 v59 h fun h =>
 ldP 2 true v2 h fun v60 =>
 K (.tup [v60, .int .i64 0]) h))))
theorem q_lock_Fail (S : FuncId → List AVal → AHeap A → (AVal → AHeap A → Prop) → Prop) (G : Nat → AHeap A → List AVal → (List AVal → AHeap A → Prop) → Prop) (a0 a1 a2 a3 : AVal) (h : AHeap A) (K : AVal → AHeap A → Prop) : funP Tryz.prog S G Tryz.f95 (.two none .leaf (.two none .leaf (.two (some []) .leaf (.two none .leaf (.two (some []) .leaf .leaf))))) [a0, a1, a2, a3] h K = p_lock_Fail S G a0 a1 a2 a3 h K := by kernel_rfl
theorem c_lock_Fail {R : Adts A} {h : AHeap A} {K : AVal → AHeap A → Prop} {a0 a1 a2 a3 : AVal} (hk : p_lock_Fail (Tri Pr R) (Gives Pr R) a0 a1 a2 a3 h K) : Tri Pr R n_lock_Fail [a0, a1, a2, a3] h K :=
  tri_of_funP (by kernel_rfl) (fun _ _ _ _ h => h) (fun _ _ _ _ h => h) Tryz.func95 (by rw [q_lock_Fail]; exact hk)
/-- bastion/bastionref12.poolMay -/
def p_ref12_poolMay (S : FuncId → List AVal → AHeap A → (AVal → AHeap A → Prop) → Prop) (G : Nat → AHeap A → List AVal → (List AVal → AHeap A → Prop) → Prop) (a0 a1 : AVal) (h : AHeap A) (K : AVal → AHeap A → Prop) : Prop :=
 loopP G (fun v34 h k2 =>
 (fun v1 =>
 lenP a0 fun v3 =>
 binP .lss .other v1 v3 fun v4 =>
 iteP v4
 (idxP 3 a0 v1 fun v5 =>
 fadP 1 v5 fun v6 =>
 ldP 1 false v6 h fun v7 =>
 binP .lss .other v7 (.int .i64 (-1)) fun v8 =>
 condP v8 false (fun k9 =>
 idxP 3 a0 v1 fun v10 =>
 fadP 1 v10 fun v11 =>
 ldP 1 false v11 h fun v12 =>
 binP .geq .other v12 (.int .i64 8) fun v13 =>
 k9 v13 h)
 (.bool true) h fun v14 h =>
 condP v14 false (fun k15 =>
 idxP 3 a0 v1 fun v16 =>
 fadP 2 v16 fun v17 =>
 ldP 1 false v17 h fun v18 =>
 binP .lss .other v18 (.int .i64 0) fun v19 =>
 k15 v19 h)
 (.bool true) h fun v20 h =>
 iteP v20
 (K (.bool false) h)
 (binP .add .other v1 (.int .i64 1) fun v21 =>
 k2 [v21] h))
 (lenP a0 fun v22 =>
 binP .geq .other v22 (.int .i64 1) fun v23 =>
 condP v23 true (fun k24 =>
 lenP a0 fun v25 =>
 binP .leq .other v25 (.int .i64 16) fun v26 =>
 k24 v26 h)
 (.bool false) h fun v27 h =>
 condP v27 true (fun k28 =>
 binP .geq .other a1 (.int .i64 0) fun v29 =>
 k28 v29 h)
 (.bool false) h fun v30 h =>
 condP v30 true (fun k31 =>
 binP .lss .other a1 (.int .i64 8) fun v32 =>
 k31 v32 h)
 (.bool false) h fun v33 h =>
 K v33 h)) (v34.getD 0 .any)) [.int .i64 0] h
theorem q_ref12_poolMay (S : FuncId → List AVal → AHeap A → (AVal → AHeap A → Prop) → Prop) (G : Nat → AHeap A → List AVal → (List AVal → AHeap A → Prop) → Prop) (a0 a1 : AVal) (h : AHeap A) (K : AVal → AHeap A → Prop) : funP Tryz.prog S G Tryz.f96 (.two none .leaf (.two none (.two none .leaf (.one [] (.one [5] .leaf))) .leaf)) [a0, a1] h K = p_ref12_poolMay S G a0 a1 h K := by kernel_rfl
theorem c_ref12_poolMay {R : Adts A} {h : AHeap A} {K : AVal → AHeap A → Prop} {a0 a1 : AVal} (hk : p_ref12_poolMay (Tri Pr R) (Gives Pr R) a0 a1 h K) : Tri Pr R n_ref12_poolMay [a0, a1] h K :=
  tri_of_funP (by kernel_rfl) (fun _ _ _ _ h => h) (fun _ _ _ _ h => h) Tryz.func96 (by rw [q_ref12_poolMay]; exact hk)
/-- bastion/bastionref12.with -/
def p_ref12_with (S : FuncId → List AVal → AHeap A → (AVal → AHeap A → Prop) → Prop) (G : Nat → AHeap A → List AVal → (List AVal → AHeap A → Prop) → Prop) (a0 a1 a2 : AVal) (h : AHeap A) (K : AVal → AHeap A → Prop) : Prop :=
 boxP t_api_Address 3 a2 h fun v1 h =>
 bslP t_api_Address 0 [] [] h fun v2 h =>
 appP t_api_Address 3 24 v2 a0 h fun v3 h =>
 ldP 3 true v1 h fun v4 =>
 idxP 3 v3 a1 fun v5 =>
 stP 3 v5 v4 h fun h =>
 K v3 h
theorem q_ref12_with (S : FuncId → List AVal → AHeap A → (AVal → AHeap A → Prop) → Prop) (G : Nat → AHeap A → List AVal → (List AVal → AHeap A → Prop) → Prop) (a0 a1 a2 : AVal) (h : AHeap A) (K : AVal → AHeap A → Prop) : funP Tryz.prog S G Tryz.f97 .leaf [a0, a1, a2] h K = p_ref12_with S G a0 a1 a2 h K := by kernel_rfl
theorem c_ref12_with {R : Adts A} {h : AHeap A} {K : AVal → AHeap A → Prop} {a0 a1 a2 : AVal} (hk : p_ref12_with (Tri Pr R) (Gives Pr R) a0 a1 a2 h K) : Tri Pr R n_ref12_with [a0, a1, a2] h K :=
  tri_of_funP (by kernel_rfl) (fun _ _ _ _ h => h) (fun _ _ _ _ h => h) Tryz.func97 (by rw [q_ref12_with]; exact hk)
/-- bastion/bastionref12.tickMay -/
def p_ref12_tickMay (S : FuncId → List AVal → AHeap A → (AVal → AHeap A → Prop) → Prop) (G : Nat → AHeap A → List AVal → (List AVal → AHeap A → Prop) → Prop) (a0 : AVal) (h : AHeap A) (K : AVal → AHeap A → Prop) : Prop :=
 binP .geq .other a0 (.int .i64 0) fun v1 =>
 condP v1 true (fun k2 =>
 binP .leq .other a0 (.int .i64 1048575) fun v3 =>
 k2 v3 h)
 (.bool false) h fun v4 h =>
 K v4 h
theorem q_ref12_tickMay (S : FuncId → List AVal → AHeap A → (AVal → AHeap A → Prop) → Prop) (G : Nat → AHeap A → List AVal → (List AVal → AHeap A → Prop) → Prop) (a0 : AVal) (h : AHeap A) (K : AVal → AHeap A → Prop) : funP Tryz.prog S G Tryz.f98 .leaf [a0] h K = p_ref12_tickMay S G a0 h K := by kernel_rfl
theorem c_ref12_tickMay {R : Adts A} {h : AHeap A} {K : AVal → AHeap A → Prop} {a0 : AVal} (hk : p_ref12_tickMay (Tri Pr R) (Gives Pr R) a0 h K) : Tri Pr R n_ref12_tickMay [a0] h K :=
  tri_of_funP (by kernel_rfl) (fun _ _ _ _ h => h) (fun _ _ _ _ h => h) Tryz.func98 (by rw [q_ref12_tickMay]; exact hk)
/-- bastion/bastionref12.LockOpen -/
def p_ref12_LockOpen (S : FuncId → List AVal → AHeap A → (AVal → AHeap A → Prop) → Prop) (G : Nat → AHeap A → List AVal → (List AVal → AHeap A → Prop) → Prop) (a0 a1 : AVal) (h : AHeap A) (K : AVal → AHeap A → Prop) : Prop :=
 boxP t_api_Lock 2 a0 h fun v1 h =>
 fadP 1 v1 fun v2 =>
 ldP 1 false v2 h fun v3 =>
 binP .geq .other a1 v3 fun v4 =>
 K v4 h
theorem q_ref12_LockOpen (S : FuncId → List AVal → AHeap A → (AVal → AHeap A → Prop) → Prop) (G : Nat → AHeap A → List AVal → (List AVal → AHeap A → Prop) → Prop) (a0 a1 : AVal) (h : AHeap A) (K : AVal → AHeap A → Prop) : funP Tryz.prog S G Tryz.f99 .leaf [a0, a1] h K = p_ref12_LockOpen S G a0 a1 h K := by kernel_rfl
theorem c_ref12_LockOpen {R : Adts A} {h : AHeap A} {K : AVal → AHeap A → Prop} {a0 a1 : AVal} (hk : p_ref12_LockOpen (Tri Pr R) (Gives Pr R) a0 a1 h K) : Tri Pr R n_ref12_LockOpen [a0, a1] h K :=
  tri_of_funP (by kernel_rfl) (fun _ _ _ _ h => h) (fun _ _ _ _ h => h) Tryz.func99 (by rw [q_ref12_LockOpen]; exact hk)
/-- math/bits.Mul32 -/
def p_math_bits_Mul32 (S : FuncId → List AVal → AHeap A → (AVal → AHeap A → Prop) → Prop) (G : Nat → AHeap A → List AVal → (List AVal → AHeap A → Prop) → Prop) (a0 a1 : AVal) (h : AHeap A) (K : AVal → AHeap A → Prop) : Prop :=
 cviP .u64 a0 fun v1 =>
 cviP .u64 a1 fun v2 =>
 binP .mul .other v1 v2 fun v3 =>
 binP .shr .other v3 (.int .u64 32) fun v4 =>
 cviP .u32 v4 fun v5 =>
 cviP .u32 v3 fun v6 =>
 K (.tup [v5, v6]) h
theorem q_math_bits_Mul32 (S : FuncId → List AVal → AHeap A → (AVal → AHeap A → Prop) → Prop) (G : Nat → AHeap A → List AVal → (List AVal → AHeap A → Prop) → Prop) (a0 a1 : AVal) (h : AHeap A) (K : AVal → AHeap A → Prop) : funP Tryz.prog S G Tryz.f100 .leaf [a0, a1] h K = p_math_bits_Mul32 S G a0 a1 h K := by kernel_rfl
theorem c_math_bits_Mul32 {R : Adts A} {h : AHeap A} {K : AVal → AHeap A → Prop} {a0 a1 : AVal} (hk : p_math_bits_Mul32 (Tri Pr R) (Gives Pr R) a0 a1 h K) : Tri Pr R n_math_bits_Mul32 [a0, a1] h K :=
  tri_of_funP (by kernel_rfl) (fun _ _ _ _ h => h) (fun _ _ _ _ h => h) Tryz.func100 (by rw [q_math_bits_Mul32]; exact hk)
end Go.AI
