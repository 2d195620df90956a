/- The functions as texts over the abstract heap. -/
import Derived.Test.YtmdlhohhimdkaaaNm
import Derived.KernelRfl
set_option linter.all false
namespace Go.AI
open Go.Proofs
set_option maxRecDepth 1000000
variable {A : Type}
/-- bastion/state.rises -/
def p_state_rises (S : FuncId → List AVal → AHeap A → (AVal → AHeap A → Prop) → Prop) (G : Nat → AHeap A → List AVal → (List AVal → AHeap A → Prop) → Prop) (a0 : AVal) (h : AHeap A) (K : AVal → AHeap A → Prop) : Prop :=
 nilP a0 fun v1 =>
 ldP 1 false v1 h fun v2 =>
 S n_state_between [v2, .int .i64 0, .int .i64 1073741822] h fun v3 h =>
 notP v3 fun v4 =>
 iteP v4
 (K (.bool false) h)
 (nilP a0 fun v5 =>
 ldP 1 false v5 h fun v6 =>
 binP .add .other v6 (.int .i64 1) fun v7 =>
 nilP a0 fun v8 =>
 stP 1 v8 v7 h fun h =>
 K (.bool true) h)
theorem q_state_rises (S : FuncId → List AVal → AHeap A → (AVal → AHeap A → Prop) → Prop) (G : Nat → AHeap A → List AVal → (List AVal → AHeap A → Prop) → Prop) (a0 : AVal) (h : AHeap A) (K : AVal → AHeap A → Prop) : funP Try.prog S G Try.f58 .leaf [a0] h K = p_state_rises S G a0 h K := by kernel_rfl
theorem c_state_rises {R : Adts A} {h : AHeap A} {K : AVal → AHeap A → Prop} {a0 : AVal} (hk : p_state_rises (Tri Pr R) (Gives Pr R) a0 h K) : Tri Pr R n_state_rises [a0] h K :=
  tri_of_funP (by kernel_rfl) (fun _ _ _ _ h => h) (fun _ _ _ _ h => h) Try.func58 (by rw [q_state_rises]; exact hk)
/-- (*bastion/state.turn).user$1 -/
def p_state_turn_user_c1 (S : FuncId → List AVal → AHeap A → (AVal → AHeap A → Prop) → Prop) (G : Nat → AHeap A → List AVal → (List AVal → AHeap A → Prop) → Prop) (a0 a1 : AVal) (h : AHeap A) (K : AVal → AHeap A → Prop) : Prop :=
 boxP t_api_User 9 a0 h fun v1 h =>
 fadP 0 v1 fun v2 =>
 ldP 1 false v2 h fun v3 =>
 ldP 1 false a1 h fun v4 =>
 ldV 1 false v2 h = some v3 ∧
 nilP v4 fun v5 =>
 fadP 8 v5 fun v6 =>
 ldP 1 false v6 h fun v7 =>
 ldV 1 false v2 h = some v3 ∧
 nilP v7 fun v8 =>
 fadP 1 v8 fun v9 =>
 ldP 1 false v9 h fun v10 =>
 ldV 1 false v2 h = some v3 ∧
 binP .gtr .other v3 v10 fun v11 =>
 K v11 h
theorem q_state_turn_user_c1 (S : FuncId → List AVal → AHeap A → (AVal → AHeap A → Prop) → Prop) (G : Nat → AHeap A → List AVal → (List AVal → AHeap A → Prop) → Prop) (a0 a1 : AVal) (h : AHeap A) (K : AVal → AHeap A → Prop) : funP Try.prog S G Try.f59 (.two none .leaf (.two none (.draw none (.take 0 (.load 1 (.alt 2 (.take 3 (.take 4 (.alt 5 (.take 6 (.take 7 (.alt 8 (.take 9 (.take 10 .stop)) .stop))) .stop))) .stop)))) .leaf)) [a0, a1] h K = p_state_turn_user_c1 S G a0 a1 h K := by kernel_rfl
theorem c_state_turn_user_c1 {R : Adts A} {h : AHeap A} {K : AVal → AHeap A → Prop} {a0 a1 : AVal} (hk : p_state_turn_user_c1 (Tri Pr R) (Gives Pr R) a0 a1 h K) : Tri Pr R n_state_turn_user_c1 [a0, a1] h K :=
  tri_of_funP (by kernel_rfl) (fun _ _ _ _ h => h) (fun _ _ _ _ h => h) Try.func59 (by rw [q_state_turn_user_c1]; exact hk)
/-- slices.Insert[[]bastion/api.User,bastion/api.User] -/
def p_slices_Insert_api_User (S : FuncId → List AVal → AHeap A → (AVal → AHeap A → Prop) → Prop) (G : Nat → AHeap A → List AVal → (List AVal → AHeap A → Prop) → Prop) (a0 a1 a2 : AVal) (h : AHeap A) (K : AVal → AHeap A → Prop) : Prop :=
 rslP 9 a0 (some a1) none none fun v1 =>
 lenP a2 fun v2 =>
 binP .eql .other v2 (.int .i64 0) fun v3 =>
 iteP v3
 (K a0 h)
 (lenP a0 fun v4 =>
 binP .eql .other a1 v4 fun v5 =>
 iteP v5
 (appP t_api_User 9 72 a0 a2 h fun v6 h =>
 K v6 h)
 (binP .add .other v4 v2 fun v7 =>
 capP a0 fun v8 =>
 binP .gtr .other v7 v8 fun v9 =>
 iteP v9
 (rslP 9 a0 none (some a1) none fun v10 =>
 binP .add .other v4 v2 fun v11 =>
 binP .sub .other v11 a1 fun v12 =>
 apzP t_api_User 9 72 [.int .i64 0, .int .i64 0, .int .i64 0, .int .i64 0, .int .i64 0, .int .i64 0, .int .i64 0, .int .i64 0, .int .i64 0] v10 v12 h fun v13 h =>
 rslP 9 v13 (some a1) none none fun v14 =>
 cpyP 9 v14 a2 h fun v15 h =>
 binP .add .other a1 v2 fun v16 =>
 rslP 9 v13 (some v16) none none fun v17 =>
 rslP 9 a0 (some a1) none none fun v18 =>
 cpyP 9 v17 v18 h fun v19 h =>
 K v13 h)
 (binP .add .other v4 v2 fun v20 =>
 rslP 9 a0 none (some v20) none fun v21 =>
 binP .add .other a1 v2 fun v22 =>
 rslP 9 v21 (some v22) none none fun v23 =>
 ovlP Pr n_slices_overlaps_api_User a2 v23 h fun v24 =>
 notP v24 fun v25 =>
 iteP v25
 (binP .add .other a1 v2 fun v26 =>
 rslP 9 v21 (some v26) none none fun v27 =>
 rslP 9 v21 (some a1) none none fun v28 =>
 cpyP 9 v27 v28 h fun v29 h =>
 rslP 9 v21 (some a1) none none fun v30 =>
 cpyP 9 v30 a2 h fun v31 h =>
 K v21 h)
 (rslP 9 v21 (some v4) none none fun v32 =>
 cpyP 9 v32 a2 h fun v33 h =>
 rslP 9 v21 (some a1) none none fun v34 =>
 S n_slices_rotateRight_api_User [v34, v2] h fun v35 h =>
 K v21 h))))
theorem q_slices_Insert_api_User (S : FuncId → List AVal → AHeap A → (AVal → AHeap A → Prop) → Prop) (G : Nat → AHeap A → List AVal → (List AVal → AHeap A → Prop) → Prop) (a0 a1 a2 : AVal) (h : AHeap A) (K : AVal → AHeap A → Prop) : funP Try.prog S G Try.f60 (.two none .leaf (.two none .leaf (.two none .leaf (.two none .leaf (.two none .leaf (.two none .leaf (.two none (.two none .leaf (.two none (.two none .leaf (.two none .leaf (.two none (.draw none (.take 0 (.take 1 (.take 2 (.take 3 (.take 4 (.take 5 (.take 6 (.take 7 (.alt 8 .stop .stop)))))))))) .leaf))) .leaf)) (.two none .leaf (.two none (.two none .leaf (.two none (.two none (.draw none (.take 0 (.take 1 (.take 2 (.take 3 (.take 4 (.take 5 (.take 6 (.take 7 (.alt 8 .stop .stop)))))))))) .leaf) .leaf)) .leaf))))))))) [a0, a1, a2] h K = p_slices_Insert_api_User S G a0 a1 a2 h K := by kernel_rfl
theorem c_slices_Insert_api_User {R : Adts A} {h : AHeap A} {K : AVal → AHeap A → Prop} {a0 a1 a2 : AVal} (hk : p_slices_Insert_api_User (Tri Pr R) (Gives Pr R) a0 a1 a2 h K) : Tri Pr R n_slices_Insert_api_User [a0, a1, a2] h K :=
  tri_of_funP (by kernel_rfl) (fun _ _ _ _ h => h) (fun _ _ _ _ h => h) Try.func60 (by rw [q_slices_Insert_api_User]; exact hk)
/-- bastion/pool.Take -/
def p_pool_Take (S : FuncId → List AVal → AHeap A → (AVal → AHeap A → Prop) → Prop) (G : Nat → AHeap A → List AVal → (List AVal → AHeap A → Prop) → Prop) (a0 a1 a2 : AVal) (h : AHeap A) (K : AVal → AHeap A → Prop) : Prop :=
 S n_pool_may [a0] h fun v1 h =>
 notP v1 fun v2 =>
 condP v2 false (fun k3 =>
 S n_pool_userMay [a2] h fun v4 h =>
 notP v4 fun v5 =>
 k3 v5 h)
 (.bool true) h fun v6 h =>
 condP v6 false (fun k7 =>
 S n_pool_there [a0, a1] h fun v8 h =>
 notP v8 fun v9 =>
 k7 v9 h)
 (.bool true) h fun v10 h =>
 condP v10 false (fun k11 =>
 idxP 3 a0 a1 fun v12 =>
 fadP 0 v12 fun v13 =>
 ldP 1 false v13 h fun v14 =>
 k11 v14 h)
 (.bool true) h fun v15 h =>
 iteP v15
 (K (.tup [.nils, .int .i64 1600]) h)
 (bldP [.bool false, .int .i64 0, .int .i64 0] [(0, 1, .bool true), (1, 1, a2)] fun v16 =>
 S n_pool_with [a0, a1, v16] h fun v17 h =>
 K (.tup [v17, .int .i64 0]) h)
theorem q_pool_Take (S : FuncId → List AVal → AHeap A → (AVal → AHeap A → Prop) → Prop) (G : Nat → AHeap A → List AVal → (List AVal → AHeap A → Prop) → Prop) (a0 a1 a2 : AVal) (h : AHeap A) (K : AVal → AHeap A → Prop) : funP Try.prog S G Try.f61 .leaf [a0, a1, a2] h K = p_pool_Take S G a0 a1 a2 h K := by kernel_rfl
theorem c_pool_Take {R : Adts A} {h : AHeap A} {K : AVal → AHeap A → Prop} {a0 a1 a2 : AVal} (hk : p_pool_Take (Tri Pr R) (Gives Pr R) a0 a1 a2 h K) : Tri Pr R n_pool_Take [a0, a1, a2] h K :=
  tri_of_funP (by kernel_rfl) (fun _ _ _ _ h => h) (fun _ _ _ _ h => h) Try.func61 (by rw [q_pool_Take]; exact hk)
/-- (*bastion/state.turn).closes$1 -/
def p_state_turn_closes_c1 (S : FuncId → List AVal → AHeap A → (AVal → AHeap A → Prop) → Prop) (G : Nat → AHeap A → List AVal → (List AVal → AHeap A → Prop) → Prop) (a0 a1 : AVal) (h : AHeap A) (K : AVal → AHeap A → Prop) : Prop :=
 boxP t_api_Session 4 a0 h fun v1 h =>
 fadP 0 v1 fun v2 =>
 ldP 1 false v2 h fun v3 =>
 ldP 1 false a1 h fun v4 =>
 ldV 1 false v2 h = some v3 ∧
 nilP v4 fun v5 =>
 fadP 8 v5 fun v6 =>
 ldP 1 false v6 h fun v7 =>
 ldV 1 false v2 h = some v3 ∧
 nilP v7 fun v8 =>
 fadP 2 v8 fun v9 =>
 ldP 1 false v9 h fun v10 =>
 ldV 1 false v2 h = some v3 ∧
 binP .eql .other v3 v10 fun v11 =>
 K v11 h
theorem q_state_turn_closes_c1 (S : FuncId → List AVal → AHeap A → (AVal → AHeap A → Prop) → Prop) (G : Nat → AHeap A → List AVal → (List AVal → AHeap A → Prop) → Prop) (a0 a1 : AVal) (h : AHeap A) (K : AVal → AHeap A → Prop) : funP Try.prog S G Try.f62 (.two none .leaf (.two none (.draw none (.take 0 (.load 1 (.alt 2 (.take 3 (.take 4 (.alt 5 (.take 6 (.take 7 (.alt 8 (.take 9 (.take 10 .stop)) .stop))) .stop))) .stop)))) .leaf)) [a0, a1] h K = p_state_turn_closes_c1 S G a0 a1 h K := by kernel_rfl
theorem c_state_turn_closes_c1 {R : Adts A} {h : AHeap A} {K : AVal → AHeap A → Prop} {a0 a1 : AVal} (hk : p_state_turn_closes_c1 (Tri Pr R) (Gives Pr R) a0 a1 h K) : Tri Pr R n_state_turn_closes_c1 [a0, a1] h K :=
  tri_of_funP (by kernel_rfl) (fun _ _ _ _ h => h) (fun _ _ _ _ h => h) Try.func62 (by rw [q_state_turn_closes_c1]; exact hk)
/-- slices.Delete[[]bastion/api.Session,bastion/api.Session] -/
def p_slices_Delete_api_Session (S : FuncId → List AVal → AHeap A → (AVal → AHeap A → Prop) → Prop) (G : Nat → AHeap A → List AVal → (List AVal → AHeap A → Prop) → Prop) (a0 a1 a2 : AVal) (h : AHeap A) (K : AVal → AHeap A → Prop) : Prop :=
 lenP a0 fun v1 =>
 rslP 4 a0 (some a1) (some a2) (some v1) fun v2 =>
 binP .eql .other a1 a2 fun v3 =>
 iteP v3
 (K a0 h)
 (lenP a0 fun v4 =>
 rslP 4 a0 none (some a1) none fun v5 =>
 rslP 4 a0 (some a2) none none fun v6 =>
 appP t_api_Session 4 32 v5 v6 h fun v7 h =>
 lenP v7 fun v8 =>
 rslP 4 v7 (some v8) (some v4) none fun v9 =>
 clrP 4 [.int .i64 0, .int .i64 0, .int .i64 0, .int .i64 0] v9 h fun h =>
 K v7 h)
theorem q_slices_Delete_api_Session (S : FuncId → List AVal → AHeap A → (AVal → AHeap A → Prop) → Prop) (G : Nat → AHeap A → List AVal → (List AVal → AHeap A → Prop) → Prop) (a0 a1 a2 : AVal) (h : AHeap A) (K : AVal → AHeap A → Prop) : funP Try.prog S G Try.f63 (.two none .leaf (.two none .leaf (.two none .leaf (.two none .leaf (.two none (.draw none (.take 0 (.take 1 (.take 2 (.take 3 (.take 4 (.take 5 (.alt 6 (.take 7 .stop) .stop)))))))) .leaf))))) [a0, a1, a2] h K = p_slices_Delete_api_Session S G a0 a1 a2 h K := by kernel_rfl
theorem c_slices_Delete_api_Session {R : Adts A} {h : AHeap A} {K : AVal → AHeap A → Prop} {a0 a1 a2 : AVal} (hk : p_slices_Delete_api_Session (Tri Pr R) (Gives Pr R) a0 a1 a2 h K) : Tri Pr R n_slices_Delete_api_Session [a0, a1, a2] h K :=
  tri_of_funP (by kernel_rfl) (fun _ _ _ _ h => h) (fun _ _ _ _ h => h) Try.func63 (by rw [q_slices_Delete_api_Session]; exact hk)
/-- slices.Contains[[]int,int] -/
def p_slices_Contains_int (S : FuncId → List AVal → AHeap A → (AVal → AHeap A → Prop) → Prop) (G : Nat → AHeap A → List AVal → (List AVal → AHeap A → Prop) → Prop) (a0 a1 : AVal) (h : AHeap A) (K : AVal → AHeap A → Prop) : Prop :=
 S n_slices_Index_int [a0, a1] h fun v1 h =>
 binP .geq .other v1 (.int .i64 0) fun v2 =>
 K v2 h
theorem q_slices_Contains_int (S : FuncId → List AVal → AHeap A → (AVal → AHeap A → Prop) → Prop) (G : Nat → AHeap A → List AVal → (List AVal → AHeap A → Prop) → Prop) (a0 a1 : AVal) (h : AHeap A) (K : AVal → AHeap A → Prop) : funP Try.prog S G Try.f64 .leaf [a0, a1] h K = p_slices_Contains_int S G a0 a1 h K := by kernel_rfl
theorem c_slices_Contains_int {R : Adts A} {h : AHeap A} {K : AVal → AHeap A → Prop} {a0 a1 : AVal} (hk : p_slices_Contains_int (Tri Pr R) (Gives Pr R) a0 a1 h K) : Tri Pr R n_slices_Contains_int [a0, a1] h K :=
  tri_of_funP (by kernel_rfl) (fun _ _ _ _ h => h) (fun _ _ _ _ h => h) Try.func64 (by rw [q_slices_Contains_int]; exact hk)
/-- bastion/lock.Fail -/
def p_lock_Fail (S : FuncId → List AVal → AHeap A → (AVal → AHeap A → Prop) → Prop) (G : Nat → AHeap A → List AVal → (List AVal → AHeap A → Prop) → Prop) (a0 a1 a2 a3 : AVal) (h : AHeap A) (K : AVal → AHeap A → Prop) : Prop :=
 boxP t_api_Lock 2 a0 h fun v1 h =>
 newP t_api_Lock [.int .i64 0, .int .i64 0] h fun v2 h =>
 fadP 0 v1 fun v3 =>
 ldP 1 false v3 h fun v4 =>
 binP .lss .other v4 (.int .i64 0) fun v5 =>
 condP v5 false (fun k6 =>
 fadP 0 v1 fun v7 =>
 ldP 1 false v7 h fun v8 =>
 binP .gtr .other v8 (.int .i64 8) fun v9 =>
 k6 v9 h)
 (.bool true) h fun v10 h =>
 condP v10 false (fun k11 =>
 fadP 1 v1 fun v12 =>
 ldP 1 false v12 h fun v13 =>
 binP .lss .other v13 (.int .i64 0) fun v14 =>
 k11 v14 h)
 (.bool true) h fun v15 h =>
 condP v15 false (fun k16 =>
 fadP 1 v1 fun v17 =>
 ldP 1 false v17 h fun v18 =>
 binP .gtr .other v18 (.int .i64 1114111) fun v19 =>
 k16 v19 h)
 (.bool true) h fun v20 h =>
 condP v20 false (fun k21 =>
 S n_totp_TickMay [a1] h fun v22 h =>
 notP v22 fun v23 =>
 k21 v23 h)
 (.bool true) h fun v24 h =>
 iteP v24
 (bldP [.int .i64 0, .int .i64 0] [] fun v25 =>
 stP 2 v2 v25 h fun h =>
 ldP 2 true v2 h fun v26 =>
 K (.tup [v26, .int .i64 1300]) h)
 (binP .lss .other a2 (.int .i64 1) fun v27 =>
 condP v27 false (fun k28 =>
 binP .gtr .other a2 (.int .i64 8) fun v29 =>
 k28 v29 h)
 (.bool true) h fun v30 h =>
 condP v30 false (fun k31 =>
 binP .lss .other a3 (.int .i64 1) fun v32 =>
 k31 v32 h)
 (.bool true) h fun v33 h =>
 condP v33 false (fun k34 =>
 binP .gtr .other a3 (.int .i64 65536) fun v35 =>
 k34 v35 h)
 (.bool true) h fun v36 h =>
 condP v36 false (fun k37 =>
 ldP 2 true v1 h fun v38 =>
 S n_lock_Open [v38, a1] h fun v39 h =>
 notP v39 fun v40 =>
 k37 v40 h)
 (.bool true) h fun v41 h =>
 iteP v41
 (bldP [.int .i64 0, .int .i64 0] [] fun v42 =>
 stP 2 v2 v42 h fun h =>
 ldP 2 true v2 h fun v43 =>
 K (.tup [v43, .int .i64 1300]) h)
 (joinP G h.length (fun k44 =>
 fadP 0 v1 fun v45 =>
 ldP 1 false v45 h fun v46 =>
 binP .geq .other v46 a2 fun v47 =>
 iteP v47
 (fadP 0 v1 fun v48 =>
 stP 1 v48 (.int .i64 0) h fun h =>
 k44 [] h)
 (k44 [] h))
 (fun _ h =>
 fadP 0 v1 fun v49 =>
 ldP 1 false v49 h fun v50 =>
 binP .add .other v50 (.int .i64 1) fun v51 =>
 fadP 0 v1 fun v52 =>
 stP 1 v52 v51 h fun h =>
 joinP G h.length (fun k53 =>
 fadP 0 v1 fun v54 =>
 ldP 1 false v54 h fun v55 =>
 binP .eql .other v55 a2 fun v56 =>
 iteP v56
 (binP .add .other a1 a3 fun v57 =>
 fadP 1 v1 fun v58 =>
 stP 1 v58 v57 h fun h =>
 k53 [] h)
 (k53 [] h))
 (fun _ h =>
 ldP 2 true v1 h fun v59 =>
 stP 2 v2 v59 h fun h =>
 ldP 2 true v2 h fun v60 =>
 K (.tup [v60, .int .i64 0]) h))))
theorem q_lock_Fail (S : FuncId → List AVal → AHeap A → (AVal → AHeap A → Prop) → Prop) (G : Nat → AHeap A → List AVal → (List AVal → AHeap A → Prop) → Prop) (a0 a1 a2 a3 : AVal) (h : AHeap A) (K : AVal → AHeap A → Prop) : funP Try.prog S G Try.f65 (.two none .leaf (.two none .leaf (.two (some []) .leaf (.two none .leaf (.two (some []) .leaf .leaf))))) [a0, a1, a2, a3] h K = p_lock_Fail S G a0 a1 a2 a3 h K := by kernel_rfl
theorem c_lock_Fail {R : Adts A} {h : AHeap A} {K : AVal → AHeap A → Prop} {a0 a1 a2 a3 : AVal} (hk : p_lock_Fail (Tri Pr R) (Gives Pr R) a0 a1 a2 a3 h K) : Tri Pr R n_lock_Fail [a0, a1, a2, a3] h K :=
  tri_of_funP (by kernel_rfl) (fun _ _ _ _ h => h) (fun _ _ _ _ h => h) Try.func65 (by rw [q_lock_Fail]; exact hk)
/-- math/bits.Mul32 -/
def p_math_bits_Mul32 (S : FuncId → List AVal → AHeap A → (AVal → AHeap A → Prop) → Prop) (G : Nat → AHeap A → List AVal → (List AVal → AHeap A → Prop) → Prop) (a0 a1 : AVal) (h : AHeap A) (K : AVal → AHeap A → Prop) : Prop :=
 cviP .u64 a0 fun v1 =>
 cviP .u64 a1 fun v2 =>
 binP .mul .other v1 v2 fun v3 =>
 binP .shr .other v3 (.int .u64 32) fun v4 =>
 cviP .u32 v4 fun v5 =>
 cviP .u32 v3 fun v6 =>
 K (.tup [v5, v6]) h
theorem q_math_bits_Mul32 (S : FuncId → List AVal → AHeap A → (AVal → AHeap A → Prop) → Prop) (G : Nat → AHeap A → List AVal → (List AVal → AHeap A → Prop) → Prop) (a0 a1 : AVal) (h : AHeap A) (K : AVal → AHeap A → Prop) : funP Try.prog S G Try.f66 .leaf [a0, a1] h K = p_math_bits_Mul32 S G a0 a1 h K := by kernel_rfl
theorem c_math_bits_Mul32 {R : Adts A} {h : AHeap A} {K : AVal → AHeap A → Prop} {a0 a1 : AVal} (hk : p_math_bits_Mul32 (Tri Pr R) (Gives Pr R) a0 a1 h K) : Tri Pr R n_math_bits_Mul32 [a0, a1] h K :=
  tri_of_funP (by kernel_rfl) (fun _ _ _ _ h => h) (fun _ _ _ _ h => h) Try.func66 (by rw [q_math_bits_Mul32]; exact hk)
/-- math/bits.Mul64 -/
def p_math_bits_Mul64 (S : FuncId → List AVal → AHeap A → (AVal → AHeap A → Prop) → Prop) (G : Nat → AHeap A → List AVal → (List AVal → AHeap A → Prop) → Prop) (a0 a1 : AVal) (h : AHeap A) (K : AVal → AHeap A → Prop) : Prop :=
 binP .and .other a0 (.int .u64 4294967295) fun v1 =>
 binP .shr .other a0 (.int .u64 32) fun v2 =>
 binP .and .other a1 (.int .u64 4294967295) fun v3 =>
 binP .shr .other a1 (.int .u64 32) fun v4 =>
 binP .mul .other v1 v3 fun v5 =>
 binP .mul .other v2 v3 fun v6 =>
 binP .shr .other v5 (.int .u64 32) fun v7 =>
 binP .add .other v6 v7 fun v8 =>
 binP .and .other v8 (.int .u64 4294967295) fun v9 =>
 binP .shr .other v8 (.int .u64 32) fun v10 =>
 binP .mul .other v1 v4 fun v11 =>
 binP .add .other v9 v11 fun v12 =>
 binP .mul .other v2 v4 fun v13 =>
 binP .add .other v13 v10 fun v14 =>
 binP .shr .other v12 (.int .u64 32) fun v15 =>
 binP .add .other v14 v15 fun v16 =>
 binP .mul .other a0 a1 fun v17 =>
 K (.tup [v16, v17]) h
theorem q_math_bits_Mul64 (S : FuncId → List AVal → AHeap A → (AVal → AHeap A → Prop) → Prop) (G : Nat → AHeap A → List AVal → (List AVal → AHeap A → Prop) → Prop) (a0 a1 : AVal) (h : AHeap A) (K : AVal → AHeap A → Prop) : funP Try.prog S G Try.f67 .leaf [a0, a1] h K = p_math_bits_Mul64 S G a0 a1 h K := by kernel_rfl
theorem c_math_bits_Mul64 {R : Adts A} {h : AHeap A} {K : AVal → AHeap A → Prop} {a0 a1 : AVal} (hk : p_math_bits_Mul64 (Tri Pr R) (Gives Pr R) a0 a1 h K) : Tri Pr R n_math_bits_Mul64 [a0, a1] h K :=
  tri_of_funP (by kernel_rfl) (fun _ _ _ _ h => h) (fun _ _ _ _ h => h) Try.func67 (by rw [q_math_bits_Mul64]; exact hk)
/-- bastion/pool.Free -/
def p_pool_Free (S : FuncId → List AVal → AHeap A → (AVal → AHeap A → Prop) → Prop) (G : Nat → AHeap A → List AVal → (List AVal → AHeap A → Prop) → Prop) (a0 a1 a2 : AVal) (h : AHeap A) (K : AVal → AHeap A → Prop) : Prop :=
 S n_pool_may [a0] h fun v1 h =>
 notP v1 fun v2 =>
 condP v2 false (fun k3 =>
 S n_pool_there [a0, a1] h fun v4 h =>
 notP v4 fun v5 =>
 k3 v5 h)
 (.bool true) h fun v6 h =>
 condP v6 false (fun k7 =>
 idxP 3 a0 a1 fun v8 =>
 fadP 0 v8 fun v9 =>
 ldP 1 false v9 h fun v10 =>
 notP v10 fun v11 =>
 k7 v11 h)
 (.bool true) h fun v12 h =>
 condP v12 false (fun k13 =>
 binP .lss .other a2 (.int .i64 0) fun v14 =>
 k13 v14 h)
 (.bool true) h fun v15 h =>
 iteP v15
 (K (.tup [.nils, .int .i64 1600]) h)
 (idxP 3 a0 a1 fun v16 =>
 fadP 1 v16 fun v17 =>
 ldP 1 false v17 h fun v18 =>
 bldP [.bool false, .int .i64 0, .int .i64 0] [(1, 1, v18), (2, 1, a2)] fun v19 =>
 S n_pool_with [a0, a1, v19] h fun v20 h =>
 K (.tup [v20, .int .i64 0]) h)
theorem q_pool_Free (S : FuncId → List AVal → AHeap A → (AVal → AHeap A → Prop) → Prop) (G : Nat → AHeap A → List AVal → (List AVal → AHeap A → Prop) → Prop) (a0 a1 a2 : AVal) (h : AHeap A) (K : AVal → AHeap A → Prop) : funP Try.prog S G Try.f68 .leaf [a0, a1, a2] h K = p_pool_Free S G a0 a1 a2 h K := by kernel_rfl
theorem c_pool_Free {R : Adts A} {h : AHeap A} {K : AVal → AHeap A → Prop} {a0 a1 a2 : AVal} (hk : p_pool_Free (Tri Pr R) (Gives Pr R) a0 a1 a2 h K) : Tri Pr R n_pool_Free [a0, a1, a2] h K :=
  tri_of_funP (by kernel_rfl) (fun _ _ _ _ h => h) (fun _ _ _ _ h => h) Try.func68 (by rw [q_pool_Free]; exact hk)
/-- slices.rotateRight[bastion/api.User] -/
def p_slices_rotateRight_api_User (S : FuncId → List AVal → AHeap A → (AVal → AHeap A → Prop) → Prop) (G : Nat → AHeap A → List AVal → (List AVal → AHeap A → Prop) → Prop) (a0 a1 : AVal) (h : AHeap A) (K : AVal → AHeap A → Prop) : Prop :=
 lenP a0 fun v1 =>
 binP .sub .other v1 a1 fun v2 =>
 S n_slices_rotateLeft_api_User [a0, v2] h fun v3 h =>
 K (.tup []) h
theorem q_slices_rotateRight_api_User (S : FuncId → List AVal → AHeap A → (AVal → AHeap A → Prop) → Prop) (G : Nat → AHeap A → List AVal → (List AVal → AHeap A → Prop) → Prop) (a0 a1 : AVal) (h : AHeap A) (K : AVal → AHeap A → Prop) : funP Try.prog S G Try.f70 .leaf [a0, a1] h K = p_slices_rotateRight_api_User S G a0 a1 h K := by kernel_rfl
theorem c_slices_rotateRight_api_User {R : Adts A} {h : AHeap A} {K : AVal → AHeap A → Prop} {a0 a1 : AVal} (hk : p_slices_rotateRight_api_User (Tri Pr R) (Gives Pr R) a0 a1 h K) : Tri Pr R n_slices_rotateRight_api_User [a0, a1] h K :=
  tri_of_funP (by kernel_rfl) (fun _ _ _ _ h => h) (fun _ _ _ _ h => h) Try.func70 (by rw [q_slices_rotateRight_api_User]; exact hk)
/-- bastion/pool.may -/
def p_pool_may (S : FuncId → List AVal → AHeap A → (AVal → AHeap A → Prop) → Prop) (G : Nat → AHeap A → List AVal → (List AVal → AHeap A → Prop) → Prop) (a0 : AVal) (h : AHeap A) (K : AVal → AHeap A → Prop) : Prop :=
 lenP a0 fun v1 =>
 binP .geq .other v1 (.int .i64 1) fun v2 =>
 condP v2 true (fun k3 =>
 lenP a0 fun v4 =>
 binP .leq .other v4 (.int .i64 16) fun v5 =>
 k3 v5 h)
 (.bool false) h fun v6 h =>
 condP v6 true (fun k7 =>
 S n_slices_ContainsFunc_api_Address [a0, .fn (.func n_pool_may_c1) [] []] h fun v8 h =>
 notP v8 fun v9 =>
 k7 v9 h)
 (.bool false) h fun v10 h =>
 K v10 h
theorem q_pool_may (S : FuncId → List AVal → AHeap A → (AVal → AHeap A → Prop) → Prop) (G : Nat → AHeap A → List AVal → (List AVal → AHeap A → Prop) → Prop) (a0 : AVal) (h : AHeap A) (K : AVal → AHeap A → Prop) : funP Try.prog S G Try.f71 .leaf [a0] h K = p_pool_may S G a0 h K := by kernel_rfl
theorem c_pool_may {R : Adts A} {h : AHeap A} {K : AVal → AHeap A → Prop} {a0 : AVal} (hk : p_pool_may (Tri Pr R) (Gives Pr R) a0 h K) : Tri Pr R n_pool_may [a0] h K :=
  tri_of_funP (by kernel_rfl) (fun _ _ _ _ h => h) (fun _ _ _ _ h => h) Try.func71 (by rw [q_pool_may]; exact hk)
/-- bastion/pool.userMay -/
def p_pool_userMay (S : FuncId → List AVal → AHeap A → (AVal → AHeap A → Prop) → Prop) (G : Nat → AHeap A → List AVal → (List AVal → AHeap A → Prop) → Prop) (a0 : AVal) (h : AHeap A) (K : AVal → AHeap A → Prop) : Prop :=
 binP .geq .other a0 (.int .i64 0) fun v1 =>
 condP v1 true (fun k2 =>
 binP .lss .other a0 (.int .i64 8) fun v3 =>
 k2 v3 h)
 (.bool false) h fun v4 h =>
 K v4 h
theorem q_pool_userMay (S : FuncId → List AVal → AHeap A → (AVal → AHeap A → Prop) → Prop) (G : Nat → AHeap A → List AVal → (List AVal → AHeap A → Prop) → Prop) (a0 : AVal) (h : AHeap A) (K : AVal → AHeap A → Prop) : funP Try.prog S G Try.f72 .leaf [a0] h K = p_pool_userMay S G a0 h K := by kernel_rfl
theorem c_pool_userMay {R : Adts A} {h : AHeap A} {K : AVal → AHeap A → Prop} {a0 : AVal} (hk : p_pool_userMay (Tri Pr R) (Gives Pr R) a0 h K) : Tri Pr R n_pool_userMay [a0] h K :=
  tri_of_funP (by kernel_rfl) (fun _ _ _ _ h => h) (fun _ _ _ _ h => h) Try.func72 (by rw [q_pool_userMay]; exact hk)
/-- bastion/pool.there -/
def p_pool_there (S : FuncId → List AVal → AHeap A → (AVal → AHeap A → Prop) → Prop) (G : Nat → AHeap A → List AVal → (List AVal → AHeap A → Prop) → Prop) (a0 a1 : AVal) (h : AHeap A) (K : AVal → AHeap A → Prop) : Prop :=
 binP .geq .other a1 (.int .i64 0) fun v1 =>
 condP v1 true (fun k2 =>
 lenP a0 fun v3 =>
 binP .lss .other a1 v3 fun v4 =>
 k2 v4 h)
 (.bool false) h fun v5 h =>
 K v5 h
theorem q_pool_there (S : FuncId → List AVal → AHeap A → (AVal → AHeap A → Prop) → Prop) (G : Nat → AHeap A → List AVal → (List AVal → AHeap A → Prop) → Prop) (a0 a1 : AVal) (h : AHeap A) (K : AVal → AHeap A → Prop) : funP Try.prog S G Try.f73 .leaf [a0, a1] h K = p_pool_there S G a0 a1 h K := by kernel_rfl
theorem c_pool_there {R : Adts A} {h : AHeap A} {K : AVal → AHeap A → Prop} {a0 a1 : AVal} (hk : p_pool_there (Tri Pr R) (Gives Pr R) a0 a1 h K) : Tri Pr R n_pool_there [a0, a1] h K :=
  tri_of_funP (by kernel_rfl) (fun _ _ _ _ h => h) (fun _ _ _ _ h => h) Try.func73 (by rw [q_pool_there]; exact hk)
/-- bastion/pool.with -/
def p_pool_with (S : FuncId → List AVal → AHeap A → (AVal → AHeap A → Prop) → Prop) (G : Nat → AHeap A → List AVal → (List AVal → AHeap A → Prop) → Prop) (a0 a1 a2 : AVal) (h : AHeap A) (K : AVal → AHeap A → Prop) : Prop :=
 boxP t_api_Address 3 a2 h fun v1 h =>
 S n_slices_Clone_api_Address [a0] h fun v2 h =>
 ldP 3 true v1 h fun v3 =>
 idxP 3 v2 a1 fun v4 =>
 stP 3 v4 v3 h fun h =>
 K v2 h
theorem q_pool_with (S : FuncId → List AVal → AHeap A → (AVal → AHeap A → Prop) → Prop) (G : Nat → AHeap A → List AVal → (List AVal → AHeap A → Prop) → Prop) (a0 a1 a2 : AVal) (h : AHeap A) (K : AVal → AHeap A → Prop) : funP Try.prog S G Try.f74 .leaf [a0, a1, a2] h K = p_pool_with S G a0 a1 a2 h K := by kernel_rfl
theorem c_pool_with {R : Adts A} {h : AHeap A} {K : AVal → AHeap A → Prop} {a0 a1 a2 : AVal} (hk : p_pool_with (Tri Pr R) (Gives Pr R) a0 a1 a2 h K) : Tri Pr R n_pool_with [a0, a1, a2] h K :=
  tri_of_funP (by kernel_rfl) (fun _ _ _ _ h => h) (fun _ _ _ _ h => h) Try.func74 (by rw [q_pool_with]; exact hk)
/-- slices.Index[[]int,int] -/
def p_slices_Index_int (S : FuncId → List AVal → AHeap A → (AVal → AHeap A → Prop) → Prop) (G : Nat → AHeap A → List AVal → (List AVal → AHeap A → Prop) → Prop) (a0 a1 : AVal) (h : AHeap A) (K : AVal → AHeap A → Prop) : Prop :=
 lenP a0 fun v1 =>
 loopP G (fun v9 h k3 =>
 (fun v2 =>
 binP .lss .other v2 v1 fun v4 =>
 iteP v4
 (idxP 1 a0 v2 fun v5 =>
 ldP 1 false v5 h fun v6 =>
 binP .eql .other a1 v6 fun v7 =>
 iteP v7
 (K v2 h)
 (binP .add .other v2 (.int .i64 1) fun v8 =>
 k3 [v8] h))
 (K (.int .i64 (-1)) h)) (v9.getD 0 .any)) [.int .i64 0] h
theorem q_slices_Index_int (S : FuncId → List AVal → AHeap A → (AVal → AHeap A → Prop) → Prop) (G : Nat → AHeap A → List AVal → (List AVal → AHeap A → Prop) → Prop) (a0 a1 : AVal) (h : AHeap A) (K : AVal → AHeap A → Prop) : funP Try.prog S G Try.f75 (.two none .leaf (.two none (.two none .leaf (.one [] (.one [8] .leaf))) .leaf)) [a0, a1] h K = p_slices_Index_int S G a0 a1 h K := by kernel_rfl
theorem c_slices_Index_int {R : Adts A} {h : AHeap A} {K : AVal → AHeap A → Prop} {a0 a1 : AVal} (hk : p_slices_Index_int (Tri Pr R) (Gives Pr R) a0 a1 h K) : Tri Pr R n_slices_Index_int [a0, a1] h K :=
  tri_of_funP (by kernel_rfl) (fun _ _ _ _ h => h) (fun _ _ _ _ h => h) Try.func75 (by rw [q_slices_Index_int]; exact hk)
/-- bastion/totp.TickMay -/
def p_totp_TickMay (S : FuncId → List AVal → AHeap A → (AVal → AHeap A → Prop) → Prop) (G : Nat → AHeap A → List AVal → (List AVal → AHeap A → Prop) → Prop) (a0 : AVal) (h : AHeap A) (K : AVal → AHeap A → Prop) : Prop :=
 binP .geq .other a0 (.int .i64 0) fun v1 =>
 condP v1 true (fun k2 =>
 binP .leq .other a0 (.int .i64 1048575) fun v3 =>
 k2 v3 h)
 (.bool false) h fun v4 h =>
 K v4 h
theorem q_totp_TickMay (S : FuncId → List AVal → AHeap A → (AVal → AHeap A → Prop) → Prop) (G : Nat → AHeap A → List AVal → (List AVal → AHeap A → Prop) → Prop) (a0 : AVal) (h : AHeap A) (K : AVal → AHeap A → Prop) : funP Try.prog S G Try.f76 .leaf [a0] h K = p_totp_TickMay S G a0 h K := by kernel_rfl
theorem c_totp_TickMay {R : Adts A} {h : AHeap A} {K : AVal → AHeap A → Prop} {a0 : AVal} (hk : p_totp_TickMay (Tri Pr R) (Gives Pr R) a0 h K) : Tri Pr R n_totp_TickMay [a0] h K :=
  tri_of_funP (by kernel_rfl) (fun _ _ _ _ h => h) (fun _ _ _ _ h => h) Try.func76 (by rw [q_totp_TickMay]; exact hk)
/-- bastion/lock.Open -/
def p_lock_Open (S : FuncId → List AVal → AHeap A → (AVal → AHeap A → Prop) → Prop) (G : Nat → AHeap A → List AVal → (List AVal → AHeap A → Prop) → Prop) (a0 a1 : AVal) (h : AHeap A) (K : AVal → AHeap A → Prop) : Prop :=
 boxP t_api_Lock 2 a0 h fun v1 h =>
 fadP 1 v1 fun v2 =>
 ldP 1 false v2 h fun v3 =>
 binP .geq .other a1 v3 fun v4 =>
 K v4 h
theorem q_lock_Open (S : FuncId → List AVal → AHeap A → (AVal → AHeap A → Prop) → Prop) (G : Nat → AHeap A → List AVal → (List AVal → AHeap A → Prop) → Prop) (a0 a1 : AVal) (h : AHeap A) (K : AVal → AHeap A → Prop) : funP Try.prog S G Try.f77 .leaf [a0, a1] h K = p_lock_Open S G a0 a1 h K := by kernel_rfl
theorem c_lock_Open {R : Adts A} {h : AHeap A} {K : AVal → AHeap A → Prop} {a0 a1 : AVal} (hk : p_lock_Open (Tri Pr R) (Gives Pr R) a0 a1 h K) : Tri Pr R n_lock_Open [a0, a1] h K :=
  tri_of_funP (by kernel_rfl) (fun _ _ _ _ h => h) (fun _ _ _ _ h => h) Try.func77 (by rw [q_lock_Open]; exact hk)
/-- slices.rotateLeft[bastion/api.User] -/
def p_slices_rotateLeft_api_User (S : FuncId → List AVal → AHeap A → (AVal → AHeap A → Prop) → Prop) (G : Nat → AHeap A → List AVal → (List AVal → AHeap A → Prop) → Prop) (a0 a1 : AVal) (h : AHeap A) (K : AVal → AHeap A → Prop) : Prop :=
 rslP 9 a0 none (some a1) none fun v1 =>
 S n_slices_Reverse_api_User [v1] h fun v2 h =>
 rslP 9 a0 (some a1) none none fun v3 =>
 S n_slices_Reverse_api_User [v3] h fun v4 h =>
 S n_slices_Reverse_api_User [a0] h fun v5 h =>
 K (.tup []) h
theorem q_slices_rotateLeft_api_User (S : FuncId → List AVal → AHeap A → (AVal → AHeap A → Prop) → Prop) (G : Nat → AHeap A → List AVal → (List AVal → AHeap A → Prop) → Prop) (a0 a1 : AVal) (h : AHeap A) (K : AVal → AHeap A → Prop) : funP Try.prog S G Try.f78 .leaf [a0, a1] h K = p_slices_rotateLeft_api_User S G a0 a1 h K := by kernel_rfl
theorem c_slices_rotateLeft_api_User {R : Adts A} {h : AHeap A} {K : AVal → AHeap A → Prop} {a0 a1 : AVal} (hk : p_slices_rotateLeft_api_User (Tri Pr R) (Gives Pr R) a0 a1 h K) : Tri Pr R n_slices_rotateLeft_api_User [a0, a1] h K :=
  tri_of_funP (by kernel_rfl) (fun _ _ _ _ h => h) (fun _ _ _ _ h => h) Try.func78 (by rw [q_slices_rotateLeft_api_User]; exact hk)
/-- bastion/pool.may$1 -/
def p_pool_may_c1 (S : FuncId → List AVal → AHeap A → (AVal → AHeap A → Prop) → Prop) (G : Nat → AHeap A → List AVal → (List AVal → AHeap A → Prop) → Prop) (a0 : AVal) (h : AHeap A) (K : AVal → AHeap A → Prop) : Prop :=
 boxP t_api_Address 3 a0 h fun v1 h =>
 fadP 1 v1 fun v2 =>
 ldP 1 false v2 h fun v3 =>
 binP .neq .other v3 (.int .i64 (-1)) fun v4 =>
 condP v4 true (fun k5 =>
 fadP 1 v1 fun v6 =>
 ldP 1 false v6 h fun v7 =>
 S n_pool_userMay [v7] h fun v8 h =>
 notP v8 fun v9 =>
 k5 v9 h)
 (.bool false) h fun v10 h =>
 condP v10 false (fun k11 =>
 fadP 2 v1 fun v12 =>
 ldP 1 false v12 h fun v13 =>
 binP .lss .other v13 (.int .i64 0) fun v14 =>
 k11 v14 h)
 (.bool true) h fun v15 h =>
 K v15 h
theorem q_pool_may_c1 (S : FuncId → List AVal → AHeap A → (AVal → AHeap A → Prop) → Prop) (G : Nat → AHeap A → List AVal → (List AVal → AHeap A → Prop) → Prop) (a0 : AVal) (h : AHeap A) (K : AVal → AHeap A → Prop) : funP Try.prog S G Try.f79 .leaf [a0] h K = p_pool_may_c1 S G a0 h K := by kernel_rfl
theorem c_pool_may_c1 {R : Adts A} {h : AHeap A} {K : AVal → AHeap A → Prop} {a0 : AVal} (hk : p_pool_may_c1 (Tri Pr R) (Gives Pr R) a0 h K) : Tri Pr R n_pool_may_c1 [a0] h K :=
  tri_of_funP (by kernel_rfl) (fun _ _ _ _ h => h) (fun _ _ _ _ h => h) Try.func79 (by rw [q_pool_may_c1]; exact hk)
/-- slices.ContainsFunc[[]bastion/api.Address,bastion/api.Address] -/
def p_slices_ContainsFunc_api_Address (S : FuncId → List AVal → AHeap A → (AVal → AHeap A → Prop) → Prop) (G : Nat → AHeap A → List AVal → (List AVal → AHeap A → Prop) → Prop) (a0 a1 : AVal) (h : AHeap A) (K : AVal → AHeap A → Prop) : Prop :=
 S n_slices_IndexFunc_api_Address [a0, a1] h fun v1 h =>
 binP .geq .other v1 (.int .i64 0) fun v2 =>
 K v2 h
theorem q_slices_ContainsFunc_api_Address (S : FuncId → List AVal → AHeap A → (AVal → AHeap A → Prop) → Prop) (G : Nat → AHeap A → List AVal → (List AVal → AHeap A → Prop) → Prop) (a0 a1 : AVal) (h : AHeap A) (K : AVal → AHeap A → Prop) : funP Try.prog S G Try.f80 .leaf [a0, a1] h K = p_slices_ContainsFunc_api_Address S G a0 a1 h K := by kernel_rfl
theorem c_slices_ContainsFunc_api_Address {R : Adts A} {h : AHeap A} {K : AVal → AHeap A → Prop} {a0 a1 : AVal} (hk : p_slices_ContainsFunc_api_Address (Tri Pr R) (Gives Pr R) a0 a1 h K) : Tri Pr R n_slices_ContainsFunc_api_Address [a0, a1] h K :=
  tri_of_funP (by kernel_rfl) (fun _ _ _ _ h => h) (fun _ _ _ _ h => h) Try.func80 (by rw [q_slices_ContainsFunc_api_Address]; exact hk)
/-- slices.Reverse[[]bastion/api.User,bastion/api.User] -/
def p_slices_Reverse_api_User (S : FuncId → List AVal → AHeap A → (AVal → AHeap A → Prop) → Prop) (G : Nat → AHeap A → List AVal → (List AVal → AHeap A → Prop) → Prop) (a0 : AVal) (h : AHeap A) (K : AVal → AHeap A → Prop) : Prop :=
 lenP a0 fun v1 =>
 binP .sub .other v1 (.int .i64 1) fun v2 =>
 loopP G (fun v15 h k5 =>
 (fun v3 v4 =>
 binP .lss .other v3 v4 fun v6 =>
 iteP v6
 (idxP 9 a0 v4 fun v7 =>
 idxP 9 a0 v3 fun v8 =>
 ldP 9 true v7 h fun v9 =>
 ldP 9 true v8 h fun v10 =>
 ldV 9 true v7 h = some v9 ∧
 idxP 9 a0 v3 fun v11 =>
 stP 9 v11 v9 h fun h =>
 idxP 9 a0 v4 fun v12 =>
 stP 9 v12 v10 h fun h =>
 binP .add .other v3 (.int .i64 1) fun v13 =>
 binP .sub .other v4 (.int .i64 1) fun v14 =>
 k5 [v13, v14] h)
 (K (.tup []) h)) (v15.getD 0 .any) (v15.getD 1 .any)) [.int .i64 0, v2] h
theorem q_slices_Reverse_api_User (S : FuncId → List AVal → AHeap A → (AVal → AHeap A → Prop) → Prop) (G : Nat → AHeap A → List AVal → (List AVal → AHeap A → Prop) → Prop) (a0 : AVal) (h : AHeap A) (K : AVal → AHeap A → Prop) : funP Try.prog S G Try.f81 (.two none .leaf (.one [] (.one [2, 3] (.two none .leaf (.two none (.one [] (.draw none (.take 0 (.take 1 (.take 2 (.take 3 (.take 4 (.take 5 (.take 6 (.take 8 (.take 9 (.take 10 (.load 7 (.alt 11 (.take 12 (.alt 13 (.take 14 (.alt 15 .stop .stop)) .stop)) .stop)))))))))))))) .leaf))))) [a0] h K = p_slices_Reverse_api_User S G a0 h K := by kernel_rfl
theorem c_slices_Reverse_api_User {R : Adts A} {h : AHeap A} {K : AVal → AHeap A → Prop} {a0 : AVal} (hk : p_slices_Reverse_api_User (Tri Pr R) (Gives Pr R) a0 h K) : Tri Pr R n_slices_Reverse_api_User [a0] h K :=
  tri_of_funP (by kernel_rfl) (fun _ _ _ _ h => h) (fun _ _ _ _ h => h) Try.func81 (by rw [q_slices_Reverse_api_User]; exact hk)
/-- slices.IndexFunc[[]bastion/api.Address,bastion/api.Address] -/
def p_slices_IndexFunc_api_Address (S : FuncId → List AVal → AHeap A → (AVal → AHeap A → Prop) → Prop) (G : Nat → AHeap A → List AVal → (List AVal → AHeap A → Prop) → Prop) (a0 a1 : AVal) (h : AHeap A) (K : AVal → AHeap A → Prop) : Prop :=
 lenP a0 fun v1 =>
 loopP G (fun v9 h k3 =>
 (fun v2 =>
 binP .lss .other v2 v1 fun v4 =>
 iteP v4
 (idxP 3 a0 v2 fun v5 =>
 ldP 3 true v5 h fun v6 =>
 dynP Pr S a1 [v6] h fun v7 h =>
 iteP v7
 (K v2 h)
 (binP .add .other v2 (.int .i64 1) fun v8 =>
 k3 [v8] h))
 (K (.int .i64 (-1)) h)) (v9.getD 0 .any)) [.int .i64 0] h
theorem q_slices_IndexFunc_api_Address (S : FuncId → List AVal → AHeap A → (AVal → AHeap A → Prop) → Prop) (G : Nat → AHeap A → List AVal → (List AVal → AHeap A → Prop) → Prop) (a0 a1 : AVal) (h : AHeap A) (K : AVal → AHeap A → Prop) : funP Try.prog S G Try.f82 (.two none .leaf (.two none (.two none .leaf (.one [] (.one [8] .leaf))) .leaf)) [a0, a1] h K = p_slices_IndexFunc_api_Address S G a0 a1 h K := by kernel_rfl
theorem c_slices_IndexFunc_api_Address {R : Adts A} {h : AHeap A} {K : AVal → AHeap A → Prop} {a0 a1 : AVal} (hk : p_slices_IndexFunc_api_Address (Tri Pr R) (Gives Pr R) a0 a1 h K) : Tri Pr R n_slices_IndexFunc_api_Address [a0, a1] h K :=
  tri_of_funP (by kernel_rfl) (fun _ _ _ _ h => h) (fun _ _ _ _ h => h) Try.func82 (by rw [q_slices_IndexFunc_api_Address]; exact hk)
end Go.AI
