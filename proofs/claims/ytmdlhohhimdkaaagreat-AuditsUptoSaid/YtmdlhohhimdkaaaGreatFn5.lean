/- The functions as texts over the abstract heap. -/
import Derived.Test.YtmdlhohhimdkaaaGreatNm
import Derived.KernelRfl
set_option linter.all false
namespace Go.AI
open Go.Proofs
set_option maxRecDepth 1000000
variable {A : Type}
/-- math/bits.Mul64 -/
def p_math_bits_Mul64 (S : FuncId → List AVal → AHeap A → (AVal → AHeap A → Prop) → Prop) (G : Nat → AHeap A → List AVal → (List AVal → AHeap A → Prop) → Prop) (a0 a1 : AVal) (h : AHeap A) (K : AVal → AHeap A → Prop) : Prop :=
 binP .and .other a0 (.int .u64 4294967295) fun v1 =>
 binP .shr .other a0 (.int .u64 32) fun v2 =>
 binP .and .other a1 (.int .u64 4294967295) fun v3 =>
 binP .shr .other a1 (.int .u64 32) fun v4 =>
 binP .mul .other v1 v3 fun v5 =>
 binP .mul .other v2 v3 fun v6 =>
 binP .shr .other v5 (.int .u64 32) fun v7 =>
 binP .add .other v6 v7 fun v8 =>
 binP .and .other v8 (.int .u64 4294967295) fun v9 =>
 binP .shr .other v8 (.int .u64 32) fun v10 =>
 binP .mul .other v1 v4 fun v11 =>
 binP .add .other v9 v11 fun v12 =>
 binP .mul .other v2 v4 fun v13 =>
 binP .add .other v13 v10 fun v14 =>
 binP .shr .other v12 (.int .u64 32) fun v15 =>
 binP .add .other v14 v15 fun v16 =>
 binP .mul .other a0 a1 fun v17 =>
 K (.tup [v16, v17]) h
theorem q_math_bits_Mul64 (S : FuncId → List AVal → AHeap A → (AVal → AHeap A → Prop) → Prop) (G : Nat → AHeap A → List AVal → (List AVal → AHeap A → Prop) → Prop) (a0 a1 : AVal) (h : AHeap A) (K : AVal → AHeap A → Prop) : funP Tryz.prog S G Tryz.f101 .leaf [a0, a1] h K = p_math_bits_Mul64 S G a0 a1 h K := by kernel_rfl
theorem c_math_bits_Mul64 {R : Adts A} {h : AHeap A} {K : AVal → AHeap A → Prop} {a0 a1 : AVal} (hk : p_math_bits_Mul64 (Tri Pr R) (Gives Pr R) a0 a1 h K) : Tri Pr R n_math_bits_Mul64 [a0, a1] h K :=
  tri_of_funP (by kernel_rfl) (fun _ _ _ _ h => h) (fun _ _ _ _ h => h) Tryz.func101 (by rw [q_math_bits_Mul64]; exact hk)
/-- bastion/pool.Free -/
def p_pool_Free (S : FuncId → List AVal → AHeap A → (AVal → AHeap A → Prop) → Prop) (G : Nat → AHeap A → List AVal → (List AVal → AHeap A → Prop) → Prop) (a0 a1 a2 : AVal) (h : AHeap A) (K : AVal → AHeap A → Prop) : Prop :=
 S n_pool_may [a0] h fun v1 h =>
 notP v1 fun v2 =>
 condP v2 false (fun k3 =>
 S n_pool_there [a0, a1] h fun v4 h =>
 notP v4 fun v5 =>
 k3 v5 h)
 (.bool true) h fun v6 h =>
 condP v6 false (fun k7 =>
 idxP 3 a0 a1 fun v8 =>
 fadP 0 v8 fun v9 =>
 ldP 1 false v9 h fun v10 =>
 notP v10 fun v11 =>
 k7 v11 h)
 (.bool true) h fun v12 h =>
 condP v12 false (fun k13 =>
 binP .lss .other a2 (.int .i64 0) fun v14 =>
 k13 v14 h)
 (.bool true) h fun v15 h =>
 iteP v15
 (K (.tup [.nils, .int .i64 1600]) h)
 (idxP 3 a0 a1 fun v16 =>
 fadP 1 v16 fun v17 =>
 ldP 1 false v17 h fun v18 =>
 bldP [.bool false, .int .i64 0, .int .i64 0] [(1, 1, v18), (2, 1, a2)] fun v19 =>
 S n_pool_with [a0, a1, v19] h fun v20 h =>
 K (.tup [v20, .int .i64 0]) h)
theorem q_pool_Free (S : FuncId → List AVal → AHeap A → (AVal → AHeap A → Prop) → Prop) (G : Nat → AHeap A → List AVal → (List AVal → AHeap A → Prop) → Prop) (a0 a1 a2 : AVal) (h : AHeap A) (K : AVal → AHeap A → Prop) : funP Tryz.prog S G Tryz.f102 .leaf [a0, a1, a2] h K = p_pool_Free S G a0 a1 a2 h K := by kernel_rfl
theorem c_pool_Free {R : Adts A} {h : AHeap A} {K : AVal → AHeap A → Prop} {a0 a1 a2 : AVal} (hk : p_pool_Free (Tri Pr R) (Gives Pr R) a0 a1 a2 h K) : Tri Pr R n_pool_Free [a0, a1, a2] h K :=
  tri_of_funP (by kernel_rfl) (fun _ _ _ _ h => h) (fun _ _ _ _ h => h) Tryz.func102 (by rw [q_pool_Free]; exact hk)
/-- slices.rotateRight[bastion/api.User] -/
def p_slices_rotateRight_api_User (S : FuncId → List AVal → AHeap A → (AVal → AHeap A → Prop) → Prop) (G : Nat → AHeap A → List AVal → (List AVal → AHeap A → Prop) → Prop) (a0 a1 : AVal) (h : AHeap A) (K : AVal → AHeap A → Prop) : Prop :=
 lenP a0 fun v1 =>
 binP .sub .other v1 a1 fun v2 =>
 S n_slices_rotateLeft_api_User [a0, v2] h fun v3 h =>
 K (.tup []) h
theorem q_slices_rotateRight_api_User (S : FuncId → List AVal → AHeap A → (AVal → AHeap A → Prop) → Prop) (G : Nat → AHeap A → List AVal → (List AVal → AHeap A → Prop) → Prop) (a0 a1 : AVal) (h : AHeap A) (K : AVal → AHeap A → Prop) : funP Tryz.prog S G Tryz.f104 .leaf [a0, a1] h K = p_slices_rotateRight_api_User S G a0 a1 h K := by kernel_rfl
theorem c_slices_rotateRight_api_User {R : Adts A} {h : AHeap A} {K : AVal → AHeap A → Prop} {a0 a1 : AVal} (hk : p_slices_rotateRight_api_User (Tri Pr R) (Gives Pr R) a0 a1 h K) : Tri Pr R n_slices_rotateRight_api_User [a0, a1] h K :=
  tri_of_funP (by kernel_rfl) (fun _ _ _ _ h => h) (fun _ _ _ _ h => h) Tryz.func104 (by rw [q_slices_rotateRight_api_User]; exact hk)
/-- bastion/pool.may -/
def p_pool_may (S : FuncId → List AVal → AHeap A → (AVal → AHeap A → Prop) → Prop) (G : Nat → AHeap A → List AVal → (List AVal → AHeap A → Prop) → Prop) (a0 : AVal) (h : AHeap A) (K : AVal → AHeap A → Prop) : Prop :=
 lenP a0 fun v1 =>
 binP .geq .other v1 (.int .i64 1) fun v2 =>
 condP v2 true (fun k3 =>
 lenP a0 fun v4 =>
 binP .leq .other v4 (.int .i64 16) fun v5 =>
 k3 v5 h)
 (.bool false) h fun v6 h =>
 condP v6 true (fun k7 =>
 S n_slices_ContainsFunc_api_Address [a0, .fn (.func n_pool_may_c1) [] []] h fun v8 h =>
 notP v8 fun v9 =>
 k7 v9 h)
 (.bool false) h fun v10 h =>
 K v10 h
theorem q_pool_may (S : FuncId → List AVal → AHeap A → (AVal → AHeap A → Prop) → Prop) (G : Nat → AHeap A → List AVal → (List AVal → AHeap A → Prop) → Prop) (a0 : AVal) (h : AHeap A) (K : AVal → AHeap A → Prop) : funP Tryz.prog S G Tryz.f105 .leaf [a0] h K = p_pool_may S G a0 h K := by kernel_rfl
theorem c_pool_may {R : Adts A} {h : AHeap A} {K : AVal → AHeap A → Prop} {a0 : AVal} (hk : p_pool_may (Tri Pr R) (Gives Pr R) a0 h K) : Tri Pr R n_pool_may [a0] h K :=
  tri_of_funP (by kernel_rfl) (fun _ _ _ _ h => h) (fun _ _ _ _ h => h) Tryz.func105 (by rw [q_pool_may]; exact hk)
/-- bastion/pool.userMay -/
def p_pool_userMay (S : FuncId → List AVal → AHeap A → (AVal → AHeap A → Prop) → Prop) (G : Nat → AHeap A → List AVal → (List AVal → AHeap A → Prop) → Prop) (a0 : AVal) (h : AHeap A) (K : AVal → AHeap A → Prop) : Prop :=
 binP .geq .other a0 (.int .i64 0) fun v1 =>
 condP v1 true (fun k2 =>
 binP .lss .other a0 (.int .i64 8) fun v3 =>
 k2 v3 h)
 (.bool false) h fun v4 h =>
 K v4 h
theorem q_pool_userMay (S : FuncId → List AVal → AHeap A → (AVal → AHeap A → Prop) → Prop) (G : Nat → AHeap A → List AVal → (List AVal → AHeap A → Prop) → Prop) (a0 : AVal) (h : AHeap A) (K : AVal → AHeap A → Prop) : funP Tryz.prog S G Tryz.f106 .leaf [a0] h K = p_pool_userMay S G a0 h K := by kernel_rfl
theorem c_pool_userMay {R : Adts A} {h : AHeap A} {K : AVal → AHeap A → Prop} {a0 : AVal} (hk : p_pool_userMay (Tri Pr R) (Gives Pr R) a0 h K) : Tri Pr R n_pool_userMay [a0] h K :=
  tri_of_funP (by kernel_rfl) (fun _ _ _ _ h => h) (fun _ _ _ _ h => h) Tryz.func106 (by rw [q_pool_userMay]; exact hk)
/-- bastion/pool.there -/
def p_pool_there (S : FuncId → List AVal → AHeap A → (AVal → AHeap A → Prop) → Prop) (G : Nat → AHeap A → List AVal → (List AVal → AHeap A → Prop) → Prop) (a0 a1 : AVal) (h : AHeap A) (K : AVal → AHeap A → Prop) : Prop :=
 binP .geq .other a1 (.int .i64 0) fun v1 =>
 condP v1 true (fun k2 =>
 lenP a0 fun v3 =>
 binP .lss .other a1 v3 fun v4 =>
 k2 v4 h)
 (.bool false) h fun v5 h =>
 K v5 h
theorem q_pool_there (S : FuncId → List AVal → AHeap A → (AVal → AHeap A → Prop) → Prop) (G : Nat → AHeap A → List AVal → (List AVal → AHeap A → Prop) → Prop) (a0 a1 : AVal) (h : AHeap A) (K : AVal → AHeap A → Prop) : funP Tryz.prog S G Tryz.f107 .leaf [a0, a1] h K = p_pool_there S G a0 a1 h K := by kernel_rfl
theorem c_pool_there {R : Adts A} {h : AHeap A} {K : AVal → AHeap A → Prop} {a0 a1 : AVal} (hk : p_pool_there (Tri Pr R) (Gives Pr R) a0 a1 h K) : Tri Pr R n_pool_there [a0, a1] h K :=
  tri_of_funP (by kernel_rfl) (fun _ _ _ _ h => h) (fun _ _ _ _ h => h) Tryz.func107 (by rw [q_pool_there]; exact hk)
/-- bastion/pool.with -/
def p_pool_with (S : FuncId → List AVal → AHeap A → (AVal → AHeap A → Prop) → Prop) (G : Nat → AHeap A → List AVal → (List AVal → AHeap A → Prop) → Prop) (a0 a1 a2 : AVal) (h : AHeap A) (K : AVal → AHeap A → Prop) : Prop :=
 boxP t_api_Address 3 a2 h fun v1 h =>
 S n_slices_Clone_api_Address [a0] h fun v2 h =>
 ldP 3 true v1 h fun v3 =>
 idxP 3 v2 a1 fun v4 =>
 stP 3 v4 v3 h fun h =>
 K v2 h
theorem q_pool_with (S : FuncId → List AVal → AHeap A → (AVal → AHeap A → Prop) → Prop) (G : Nat → AHeap A → List AVal → (List AVal → AHeap A → Prop) → Prop) (a0 a1 a2 : AVal) (h : AHeap A) (K : AVal → AHeap A → Prop) : funP Tryz.prog S G Tryz.f108 .leaf [a0, a1, a2] h K = p_pool_with S G a0 a1 a2 h K := by kernel_rfl
theorem c_pool_with {R : Adts A} {h : AHeap A} {K : AVal → AHeap A → Prop} {a0 a1 a2 : AVal} (hk : p_pool_with (Tri Pr R) (Gives Pr R) a0 a1 a2 h K) : Tri Pr R n_pool_with [a0, a1, a2] h K :=
  tri_of_funP (by kernel_rfl) (fun _ _ _ _ h => h) (fun _ _ _ _ h => h) Tryz.func108 (by rw [q_pool_with]; exact hk)
/-- slices.Index[[]int,int] -/
def p_slices_Index_int (S : FuncId → List AVal → AHeap A → (AVal → AHeap A → Prop) → Prop) (G : Nat → AHeap A → List AVal → (List AVal → AHeap A → Prop) → Prop) (a0 a1 : AVal) (h : AHeap A) (K : AVal → AHeap A → Prop) : Prop :=
 lenP a0 fun v1 =>
 loopP G (fun v9 h k3 =>
 (fun v2 =>
 binP .lss .other v2 v1 fun v4 =>
 iteP v4
 (idxP 1 a0 v2 fun v5 =>
 ldP 1 false v5 h fun v6 =>
 binP .eql .other a1 v6 fun v7 =>
 iteP v7
 (K v2 h)
 (binP .add .other v2 (.int .i64 1) fun v8 =>
 k3 [v8] h))
 (K (.int .i64 (-1)) h)) (v9.getD 0 .any)) [.int .i64 0] h
theorem q_slices_Index_int (S : FuncId → List AVal → AHeap A → (AVal → AHeap A → Prop) → Prop) (G : Nat → AHeap A → List AVal → (List AVal → AHeap A → Prop) → Prop) (a0 a1 : AVal) (h : AHeap A) (K : AVal → AHeap A → Prop) : funP Tryz.prog S G Tryz.f109 (.two none .leaf (.two none (.two none .leaf (.one [] (.one [8] .leaf))) .leaf)) [a0, a1] h K = p_slices_Index_int S G a0 a1 h K := by kernel_rfl
theorem c_slices_Index_int {R : Adts A} {h : AHeap A} {K : AVal → AHeap A → Prop} {a0 a1 : AVal} (hk : p_slices_Index_int (Tri Pr R) (Gives Pr R) a0 a1 h K) : Tri Pr R n_slices_Index_int [a0, a1] h K :=
  tri_of_funP (by kernel_rfl) (fun _ _ _ _ h => h) (fun _ _ _ _ h => h) Tryz.func109 (by rw [q_slices_Index_int]; exact hk)
/-- bastion/totp.TickMay -/
def p_totp_TickMay (S : FuncId → List AVal → AHeap A → (AVal → AHeap A → Prop) → Prop) (G : Nat → AHeap A → List AVal → (List AVal → AHeap A → Prop) → Prop) (a0 : AVal) (h : AHeap A) (K : AVal → AHeap A → Prop) : Prop :=
 binP .geq .other a0 (.int .i64 0) fun v1 =>
 condP v1 true (fun k2 =>
 binP .leq .other a0 (.int .i64 1048575) fun v3 =>
 k2 v3 h)
 (.bool false) h fun v4 h =>
 K v4 h
theorem q_totp_TickMay (S : FuncId → List AVal → AHeap A → (AVal → AHeap A → Prop) → Prop) (G : Nat → AHeap A → List AVal → (List AVal → AHeap A → Prop) → Prop) (a0 : AVal) (h : AHeap A) (K : AVal → AHeap A → Prop) : funP Tryz.prog S G Tryz.f110 .leaf [a0] h K = p_totp_TickMay S G a0 h K := by kernel_rfl
theorem c_totp_TickMay {R : Adts A} {h : AHeap A} {K : AVal → AHeap A → Prop} {a0 : AVal} (hk : p_totp_TickMay (Tri Pr R) (Gives Pr R) a0 h K) : Tri Pr R n_totp_TickMay [a0] h K :=
  tri_of_funP (by kernel_rfl) (fun _ _ _ _ h => h) (fun _ _ _ _ h => h) Tryz.func110 (by rw [q_totp_TickMay]; exact hk)
/-- bastion/lock.Open -/
def p_lock_Open (S : FuncId → List AVal → AHeap A → (AVal → AHeap A → Prop) → Prop) (G : Nat → AHeap A → List AVal → (List AVal → AHeap A → Prop) → Prop) (a0 a1 : AVal) (h : AHeap A) (K : AVal → AHeap A → Prop) : Prop :=
 boxP t_api_Lock 2 a0 h fun v1 h =>
 fadP 1 v1 fun v2 =>
 ldP 1 false v2 h fun v3 =>
 binP .geq .other a1 v3 fun v4 =>
 K v4 h
theorem q_lock_Open (S : FuncId → List AVal → AHeap A → (AVal → AHeap A → Prop) → Prop) (G : Nat → AHeap A → List AVal → (List AVal → AHeap A → Prop) → Prop) (a0 a1 : AVal) (h : AHeap A) (K : AVal → AHeap A → Prop) : funP Tryz.prog S G Tryz.f111 .leaf [a0, a1] h K = p_lock_Open S G a0 a1 h K := by kernel_rfl
theorem c_lock_Open {R : Adts A} {h : AHeap A} {K : AVal → AHeap A → Prop} {a0 a1 : AVal} (hk : p_lock_Open (Tri Pr R) (Gives Pr R) a0 a1 h K) : Tri Pr R n_lock_Open [a0, a1] h K :=
  tri_of_funP (by kernel_rfl) (fun _ _ _ _ h => h) (fun _ _ _ _ h => h) Tryz.func111 (by rw [q_lock_Open]; exact hk)
/-- slices.rotateLeft[bastion/api.User] -/
def p_slices_rotateLeft_api_User (S : FuncId → List AVal → AHeap A → (AVal → AHeap A → Prop) → Prop) (G : Nat → AHeap A → List AVal → (List AVal → AHeap A → Prop) → Prop) (a0 a1 : AVal) (h : AHeap A) (K : AVal → AHeap A → Prop) : Prop :=
 rslP 9 a0 none (some a1) none fun v1 =>
 S n_slices_Reverse_api_User [v1] h fun v2 h =>
 rslP 9 a0 (some a1) none none fun v3 =>
 S n_slices_Reverse_api_User [v3] h fun v4 h =>
 S n_slices_Reverse_api_User [a0] h fun v5 h =>
 K (.tup []) h
theorem q_slices_rotateLeft_api_User (S : FuncId → List AVal → AHeap A → (AVal → AHeap A → Prop) → Prop) (G : Nat → AHeap A → List AVal → (List AVal → AHeap A → Prop) → Prop) (a0 a1 : AVal) (h : AHeap A) (K : AVal → AHeap A → Prop) : funP Tryz.prog S G Tryz.f112 .leaf [a0, a1] h K = p_slices_rotateLeft_api_User S G a0 a1 h K := by kernel_rfl
theorem c_slices_rotateLeft_api_User {R : Adts A} {h : AHeap A} {K : AVal → AHeap A → Prop} {a0 a1 : AVal} (hk : p_slices_rotateLeft_api_User (Tri Pr R) (Gives Pr R) a0 a1 h K) : Tri Pr R n_slices_rotateLeft_api_User [a0, a1] h K :=
  tri_of_funP (by kernel_rfl) (fun _ _ _ _ h => h) (fun _ _ _ _ h => h) Tryz.func112 (by rw [q_slices_rotateLeft_api_User]; exact hk)
/-- bastion/pool.may$1 -/
def p_pool_may_c1 (S : FuncId → List AVal → AHeap A → (AVal → AHeap A → Prop) → Prop) (G : Nat → AHeap A → List AVal → (List AVal → AHeap A → Prop) → Prop) (a0 : AVal) (h : AHeap A) (K : AVal → AHeap A → Prop) : Prop :=
 boxP t_api_Address 3 a0 h fun v1 h =>
 fadP 1 v1 fun v2 =>
 ldP 1 false v2 h fun v3 =>
 binP .neq .other v3 (.int .i64 (-1)) fun v4 =>
 condP v4 true (fun k5 =>
 fadP 1 v1 fun v6 =>
 ldP 1 false v6 h fun v7 =>
 S n_pool_userMay [v7] h fun v8 h =>
 notP v8 fun v9 =>
 k5 v9 h)
 (.bool false) h fun v10 h =>
 condP v10 false (fun k11 =>
 fadP 2 v1 fun v12 =>
 ldP 1 false v12 h fun v13 =>
 binP .lss .other v13 (.int .i64 0) fun v14 =>
 k11 v14 h)
 (.bool true) h fun v15 h =>
 K v15 h
theorem q_pool_may_c1 (S : FuncId → List AVal → AHeap A → (AVal → AHeap A → Prop) → Prop) (G : Nat → AHeap A → List AVal → (List AVal → AHeap A → Prop) → Prop) (a0 : AVal) (h : AHeap A) (K : AVal → AHeap A → Prop) : funP Tryz.prog S G Tryz.f113 .leaf [a0] h K = p_pool_may_c1 S G a0 h K := by kernel_rfl
theorem c_pool_may_c1 {R : Adts A} {h : AHeap A} {K : AVal → AHeap A → Prop} {a0 : AVal} (hk : p_pool_may_c1 (Tri Pr R) (Gives Pr R) a0 h K) : Tri Pr R n_pool_may_c1 [a0] h K :=
  tri_of_funP (by kernel_rfl) (fun _ _ _ _ h => h) (fun _ _ _ _ h => h) Tryz.func113 (by rw [q_pool_may_c1]; exact hk)
/-- slices.ContainsFunc[[]bastion/api.Address,bastion/api.Address] -/
def p_slices_ContainsFunc_api_Address (S : FuncId → List AVal → AHeap A → (AVal → AHeap A → Prop) → Prop) (G : Nat → AHeap A → List AVal → (List AVal → AHeap A → Prop) → Prop) (a0 a1 : AVal) (h : AHeap A) (K : AVal → AHeap A → Prop) : Prop :=
 S n_slices_IndexFunc_api_Address [a0, a1] h fun v1 h =>
 binP .geq .other v1 (.int .i64 0) fun v2 =>
 K v2 h
theorem q_slices_ContainsFunc_api_Address (S : FuncId → List AVal → AHeap A → (AVal → AHeap A → Prop) → Prop) (G : Nat → AHeap A → List AVal → (List AVal → AHeap A → Prop) → Prop) (a0 a1 : AVal) (h : AHeap A) (K : AVal → AHeap A → Prop) : funP Tryz.prog S G Tryz.f114 .leaf [a0, a1] h K = p_slices_ContainsFunc_api_Address S G a0 a1 h K := by kernel_rfl
theorem c_slices_ContainsFunc_api_Address {R : Adts A} {h : AHeap A} {K : AVal → AHeap A → Prop} {a0 a1 : AVal} (hk : p_slices_ContainsFunc_api_Address (Tri Pr R) (Gives Pr R) a0 a1 h K) : Tri Pr R n_slices_ContainsFunc_api_Address [a0, a1] h K :=
  tri_of_funP (by kernel_rfl) (fun _ _ _ _ h => h) (fun _ _ _ _ h => h) Tryz.func114 (by rw [q_slices_ContainsFunc_api_Address]; exact hk)
/-- slices.Reverse[[]bastion/api.User,bastion/api.User] -/
def p_slices_Reverse_api_User (S : FuncId → List AVal → AHeap A → (AVal → AHeap A → Prop) → Prop) (G : Nat → AHeap A → List AVal → (List AVal → AHeap A → Prop) → Prop) (a0 : AVal) (h : AHeap A) (K : AVal → AHeap A → Prop) : Prop :=
 lenP a0 fun v1 =>
 binP .sub .other v1 (.int .i64 1) fun v2 =>
 loopP G (fun v15 h k5 =>
 (fun v3 v4 =>
 binP .lss .other v3 v4 fun v6 =>
 iteP v6
 (idxP 9 a0 v4 fun v7 =>
 idxP 9 a0 v3 fun v8 =>
 ldP 9 true v7 h fun v9 =>
 ldP 9 true v8 h fun v10 =>
 ldV 9 true v7 h = some v9 ∧
 idxP 9 a0 v3 fun v11 =>
 stP 9 v11 v9 h fun h =>
 idxP 9 a0 v4 fun v12 =>
 stP 9 v12 v10 h fun h =>
 binP .add .other v3 (.int .i64 1) fun v13 =>
 binP .sub .other v4 (.int .i64 1) fun v14 =>
 k5 [v13, v14] h)
 (K (.tup []) h)) (v15.getD 0 .any) (v15.getD 1 .any)) [.int .i64 0, v2] h
theorem q_slices_Reverse_api_User (S : FuncId → List AVal → AHeap A → (AVal → AHeap A → Prop) → Prop) (G : Nat → AHeap A → List AVal → (List AVal → AHeap A → Prop) → Prop) (a0 : AVal) (h : AHeap A) (K : AVal → AHeap A → Prop) : funP Tryz.prog S G Tryz.f115 (.two none .leaf (.one [] (.one [2, 3] (.two none .leaf (.two none (.one [] (.draw none (.take 0 (.take 1 (.take 2 (.take 3 (.take 4 (.take 5 (.take 6 (.take 8 (.take 9 (.take 10 (.load 7 (.alt 11 (.take 12 (.alt 13 (.take 14 (.alt 15 .stop .stop)) .stop)) .stop)))))))))))))) .leaf))))) [a0] h K = p_slices_Reverse_api_User S G a0 h K := by kernel_rfl
theorem c_slices_Reverse_api_User {R : Adts A} {h : AHeap A} {K : AVal → AHeap A → Prop} {a0 : AVal} (hk : p_slices_Reverse_api_User (Tri Pr R) (Gives Pr R) a0 h K) : Tri Pr R n_slices_Reverse_api_User [a0] h K :=
  tri_of_funP (by kernel_rfl) (fun _ _ _ _ h => h) (fun _ _ _ _ h => h) Tryz.func115 (by rw [q_slices_Reverse_api_User]; exact hk)
/-- slices.IndexFunc[[]bastion/api.Address,bastion/api.Address] -/
def p_slices_IndexFunc_api_Address (S : FuncId → List AVal → AHeap A → (AVal → AHeap A → Prop) → Prop) (G : Nat → AHeap A → List AVal → (List AVal → AHeap A → Prop) → Prop) (a0 a1 : AVal) (h : AHeap A) (K : AVal → AHeap A → Prop) : Prop :=
 lenP a0 fun v1 =>
 loopP G (fun v9 h k3 =>
 (fun v2 =>
 binP .lss .other v2 v1 fun v4 =>
 iteP v4
 (idxP 3 a0 v2 fun v5 =>
 ldP 3 true v5 h fun v6 =>
 dynP Pr S a1 [v6] h fun v7 h =>
 iteP v7
 (K v2 h)
 (binP .add .other v2 (.int .i64 1) fun v8 =>
 k3 [v8] h))
 (K (.int .i64 (-1)) h)) (v9.getD 0 .any)) [.int .i64 0] h
theorem q_slices_IndexFunc_api_Address (S : FuncId → List AVal → AHeap A → (AVal → AHeap A → Prop) → Prop) (G : Nat → AHeap A → List AVal → (List AVal → AHeap A → Prop) → Prop) (a0 a1 : AVal) (h : AHeap A) (K : AVal → AHeap A → Prop) : funP Tryz.prog S G Tryz.f116 (.two none .leaf (.two none (.two none .leaf (.one [] (.one [8] .leaf))) .leaf)) [a0, a1] h K = p_slices_IndexFunc_api_Address S G a0 a1 h K := by kernel_rfl
theorem c_slices_IndexFunc_api_Address {R : Adts A} {h : AHeap A} {K : AVal → AHeap A → Prop} {a0 a1 : AVal} (hk : p_slices_IndexFunc_api_Address (Tri Pr R) (Gives Pr R) a0 a1 h K) : Tri Pr R n_slices_IndexFunc_api_Address [a0, a1] h K :=
  tri_of_funP (by kernel_rfl) (fun _ _ _ _ h => h) (fun _ _ _ _ h => h) Tryz.func116 (by rw [q_slices_IndexFunc_api_Address]; exact hk)
/-- (*bastion/audit.refused).Unwrap -/
def p_audit_refused_Unwrap (S : FuncId → List AVal → AHeap A → (AVal → AHeap A → Prop) → Prop) (G : Nat → AHeap A → List AVal → (List AVal → AHeap A → Prop) → Prop) (a0 : AVal) (h : AHeap A) (K : AVal → AHeap A → Prop) : Prop :=
 nilP a0 fun v1 =>
 fadP 1 v1 fun v2 =>
 ldP 1 false v2 h fun v3 =>
 K v3 h
theorem q_audit_refused_Unwrap (S : FuncId → List AVal → AHeap A → (AVal → AHeap A → Prop) → Prop) (G : Nat → AHeap A → List AVal → (List AVal → AHeap A → Prop) → Prop) (a0 : AVal) (h : AHeap A) (K : AVal → AHeap A → Prop) : funP Tryz.prog S G Tryz.f134 .leaf [a0] h K = p_audit_refused_Unwrap S G a0 h K := by kernel_rfl
theorem c_audit_refused_Unwrap {R : Adts A} {h : AHeap A} {K : AVal → AHeap A → Prop} {a0 : AVal} (hk : p_audit_refused_Unwrap (Tri Pr R) (Gives Pr R) a0 h K) : Tri Pr R n_audit_refused_Unwrap [a0] h K :=
  tri_of_funP (by kernel_rfl) (fun _ _ _ _ h => h) (fun _ _ _ _ h => h) Tryz.func134 (by rw [q_audit_refused_Unwrap]; exact hk)
end Go.AI
