/- The functions as texts over the abstract heap. -/
import Derived.Test.YtlhmikjjnndjcaaNm
import Derived.KernelRfl
set_option linter.all false
namespace Go.AI
open Go.Proofs
set_option maxRecDepth 1000000
variable {A : Type}
/-- bastion/bastionref12.num -/
def p_ref12_num (S : FuncId → List AVal → AHeap A → (AVal → AHeap A → Prop) → Prop) (G : Nat → AHeap A → List AVal → (List AVal → AHeap A → Prop) → Prop) (a0 : AVal) (h : AHeap A) (K : AVal → AHeap A → Prop) : Prop :=
 binP .geq .other a0 (.int .i64 0) fun v1 =>
 condP v1 true (fun k2 =>
 binP .leq .other a0 (.int .i64 1073741823) fun v3 =>
 k2 v3 h)
 (.bool false) h fun v4 h =>
 K v4 h
theorem q_ref12_num (S : FuncId → List AVal → AHeap A → (AVal → AHeap A → Prop) → Prop) (G : Nat → AHeap A → List AVal → (List AVal → AHeap A → Prop) → Prop) (a0 : AVal) (h : AHeap A) (K : AVal → AHeap A → Prop) : funP Try.prog S G Try.f94 .leaf [a0] h K = p_ref12_num S G a0 h K := by kernel_rfl
theorem c_ref12_num {R : Adts A} {h : AHeap A} {K : AVal → AHeap A → Prop} {a0 : AVal} (hk : p_ref12_num (Tri Pr R) (Gives Pr R) a0 h K) : Tri Pr R n_ref12_num [a0] h K :=
  tri_of_funP (by kernel_rfl) (fun _ _ _ _ h => h) (fun _ _ _ _ h => h) Try.func94 (by rw [q_ref12_num]; exact hk)
/-- bastion/bastionref1.Nums -/
def p_ref1_Nums (S : FuncId → List AVal → AHeap A → (AVal → AHeap A → Prop) → Prop) (G : Nat → AHeap A → List AVal → (List AVal → AHeap A → Prop) → Prop) (a0 : AVal) (h : AHeap A) (K : AVal → AHeap A → Prop) : Prop :=
 loopP G (fun v13 h k3 =>
 (fun v1 v2 =>
 lenP a0 fun v4 =>
 binP .lss .other v2 v4 fun v5 =>
 iteP v5
 (idxP 1 a0 v2 fun v6 =>
 ldP 1 false v6 h fun v7 =>
 S n_ref1_Num [v7] h fun v8 h =>
 extP v8 0 fun v9 =>
 extP v8 1 fun v10 =>
 binP .add .other v1 v9 fun v11 =>
 binP .add .other v2 (.int .i64 1) fun v12 =>
 k3 [v11, v12] h)
 (K v1 h)) (v13.getD 0 .any) (v13.getD 1 .any)) [.str [], .int .i64 0] h
theorem q_ref1_Nums (S : FuncId → List AVal → AHeap A → (AVal → AHeap A → Prop) → Prop) (G : Nat → AHeap A → List AVal → (List AVal → AHeap A → Prop) → Prop) (a0 : AVal) (h : AHeap A) (K : AVal → AHeap A → Prop) : funP Try.prog S G Try.f95 (.two none .leaf (.two none .leaf (.two none (.two none .leaf (.one [] (.one [3, 4] .leaf))) .leaf))) [a0] h K = p_ref1_Nums S G a0 h K := by kernel_rfl
theorem c_ref1_Nums {R : Adts A} {h : AHeap A} {K : AVal → AHeap A → Prop} {a0 : AVal} (hk : p_ref1_Nums (Tri Pr R) (Gives Pr R) a0 h K) : Tri Pr R n_ref1_Nums [a0] h K :=
  tri_of_funP (by kernel_rfl) (fun _ _ _ _ h => h) (fun _ _ _ _ h => h) Try.func95 (by rw [q_ref1_Nums]; exact hk)
/-- bastion/field.Num -/
def p_field_Num (S : FuncId → List AVal → AHeap A → (AVal → AHeap A → Prop) → Prop) (G : Nat → AHeap A → List AVal → (List AVal → AHeap A → Prop) → Prop) (a0 : AVal) (h : AHeap A) (K : AVal → AHeap A → Prop) : Prop :=
 S n_field_NumMay [a0] h fun v1 h =>
 notP v1 fun v2 =>
 iteP v2
 (K (.tup [.str [], .int .i64 100]) h)
 (S n_field_width [a0] h fun v3 h =>
 cviP .u8 v3 fun v4 =>
 bslP t_uint8 1 [.int .u8 0] [(0, 1, v4)] h fun v5 h =>
 joinP G h.length (fun k6 =>
 joinP G h.length (fun k7 =>
 joinP G h.length (fun k8 =>
 joinP G h.length (fun k9 =>
 binP .eql .other v3 (.int .i64 4) fun v10 =>
 iteP v10
 (binP .shr .other a0 (.int .u64 24) fun v11 =>
 cviP .u8 v11 fun v12 =>
 bslP t_uint8 1 [.int .u8 0] [(0, 1, v12)] h fun v13 h =>
 appP t_uint8 1 1 v5 v13 h fun v14 h =>
 k9 [v14] h)
 (binP .eql .other v3 (.int .i64 3) fun v15 =>
 iteP v15
 (k9 [v5] h)
 (binP .eql .other v3 (.int .i64 2) fun v16 =>
 iteP v16
 (k8 [v5] h)
 (binP .eql .other v3 (.int .i64 1) fun v17 =>
 iteP v17
 (k7 [v5] h)
 (k6 [v5] h)))))
 (fun v23 h =>
 (fun v18 =>
 binP .shr .other a0 (.int .u64 16) fun v19 =>
 cviP .u8 v19 fun v20 =>
 bslP t_uint8 1 [.int .u8 0] [(0, 1, v20)] h fun v21 h =>
 appP t_uint8 1 1 v18 v21 h fun v22 h =>
 k8 [v22] h) (v23.getD 0 .any)))
 (fun v29 h =>
 (fun v24 =>
 binP .shr .other a0 (.int .u64 8) fun v25 =>
 cviP .u8 v25 fun v26 =>
 bslP t_uint8 1 [.int .u8 0] [(0, 1, v26)] h fun v27 h =>
 appP t_uint8 1 1 v24 v27 h fun v28 h =>
 k7 [v28] h) (v29.getD 0 .any)))
 (fun v34 h =>
 (fun v30 =>
 cviP .u8 a0 fun v31 =>
 bslP t_uint8 1 [.int .u8 0] [(0, 1, v31)] h fun v32 h =>
 appP t_uint8 1 1 v30 v32 h fun v33 h =>
 k6 [v33] h) (v34.getD 0 .any)))
 (fun v37 h =>
 (fun v35 =>
 b2sP v35 h fun v36 =>
 K (.tup [v36, .int .i64 0]) h) (v37.getD 0 .any)))
theorem q_field_Num (S : FuncId → List AVal → AHeap A → (AVal → AHeap A → Prop) → Prop) (G : Nat → AHeap A → List AVal → (List AVal → AHeap A → Prop) → Prop) (a0 : AVal) (h : AHeap A) (K : AVal → AHeap A → Prop) : funP Try.prog S G Try.f96 (.two none .leaf (.two none .leaf (.two none .leaf (.two none .leaf (.two (some [5]) (.two none .leaf (.one [] (.two (some [5]) (.one [] (.two (some [5]) (.one [] (.two (some [5]) .leaf .leaf)) .leaf)) .leaf))) .leaf))))) [a0] h K = p_field_Num S G a0 h K := by kernel_rfl
theorem c_field_Num {R : Adts A} {h : AHeap A} {K : AVal → AHeap A → Prop} {a0 : AVal} (hk : p_field_Num (Tri Pr R) (Gives Pr R) a0 h K) : Tri Pr R n_field_Num [a0] h K :=
  tri_of_funP (by kernel_rfl) (fun _ _ _ _ h => h) (fun _ _ _ _ h => h) Try.func96 (by rw [q_field_Num]; exact hk)
/-- bastion/totp.stepMay -/
def p_totp_stepMay (S : FuncId → List AVal → AHeap A → (AVal → AHeap A → Prop) → Prop) (G : Nat → AHeap A → List AVal → (List AVal → AHeap A → Prop) → Prop) (a0 : AVal) (h : AHeap A) (K : AVal → AHeap A → Prop) : Prop :=
 binP .geq .other a0 (.int .i64 1) fun v1 =>
 condP v1 true (fun k2 =>
 binP .leq .other a0 (.int .i64 1048575) fun v3 =>
 k2 v3 h)
 (.bool false) h fun v4 h =>
 K v4 h
theorem q_totp_stepMay (S : FuncId → List AVal → AHeap A → (AVal → AHeap A → Prop) → Prop) (G : Nat → AHeap A → List AVal → (List AVal → AHeap A → Prop) → Prop) (a0 : AVal) (h : AHeap A) (K : AVal → AHeap A → Prop) : funP Try.prog S G Try.f97 .leaf [a0] h K = p_totp_stepMay S G a0 h K := by kernel_rfl
theorem c_totp_stepMay {R : Adts A} {h : AHeap A} {K : AVal → AHeap A → Prop} {a0 : AVal} (hk : p_totp_stepMay (Tri Pr R) (Gives Pr R) a0 h K) : Tri Pr R n_totp_stepMay [a0] h K :=
  tri_of_funP (by kernel_rfl) (fun _ _ _ _ h => h) (fun _ _ _ _ h => h) Try.func97 (by rw [q_totp_stepMay]; exact hk)
/-- bastion/totp.TickMay -/
def p_totp_TickMay (S : FuncId → List AVal → AHeap A → (AVal → AHeap A → Prop) → Prop) (G : Nat → AHeap A → List AVal → (List AVal → AHeap A → Prop) → Prop) (a0 : AVal) (h : AHeap A) (K : AVal → AHeap A → Prop) : Prop :=
 binP .geq .other a0 (.int .i64 0) fun v1 =>
 condP v1 true (fun k2 =>
 binP .leq .other a0 (.int .i64 1048575) fun v3 =>
 k2 v3 h)
 (.bool false) h fun v4 h =>
 K v4 h
theorem q_totp_TickMay (S : FuncId → List AVal → AHeap A → (AVal → AHeap A → Prop) → Prop) (G : Nat → AHeap A → List AVal → (List AVal → AHeap A → Prop) → Prop) (a0 : AVal) (h : AHeap A) (K : AVal → AHeap A → Prop) : funP Try.prog S G Try.f98 .leaf [a0] h K = p_totp_TickMay S G a0 h K := by kernel_rfl
theorem c_totp_TickMay {R : Adts A} {h : AHeap A} {K : AVal → AHeap A → Prop} {a0 : AVal} (hk : p_totp_TickMay (Tri Pr R) (Gives Pr R) a0 h K) : Tri Pr R n_totp_TickMay [a0] h K :=
  tri_of_funP (by kernel_rfl) (fun _ _ _ _ h => h) (fun _ _ _ _ h => h) Try.func98 (by rw [q_totp_TickMay]; exact hk)
/-- bastion/craft.is -/
def p_craft_is (S : FuncId → List AVal → AHeap A → (AVal → AHeap A → Prop) → Prop) (G : Nat → AHeap A → List AVal → (List AVal → AHeap A → Prop) → Prop) (a0 a1 a2 : AVal) (h : AHeap A) (K : AVal → AHeap A → Prop) : Prop :=
 S n_book_Book_Find [a0, a1] h fun v1 h =>
 extP v1 0 fun v2 =>
 extP v1 1 fun v3 =>
 condP v3 true (fun k4 =>
 binP .eql .other v2 a2 fun v5 =>
 k4 v5 h)
 (.bool false) h fun v6 h =>
 K v6 h
theorem q_craft_is (S : FuncId → List AVal → AHeap A → (AVal → AHeap A → Prop) → Prop) (G : Nat → AHeap A → List AVal → (List AVal → AHeap A → Prop) → Prop) (a0 a1 a2 : AVal) (h : AHeap A) (K : AVal → AHeap A → Prop) : funP Try.prog S G Try.f99 .leaf [a0, a1, a2] h K = p_craft_is S G a0 a1 a2 h K := by kernel_rfl
theorem c_craft_is {R : Adts A} {h : AHeap A} {K : AVal → AHeap A → Prop} {a0 a1 a2 : AVal} (hk : p_craft_is (Tri Pr R) (Gives Pr R) a0 a1 a2 h K) : Tri Pr R n_craft_is [a0, a1, a2] h K :=
  tri_of_funP (by kernel_rfl) (fun _ _ _ _ h => h) (fun _ _ _ _ h => h) Try.func99 (by rw [q_craft_is]; exact hk)
/-- bastion/craft.keyed -/
def p_craft_keyed (S : FuncId → List AVal → AHeap A → (AVal → AHeap A → Prop) → Prop) (G : Nat → AHeap A → List AVal → (List AVal → AHeap A → Prop) → Prop) (a0 a1 : AVal) (h : AHeap A) (K : AVal → AHeap A → Prop) : Prop :=
 S n_field_Num [a1] h fun v1 h =>
 extP v1 0 fun v2 =>
 extP v1 1 fun v3 =>
 binP .add .other a0 v2 fun v4 =>
 binP .eql .other v3 (.int .i64 0) fun v5 =>
 K (.tup [v4, v5]) h
theorem q_craft_keyed (S : FuncId → List AVal → AHeap A → (AVal → AHeap A → Prop) → Prop) (G : Nat → AHeap A → List AVal → (List AVal → AHeap A → Prop) → Prop) (a0 a1 : AVal) (h : AHeap A) (K : AVal → AHeap A → Prop) : funP Try.prog S G Try.f100 .leaf [a0, a1] h K = p_craft_keyed S G a0 a1 h K := by kernel_rfl
theorem c_craft_keyed {R : Adts A} {h : AHeap A} {K : AVal → AHeap A → Prop} {a0 a1 : AVal} (hk : p_craft_keyed (Tri Pr R) (Gives Pr R) a0 a1 h K) : Tri Pr R n_craft_keyed [a0, a1] h K :=
  tri_of_funP (by kernel_rfl) (fun _ _ _ _ h => h) (fun _ _ _ _ h => h) Try.func100 (by rw [q_craft_keyed]; exact hk)
/-- strings.HasPrefix -/
def p_strings_HasPrefix (S : FuncId → List AVal → AHeap A → (AVal → AHeap A → Prop) → Prop) (G : Nat → AHeap A → List AVal → (List AVal → AHeap A → Prop) → Prop) (a0 a1 : AVal) (h : AHeap A) (K : AVal → AHeap A → Prop) : Prop :=
 S n_internal_stringslite_HasPrefix [a0, a1] h fun v1 h =>
 K v1 h
theorem q_strings_HasPrefix (S : FuncId → List AVal → AHeap A → (AVal → AHeap A → Prop) → Prop) (G : Nat → AHeap A → List AVal → (List AVal → AHeap A → Prop) → Prop) (a0 a1 : AVal) (h : AHeap A) (K : AVal → AHeap A → Prop) : funP Try.prog S G Try.f101 .leaf [a0, a1] h K = p_strings_HasPrefix S G a0 a1 h K := by kernel_rfl
theorem c_strings_HasPrefix {R : Adts A} {h : AHeap A} {K : AVal → AHeap A → Prop} {a0 a1 : AVal} (hk : p_strings_HasPrefix (Tri Pr R) (Gives Pr R) a0 a1 h K) : Tri Pr R n_strings_HasPrefix [a0, a1] h K :=
  tri_of_funP (by kernel_rfl) (fun _ _ _ _ h => h) (fun _ _ _ _ h => h) Try.func101 (by rw [q_strings_HasPrefix]; exact hk)
/-- (*bastion/bastionref1.Book).Term -/
def p_ref1_Book_Term (S : FuncId → List AVal → AHeap A → (AVal → AHeap A → Prop) → Prop) (G : Nat → AHeap A → List AVal → (List AVal → AHeap A → Prop) → Prop) (a0 a1 : AVal) (h : AHeap A) (K : AVal → AHeap A → Prop) : Prop :=
 binP .lss .other a1 (.int .i64 0) fun v1 =>
 condP v1 false (fun k2 =>
 nilP a0 fun v3 =>
 fadP 1 v3 fun v4 =>
 ldP 1 false v4 h fun v5 =>
 lenP v5 fun v6 =>
 binP .geq .other a1 v6 fun v7 =>
 k2 v7 h)
 (.bool true) h fun v8 h =>
 iteP v8
 (K (.tup [.str [], .int .i64 202]) h)
 (nilP a0 fun v9 =>
 fadP 1 v9 fun v10 =>
 ldP 1 false v10 h fun v11 =>
 idxP 1 v11 a1 fun v12 =>
 ldP 1 false v12 h fun v13 =>
 K (.tup [v13, .int .i64 0]) h)
theorem q_ref1_Book_Term (S : FuncId → List AVal → AHeap A → (AVal → AHeap A → Prop) → Prop) (G : Nat → AHeap A → List AVal → (List AVal → AHeap A → Prop) → Prop) (a0 a1 : AVal) (h : AHeap A) (K : AVal → AHeap A → Prop) : funP Try.prog S G Try.f102 .leaf [a0, a1] h K = p_ref1_Book_Term S G a0 a1 h K := by kernel_rfl
theorem c_ref1_Book_Term {R : Adts A} {h : AHeap A} {K : AVal → AHeap A → Prop} {a0 a1 : AVal} (hk : p_ref1_Book_Term (Tri Pr R) (Gives Pr R) a0 a1 h K) : Tri Pr R n_ref1_Book_Term [a0, a1] h K :=
  tri_of_funP (by kernel_rfl) (fun _ _ _ _ h => h) (fun _ _ _ _ h => h) Try.func102 (by rw [q_ref1_Book_Term]; exact hk)
/-- bastion/bastionref1.num -/
def p_ref1_num (S : FuncId → List AVal → AHeap A → (AVal → AHeap A → Prop) → Prop) (G : Nat → AHeap A → List AVal → (List AVal → AHeap A → Prop) → Prop) (a0 : AVal) (h : AHeap A) (K : AVal → AHeap A → Prop) : Prop :=
 binP .geq .other a0 (.int .i64 0) fun v1 =>
 condP v1 true (fun k2 =>
 binP .leq .other a0 (.int .i64 1073741823) fun v3 =>
 k2 v3 h)
 (.bool false) h fun v4 h =>
 K v4 h
theorem q_ref1_num (S : FuncId → List AVal → AHeap A → (AVal → AHeap A → Prop) → Prop) (G : Nat → AHeap A → List AVal → (List AVal → AHeap A → Prop) → Prop) (a0 : AVal) (h : AHeap A) (K : AVal → AHeap A → Prop) : funP Try.prog S G Try.f103 .leaf [a0] h K = p_ref1_num S G a0 h K := by kernel_rfl
theorem c_ref1_num {R : Adts A} {h : AHeap A} {K : AVal → AHeap A → Prop} {a0 : AVal} (hk : p_ref1_num (Tri Pr R) (Gives Pr R) a0 h K) : Tri Pr R n_ref1_num [a0] h K :=
  tri_of_funP (by kernel_rfl) (fun _ _ _ _ h => h) (fun _ _ _ _ h => h) Try.func103 (by rw [q_ref1_num]; exact hk)
/-- (*bastion/bastionref1.Book).Find -/
def p_ref1_Book_Find (S : FuncId → List AVal → AHeap A → (AVal → AHeap A → Prop) → Prop) (G : Nat → AHeap A → List AVal → (List AVal → AHeap A → Prop) → Prop) (a0 a1 : AVal) (h : AHeap A) (K : AVal → AHeap A → Prop) : Prop :=
 loopP G (fun v15 h k2 =>
 (fun v1 =>
 nilP a0 fun v3 =>
 fadP 1 v3 fun v4 =>
 ldP 1 false v4 h fun v5 =>
 lenP v5 fun v6 =>
 binP .lss .other v1 v6 fun v7 =>
 iteP v7
 (nilP a0 fun v8 =>
 fadP 1 v8 fun v9 =>
 ldP 1 false v9 h fun v10 =>
 idxP 1 v10 v1 fun v11 =>
 ldP 1 false v11 h fun v12 =>
 binP .eql .other v12 a1 fun v13 =>
 iteP v13
 (K (.tup [v1, .bool true]) h)
 (binP .add .other v1 (.int .i64 1) fun v14 =>
 k2 [v14] h))
 (K (.tup [.int .i64 0, .bool false]) h)) (v15.getD 0 .any)) [.int .i64 0] h
theorem q_ref1_Book_Find (S : FuncId → List AVal → AHeap A → (AVal → AHeap A → Prop) → Prop) (G : Nat → AHeap A → List AVal → (List AVal → AHeap A → Prop) → Prop) (a0 a1 : AVal) (h : AHeap A) (K : AVal → AHeap A → Prop) : funP Try.prog S G Try.f104 (.two none .leaf (.two none (.two none .leaf (.one [] (.one [6] .leaf))) .leaf)) [a0, a1] h K = p_ref1_Book_Find S G a0 a1 h K := by kernel_rfl
theorem c_ref1_Book_Find {R : Adts A} {h : AHeap A} {K : AVal → AHeap A → Prop} {a0 a1 : AVal} (hk : p_ref1_Book_Find (Tri Pr R) (Gives Pr R) a0 a1 h K) : Tri Pr R n_ref1_Book_Find [a0, a1] h K :=
  tri_of_funP (by kernel_rfl) (fun _ _ _ _ h => h) (fun _ _ _ _ h => h) Try.func104 (by rw [q_ref1_Book_Find]; exact hk)
/-- bastion/craft.named -/
def p_craft_named (S : FuncId → List AVal → AHeap A → (AVal → AHeap A → Prop) → Prop) (G : Nat → AHeap A → List AVal → (List AVal → AHeap A → Prop) → Prop) (a0 a1 a2 : AVal) (h : AHeap A) (K : AVal → AHeap A → Prop) : Prop :=
 binP .eql .ptr a0 .nilp fun v1 =>
 iteP v1
 (K (.tup [.int .i64 0, .int .i64 1]) h)
 (notP a2 fun v2 =>
 iteP v2
 (K (.tup [.int .i64 0, .int .i64 300]) h)
 (S n_book_Book_Name [a0, a1] h fun v3 h =>
 extP v3 0 fun v4 =>
 extP v3 1 fun v5 =>
 binP .neq .other v5 (.int .i64 0) fun v6 =>
 iteP v6
 (K (.tup [.int .i64 0, .int .i64 300]) h)
 (K (.tup [v4, .int .i64 0]) h)))
theorem q_craft_named (S : FuncId → List AVal → AHeap A → (AVal → AHeap A → Prop) → Prop) (G : Nat → AHeap A → List AVal → (List AVal → AHeap A → Prop) → Prop) (a0 a1 a2 : AVal) (h : AHeap A) (K : AVal → AHeap A → Prop) : funP Try.prog S G Try.f105 .leaf [a0, a1, a2] h K = p_craft_named S G a0 a1 a2 h K := by kernel_rfl
theorem c_craft_named {R : Adts A} {h : AHeap A} {K : AVal → AHeap A → Prop} {a0 a1 a2 : AVal} (hk : p_craft_named (Tri Pr R) (Gives Pr R) a0 a1 a2 h K) : Tri Pr R n_craft_named [a0, a1, a2] h K :=
  tri_of_funP (by kernel_rfl) (fun _ _ _ _ h => h) (fun _ _ _ _ h => h) Try.func105 (by rw [q_craft_named]; exact hk)
/-- (*bastion/bastionref1.Book).made -/
def p_ref1_Book_made (S : FuncId → List AVal → AHeap A → (AVal → AHeap A → Prop) → Prop) (G : Nat → AHeap A → List AVal → (List AVal → AHeap A → Prop) → Prop) (a0 a1 : AVal) (h : AHeap A) (K : AVal → AHeap A → Prop) : Prop :=
 S n_ref1_Book_Name [a0, a1] h fun v1 h =>
 extP v1 0 fun v2 =>
 extP v1 1 fun v3 =>
 binP .neq .other v3 (.int .i64 0) fun v4 =>
 iteP v4
 (K (.tup [.int .i64 0, .int .i64 300]) h)
 (K (.tup [v2, .int .i64 0]) h)
theorem q_ref1_Book_made (S : FuncId → List AVal → AHeap A → (AVal → AHeap A → Prop) → Prop) (G : Nat → AHeap A → List AVal → (List AVal → AHeap A → Prop) → Prop) (a0 a1 : AVal) (h : AHeap A) (K : AVal → AHeap A → Prop) : funP Try.prog S G Try.f106 .leaf [a0, a1] h K = p_ref1_Book_made S G a0 a1 h K := by kernel_rfl
theorem c_ref1_Book_made {R : Adts A} {h : AHeap A} {K : AVal → AHeap A → Prop} {a0 a1 : AVal} (hk : p_ref1_Book_made (Tri Pr R) (Gives Pr R) a0 a1 h K) : Tri Pr R n_ref1_Book_made [a0, a1] h K :=
  tri_of_funP (by kernel_rfl) (fun _ _ _ _ h => h) (fun _ _ _ _ h => h) Try.func106 (by rw [q_ref1_Book_made]; exact hk)
/-- bastion/bastionref1.Num -/
def p_ref1_Num (S : FuncId → List AVal → AHeap A → (AVal → AHeap A → Prop) → Prop) (G : Nat → AHeap A → List AVal → (List AVal → AHeap A → Prop) → Prop) (a0 : AVal) (h : AHeap A) (K : AVal → AHeap A → Prop) : Prop :=
 S n_ref1_num [a0] h fun v1 h =>
 notP v1 fun v2 =>
 iteP v2
 (K (.tup [.str [], .int .i64 100]) h)
 (loopP G (fun v28 h k5 =>
 (fun v3 v4 =>
 binP .geq .other v4 (.int .i64 0) fun v6 =>
 iteP v6
 (joinP G h.length (fun k7 =>
 binP .mul .other (.int .i64 8) v4 fun v8 =>
 cviP .u64 v8 fun v9 =>
 binP .shr .other a0 v9 fun v10 =>
 cviP .u8 v10 fun v11 =>
 binP .neq .other v11 (.int .u8 0) fun v12 =>
 condP v12 false (fun k13 =>
 lenP v3 fun v14 =>
 binP .gtr .other v14 (.int .i64 0) fun v15 =>
 k13 v15 h)
 (.bool true) h fun v16 h =>
 iteP v16
 (bslP t_uint8 1 [.int .u8 0] [(0, 1, v11)] h fun v17 h =>
 appP t_uint8 1 1 v3 v17 h fun v18 h =>
 k7 [v18] h)
 (k7 [v3] h))
 (fun v21 h =>
 (fun v19 =>
 binP .sub .other v4 (.int .i64 1) fun v20 =>
 k5 [v19, v20] h) (v21.getD 0 .any)))
 (lenP v3 fun v22 =>
 cviP .u8 v22 fun v23 =>
 bslP t_uint8 1 [.int .u8 0] [(0, 1, v23)] h fun v24 h =>
 b2sP v24 h fun v25 =>
 b2sP v3 h fun v26 =>
 binP .add .other v25 v26 fun v27 =>
 K (.tup [v27, .int .i64 0]) h)) (v28.getD 0 .any) (v28.getD 1 .any)) [.nils, .int .i64 3] h)
theorem q_ref1_Num (S : FuncId → List AVal → AHeap A → (AVal → AHeap A → Prop) → Prop) (G : Nat → AHeap A → List AVal → (List AVal → AHeap A → Prop) → Prop) (a0 : AVal) (h : AHeap A) (K : AVal → AHeap A → Prop) : funP Try.prog S G Try.f107 (.two none .leaf (.two none .leaf (.two none .leaf (.two none (.two none .leaf (.one [] (.one [4, 5] (.two none .leaf (.two (some [4]) .leaf .leaf))))) .leaf)))) [a0] h K = p_ref1_Num S G a0 h K := by kernel_rfl
theorem c_ref1_Num {R : Adts A} {h : AHeap A} {K : AVal → AHeap A → Prop} {a0 : AVal} (hk : p_ref1_Num (Tri Pr R) (Gives Pr R) a0 h K) : Tri Pr R n_ref1_Num [a0] h K :=
  tri_of_funP (by kernel_rfl) (fun _ _ _ _ h => h) (fun _ _ _ _ h => h) Try.func107 (by rw [q_ref1_Num]; exact hk)
/-- bastion/field.width -/
def p_field_width (S : FuncId → List AVal → AHeap A → (AVal → AHeap A → Prop) → Prop) (G : Nat → AHeap A → List AVal → (List AVal → AHeap A → Prop) → Prop) (a0 : AVal) (h : AHeap A) (K : AVal → AHeap A → Prop) : Prop :=
 loopP G (fun v7 h k3 =>
 (fun v1 v2 =>
 binP .gtr .other v1 (.int .i64 0) fun v4 =>
 iteP v4
 (binP .add .other v2 (.int .i64 1) fun v5 =>
 binP .shr .other v1 (.int .u64 8) fun v6 =>
 k3 [v6, v5] h)
 (K v2 h)) (v7.getD 0 .any) (v7.getD 1 .any)) [a0, .int .i64 0] h
theorem q_field_width (S : FuncId → List AVal → AHeap A → (AVal → AHeap A → Prop) → Prop) (G : Nat → AHeap A → List AVal → (List AVal → AHeap A → Prop) → Prop) (a0 : AVal) (h : AHeap A) (K : AVal → AHeap A → Prop) : funP Try.prog S G Try.f108 (.two none .leaf (.two none .leaf (.two none (.one [] (.one [0, 3] .leaf)) .leaf))) [a0] h K = p_field_width S G a0 h K := by kernel_rfl
theorem c_field_width {R : Adts A} {h : AHeap A} {K : AVal → AHeap A → Prop} {a0 : AVal} (hk : p_field_width (Tri Pr R) (Gives Pr R) a0 h K) : Tri Pr R n_field_width [a0] h K :=
  tri_of_funP (by kernel_rfl) (fun _ _ _ _ h => h) (fun _ _ _ _ h => h) Try.func108 (by rw [q_field_width]; exact hk)
/-- (*bastion/book.Book).Find -/
def p_book_Book_Find (S : FuncId → List AVal → AHeap A → (AVal → AHeap A → Prop) → Prop) (G : Nat → AHeap A → List AVal → (List AVal → AHeap A → Prop) → Prop) (a0 a1 : AVal) (h : AHeap A) (K : AVal → AHeap A → Prop) : Prop :=
 binP .eql .ptr a0 .nilp fun v1 =>
 iteP v1
 (K (.tup [.int .i64 0, .bool false]) h)
 (nilP a0 fun v2 =>
 fadP 2 v2 fun v3 =>
 ldP 1 false v3 h fun v4 =>
 lkP true (.int .i64 0) true v4 a1 h fun v5 =>
 extP v5 0 fun v6 =>
 extP v5 1 fun v7 =>
 K (.tup [v6, v7]) h)
theorem q_book_Book_Find (S : FuncId → List AVal → AHeap A → (AVal → AHeap A → Prop) → Prop) (G : Nat → AHeap A → List AVal → (List AVal → AHeap A → Prop) → Prop) (a0 a1 : AVal) (h : AHeap A) (K : AVal → AHeap A → Prop) : funP Try.prog S G Try.f109 .leaf [a0, a1] h K = p_book_Book_Find S G a0 a1 h K := by kernel_rfl
theorem c_book_Book_Find {R : Adts A} {h : AHeap A} {K : AVal → AHeap A → Prop} {a0 a1 : AVal} (hk : p_book_Book_Find (Tri Pr R) (Gives Pr R) a0 a1 h K) : Tri Pr R n_book_Book_Find [a0, a1] h K :=
  tri_of_funP (by kernel_rfl) (fun _ _ _ _ h => h) (fun _ _ _ _ h => h) Try.func109 (by rw [q_book_Book_Find]; exact hk)
/-- internal/stringslite.HasPrefix -/
def p_internal_stringslite_HasPrefix (S : FuncId → List AVal → AHeap A → (AVal → AHeap A → Prop) → Prop) (G : Nat → AHeap A → List AVal → (List AVal → AHeap A → Prop) → Prop) (a0 a1 : AVal) (h : AHeap A) (K : AVal → AHeap A → Prop) : Prop :=
 lnsP a0 fun v1 =>
 lnsP a1 fun v2 =>
 binP .geq .other v1 v2 fun v3 =>
 condP v3 true (fun k4 =>
 lnsP a1 fun v5 =>
 subP a0 none (some v5) fun v6 =>
 binP .eql .other v6 a1 fun v7 =>
 k4 v7 h)
 (.bool false) h fun v8 h =>
 K v8 h
theorem q_internal_stringslite_HasPrefix (S : FuncId → List AVal → AHeap A → (AVal → AHeap A → Prop) → Prop) (G : Nat → AHeap A → List AVal → (List AVal → AHeap A → Prop) → Prop) (a0 a1 : AVal) (h : AHeap A) (K : AVal → AHeap A → Prop) : funP Try.prog S G Try.f110 .leaf [a0, a1] h K = p_internal_stringslite_HasPrefix S G a0 a1 h K := by kernel_rfl
theorem c_internal_stringslite_HasPrefix {R : Adts A} {h : AHeap A} {K : AVal → AHeap A → Prop} {a0 a1 : AVal} (hk : p_internal_stringslite_HasPrefix (Tri Pr R) (Gives Pr R) a0 a1 h K) : Tri Pr R n_internal_stringslite_HasPrefix [a0, a1] h K :=
  tri_of_funP (by kernel_rfl) (fun _ _ _ _ h => h) (fun _ _ _ _ h => h) Try.func110 (by rw [q_internal_stringslite_HasPrefix]; exact hk)
end Go.AI
