/- The functions as texts over the abstract heap. -/
import Derived.Test.YtkipdpamkchnoaaNm
import Derived.KernelRfl
set_option linter.all false
namespace Go.AI
open Go.Proofs
set_option maxRecDepth 1000000
variable {A : Type}
/-- bastion/bastionlaw9.awake -/
def p_law9_awake (S : FuncId → List AVal → AHeap A → (AVal → AHeap A → Prop) → Prop) (G : Nat → AHeap A → List AVal → (List AVal → AHeap A → Prop) → Prop) (h : AHeap A) (K : AVal → AHeap A → Prop) : Prop :=
 S n_law9_twin [.int .i64 9, .nils] h fun v1 h =>
 extP v1 0 fun v2 =>
 extP v1 1 fun v3 =>
 binP .eql .ptr v2 .nilp fun v4 =>
 condP v4 false (fun k5 =>
 binP .eql .ptr v3 .nilp fun v6 =>
 k5 v6 h)
 (.bool true) h fun v7 h =>
 iteP v7
 (K (.bool false) h)
 (bldP [.int .i64 0, .int .i64 0, .int .i64 0, .int .i64 0, .int .i64 0, .int .i64 0, .int .i64 0, .int .i64 0] [(0, 1, .int .i64 2), (1, 1, .int .i64 3), (7, 1, .int .i64 300)] fun v8 =>
 bldP [.int .i64 0, .int .i64 0, .int .i64 0, .int .i64 0, .int .i64 0, .int .i64 0, .int .i64 0, .int .i64 0, .int .i64 0, .int .i64 0, .int .i64 0] [(0, 1, .int .i64 1), (1, 1, .int .i64 1), (3, 8, v8)] fun v9 =>
 newP t_api_Record (reps 11 (.int .i64 0)) h fun v10 h =>
 stP 11 v10 v9 h fun h =>
 ldP 11 true v10 h fun v11 =>
 S n_record_Put [v2, v11] h fun v12 h =>
 extP v12 0 fun v13 =>
 extP v12 1 fun v14 =>
 extP v12 2 fun v15 =>
 S n_law0_Num [v15] h fun v16 h =>
 binP .neq .other v16 (.int .i64 0) fun v17 =>
 condP v17 false (fun k18 =>
 lnsP v13 fun v19 =>
 binP .neq .other v19 (.int .i64 64) fun v20 =>
 k18 v20 h)
 (.bool true) h fun v21 h =>
 iteP v21
 (K (.bool false) h)
 (S n_record_Get [v2, v13, .int .i64 1, .int .i64 0] h fun v22 h =>
 extP v22 0 fun v23 =>
 extP v22 1 fun v24 =>
 extP v22 2 fun v25 =>
 newP t_api_Record (reps 11 (.int .i64 0)) h fun v26 h =>
 stP 11 v26 v23 h fun h =>
 S n_record_Get [v2, v13, .int .i64 2, .int .i64 0] h fun v27 h =>
 extP v27 0 fun v28 =>
 extP v27 1 fun v29 =>
 extP v27 2 fun v30 =>
 newP t_api_Record (reps 11 (.int .i64 0)) h fun v31 h =>
 stP 11 v31 v28 h fun h =>
 subP v13 (some (.int .i64 1)) none fun v32 =>
 binP .add .other (.str [2]) v32 fun v33 =>
 S n_record_Get [v2, v33, .int .i64 2, .int .i64 0] h fun v34 h =>
 extP v34 0 fun v35 =>
 extP v34 1 fun v36 =>
 extP v34 2 fun v37 =>
 newP t_api_Record (reps 11 (.int .i64 0)) h fun v38 h =>
 stP 11 v38 v35 h fun h =>
 bldP [.int .i64 0, .int .i64 0, .int .i64 0, .int .i64 0, .int .i64 0, .int .i64 0, .int .i64 0, .int .i64 0, .int .i64 0, .int .i64 0, .int .i64 0] [(1, 1, .int .i64 1)] fun v39 =>
 S n_record_Put [v2, v39] h fun v40 h =>
 extP v40 0 fun v41 =>
 extP v40 1 fun v42 =>
 extP v40 2 fun v43 =>
 ldP 11 true v10 h fun v44 =>
 S n_record_Put [.nilp, v44] h fun v45 h =>
 extP v45 0 fun v46 =>
 extP v45 1 fun v47 =>
 extP v45 2 fun v48 =>
 subP v13 none (some (.int .i64 16)) fun v49 =>
 binP .eql .other v49 (.str [1, 1, 1, 1, 0, 1, 7, 1, 2, 1, 3, 2, 1, 44, 0, 0]) fun v50 =>
 condP v50 true (fun k51 =>
 binP .eql .other v14 (.int .i64 0) fun v52 =>
 k51 v52 h)
 (.bool false) h fun v53 h =>
 condP v53 true (fun k54 =>
 ldP 11 true v26 h fun v55 =>
 ldP 11 true v10 h fun v56 =>
 binP .eql (.shape (.st [(0, 1, .i), (1, 1, .i), (2, 1, .i), (3, 8, .st [(0, 1, .i), (1, 1, .i), (2, 1, .i), (3, 1, .i), (4, 1, .i), (5, 1, .i), (6, 1, .i), (7, 1, .i)])])) v55 v56 fun v57 =>
 k54 v57 h)
 (.bool false) h fun v58 h =>
 condP v58 true (fun k59 =>
 binP .eql .other v24 (.int .i64 0) fun v60 =>
 k59 v60 h)
 (.bool false) h fun v61 h =>
 condP v61 true (fun k62 =>
 S n_law0_Num [v25] h fun v63 h =>
 binP .eql .other v63 (.int .i64 0) fun v64 =>
 k62 v64 h)
 (.bool false) h fun v65 h =>
 condP v65 true (fun k66 =>
 S n_law0_Num [v30] h fun v67 h =>
 binP .eql .other v67 (.int .i64 901) fun v68 =>
 k66 v68 h)
 (.bool false) h fun v69 h =>
 condP v69 true (fun k70 =>
 S n_law0_Num [v37] h fun v71 h =>
 binP .eql .other v71 (.int .i64 900) fun v72 =>
 k70 v72 h)
 (.bool false) h fun v73 h =>
 condP v73 true (fun k74 =>
 S n_law0_Num [v43] h fun v75 h =>
 binP .eql .other v75 (.int .i64 900) fun v76 =>
 k74 v76 h)
 (.bool false) h fun v77 h =>
 condP v77 true (fun k78 =>
 S n_law0_Num [v48] h fun v79 h =>
 binP .eql .other v79 (.int .i64 1) fun v80 =>
 k78 v80 h)
 (.bool false) h fun v81 h =>
 K v81 h))
theorem q_law9_awake (S : FuncId → List AVal → AHeap A → (AVal → AHeap A → Prop) → Prop) (G : Nat → AHeap A → List AVal → (List AVal → AHeap A → Prop) → Prop) (h : AHeap A) (K : AVal → AHeap A → Prop) : funP Try.prog S G Try.f8 .leaf [] h K = p_law9_awake S G h K := by kernel_rfl
theorem c_law9_awake {R : Adts A} {h : AHeap A} {K : AVal → AHeap A → Prop} (hk : p_law9_awake (Tri Pr R) (Gives Pr R) h K) : Tri Pr R n_law9_awake [] h K :=
  tri_of_funP (by kernel_rfl) (fun _ _ _ _ h => h) (fun _ _ _ _ h => h) Try.func8 (by rw [q_law9_awake]; exact hk)
/-- bastion/book.New -/
def p_book_New (S : FuncId → List AVal → AHeap A → (AVal → AHeap A → Prop) → Prop) (G : Nat → AHeap A → List AVal → (List AVal → AHeap A → Prop) → Prop) (a0 : AVal) (h : AHeap A) (K : AVal → AHeap A → Prop) : Prop :=
 binP .lss .other a0 (.int .i64 1) fun v1 =>
 condP v1 false (fun k2 =>
 binP .gtr .other a0 (.int .i64 65536) fun v3 =>
 k2 v3 h)
 (.bool true) h fun v4 h =>
 iteP v4
 (K (.tup [.nilp, .int .i64 200]) h)
 (mkmP h fun v5 h =>
 bldP [.int .i64 0, .nils, .nilm] [(0, 1, a0), (2, 1, v5)] fun v6 =>
 boxP t_book_Book 3 v6 h fun v7 h =>
 K (.tup [v7, .int .i64 0]) h)
theorem q_book_New (S : FuncId → List AVal → AHeap A → (AVal → AHeap A → Prop) → Prop) (G : Nat → AHeap A → List AVal → (List AVal → AHeap A → Prop) → Prop) (a0 : AVal) (h : AHeap A) (K : AVal → AHeap A → Prop) : funP Try.prog S G Try.f9 .leaf [a0] h K = p_book_New S G a0 h K := by kernel_rfl
theorem c_book_New {R : Adts A} {h : AHeap A} {K : AVal → AHeap A → Prop} {a0 : AVal} (hk : p_book_New (Tri Pr R) (Gives Pr R) a0 h K) : Tri Pr R n_book_New [a0] h K :=
  tri_of_funP (by kernel_rfl) (fun _ _ _ _ h => h) (fun _ _ _ _ h => h) Try.func9 (by rw [q_book_New]; exact hk)
/-- bastion/bastionlaw0.Num -/
def p_law0_Num (S : FuncId → List AVal → AHeap A → (AVal → AHeap A → Prop) → Prop) (G : Nat → AHeap A → List AVal → (List AVal → AHeap A → Prop) → Prop) (a0 : AVal) (h : AHeap A) (K : AVal → AHeap A → Prop) : Prop :=
 K a0 h
theorem q_law0_Num (S : FuncId → List AVal → AHeap A → (AVal → AHeap A → Prop) → Prop) (G : Nat → AHeap A → List AVal → (List AVal → AHeap A → Prop) → Prop) (a0 : AVal) (h : AHeap A) (K : AVal → AHeap A → Prop) : funP Try.prog S G Try.f10 .leaf [a0] h K = p_law0_Num S G a0 h K := by kernel_rfl
theorem c_law0_Num {R : Adts A} {h : AHeap A} {K : AVal → AHeap A → Prop} {a0 : AVal} (hk : p_law0_Num (Tri Pr R) (Gives Pr R) a0 h K) : Tri Pr R n_law0_Num [a0] h K :=
  tri_of_funP (by kernel_rfl) (fun _ _ _ _ h => h) (fun _ _ _ _ h => h) Try.func10 (by rw [q_law0_Num]; exact hk)
/-- bastion/record.Put -/
def p_record_Put (S : FuncId → List AVal → AHeap A → (AVal → AHeap A → Prop) → Prop) (G : Nat → AHeap A → List AVal → (List AVal → AHeap A → Prop) → Prop) (a0 a1 : AVal) (h : AHeap A) (K : AVal → AHeap A → Prop) : Prop :=
 boxP t_api_Record 11 a1 h fun v1 h =>
 binP .eql .ptr a0 .nilp fun v2 =>
 iteP v2
 (K (.tup [.str [], .int .i64 0, .int .i64 1]) h)
 (S n_record_body [v1] h fun v3 h =>
 extP v3 0 fun v4 =>
 extP v3 1 fun v5 =>
 notP v5 fun v6 =>
 iteP v6
 (K (.tup [.str [], .int .i64 0, .int .i64 900]) h)
 (binP .add .other (.str [114, 101, 99, 111, 114, 100]) v4 fun v7 =>
 S n_craft_Hash [a0, v7] h fun v8 h =>
 extP v8 0 fun v9 =>
 extP v8 1 fun v10 =>
 binP .neq .other v10 (.int .i64 0) fun v11 =>
 iteP v11
 (K (.tup [.str [], .int .i64 0, .int .i64 900]) h)
 (S n_field_Num [v9] h fun v12 h =>
 extP v12 0 fun v13 =>
 extP v12 1 fun v14 =>
 binP .add .other v4 v13 fun v15 =>
 S n_record_Fill [v15] h fun v16 h =>
 extP v16 0 fun v17 =>
 extP v16 1 fun v18 =>
 notP v18 fun v19 =>
 iteP v19
 (K (.tup [.str [], .int .i64 0, .int .i64 900]) h)
 (K (.tup [v17, v9, .int .i64 0]) h))))
theorem q_record_Put (S : FuncId → List AVal → AHeap A → (AVal → AHeap A → Prop) → Prop) (G : Nat → AHeap A → List AVal → (List AVal → AHeap A → Prop) → Prop) (a0 a1 : AVal) (h : AHeap A) (K : AVal → AHeap A → Prop) : funP Try.prog S G Try.f11 .leaf [a0, a1] h K = p_record_Put S G a0 a1 h K := by kernel_rfl
theorem c_record_Put {R : Adts A} {h : AHeap A} {K : AVal → AHeap A → Prop} {a0 a1 : AVal} (hk : p_record_Put (Tri Pr R) (Gives Pr R) a0 a1 h K) : Tri Pr R n_record_Put [a0, a1] h K :=
  tri_of_funP (by kernel_rfl) (fun _ _ _ _ h => h) (fun _ _ _ _ h => h) Try.func11 (by rw [q_record_Put]; exact hk)
/-- bastion/record.Get -/
def p_record_Get (S : FuncId → List AVal → AHeap A → (AVal → AHeap A → Prop) → Prop) (G : Nat → AHeap A → List AVal → (List AVal → AHeap A → Prop) → Prop) (a0 a1 a2 a3 : AVal) (h : AHeap A) (K : AVal → AHeap A → Prop) : Prop :=
 newP t_api_Record (reps 11 (.int .i64 0)) h fun v1 h =>
 binP .eql .ptr a0 .nilp fun v2 =>
 iteP v2
 (bldP [.int .i64 0, .int .i64 0, .int .i64 0, .int .i64 0, .int .i64 0, .int .i64 0, .int .i64 0, .int .i64 0, .int .i64 0, .int .i64 0, .int .i64 0] [] fun v3 =>
 stP 11 v1 v3 h fun h =>
 ldP 11 true v1 h fun v4 =>
 K (.tup [v4, .int .i64 0, .int .i64 1]) h)
 (S n_record_read [a0, a1] h fun v5 h =>
 extP v5 0 fun v6 =>
 extP v5 1 fun v7 =>
 extP v5 2 fun v8 =>
 newP t_api_Record (reps 11 (.int .i64 0)) h fun v9 h =>
 stP 11 v9 v6 h fun h =>
 notP v8 fun v10 =>
 iteP v10
 (bldP [.int .i64 0, .int .i64 0, .int .i64 0, .int .i64 0, .int .i64 0, .int .i64 0, .int .i64 0, .int .i64 0, .int .i64 0, .int .i64 0, .int .i64 0] [] fun v11 =>
 stP 11 v1 v11 h fun h =>
 ldP 11 true v1 h fun v12 =>
 K (.tup [v12, .int .i64 0, .int .i64 900]) h)
 (fadP 0 v9 fun v13 =>
 ldP 1 false v13 h fun v14 =>
 binP .neq .other v14 a2 fun v15 =>
 condP v15 false (fun k16 =>
 fadP 2 v9 fun v17 =>
 ldP 1 false v17 h fun v18 =>
 binP .neq .other v18 a3 fun v19 =>
 k16 v19 h)
 (.bool true) h fun v20 h =>
 iteP v20
 (bldP [.int .i64 0, .int .i64 0, .int .i64 0, .int .i64 0, .int .i64 0, .int .i64 0, .int .i64 0, .int .i64 0, .int .i64 0, .int .i64 0, .int .i64 0] [] fun v21 =>
 stP 11 v1 v21 h fun h =>
 ldP 11 true v1 h fun v22 =>
 K (.tup [v22, .int .i64 0, .int .i64 901]) h)
 (ldP 11 true v9 h fun v23 =>
 stP 11 v1 v23 h fun h =>
 ldP 11 true v1 h fun v24 =>
 K (.tup [v24, v7, .int .i64 0]) h)))
theorem q_record_Get (S : FuncId → List AVal → AHeap A → (AVal → AHeap A → Prop) → Prop) (G : Nat → AHeap A → List AVal → (List AVal → AHeap A → Prop) → Prop) (a0 a1 a2 a3 : AVal) (h : AHeap A) (K : AVal → AHeap A → Prop) : funP Try.prog S G Try.f12 .leaf [a0, a1, a2, a3] h K = p_record_Get S G a0 a1 a2 a3 h K := by kernel_rfl
theorem c_record_Get {R : Adts A} {h : AHeap A} {K : AVal → AHeap A → Prop} {a0 a1 a2 a3 : AVal} (hk : p_record_Get (Tri Pr R) (Gives Pr R) a0 a1 a2 a3 h K) : Tri Pr R n_record_Get [a0, a1, a2, a3] h K :=
  tri_of_funP (by kernel_rfl) (fun _ _ _ _ h => h) (fun _ _ _ _ h => h) Try.func12 (by rw [q_record_Get]; exact hk)
/-- bastion/bastionlaw9.twin -/
def p_law9_twin (S : FuncId → List AVal → AHeap A → (AVal → AHeap A → Prop) → Prop) (G : Nat → AHeap A → List AVal → (List AVal → AHeap A → Prop) → Prop) (a0 a1 : AVal) (h : AHeap A) (K : AVal → AHeap A → Prop) : Prop :=
 S n_book_New [a0] h fun v1 h =>
 extP v1 0 fun v2 =>
 extP v1 1 fun v3 =>
 S n_ref1_NewBook [a0] h fun v4 h =>
 extP v4 0 fun v5 =>
 extP v4 1 fun v6 =>
 S n_law0_Num [v3] h fun v7 h =>
 binP .neq .other v7 (.int .i64 0) fun v8 =>
 condP v8 false (fun k9 =>
 binP .neq .other v6 (.int .i64 0) fun v10 =>
 k9 v10 h)
 (.bool true) h fun v11 h =>
 condP v11 false (fun k12 =>
 binP .eql .ptr v2 .nilp fun v13 =>
 k12 v13 h)
 (.bool true) h fun v14 h =>
 iteP v14
 (K (.tup [.nilp, .nilp]) h)
 (loopP G (fun v29 h k16 =>
 (fun v15 =>
 lenP a1 fun v17 =>
 binP .lss .other v15 v17 fun v18 =>
 condP v18 true (fun k19 =>
 binP .lss .other v15 (.int .i64 400) fun v20 =>
 k19 v20 h)
 (.bool false) h fun v21 h =>
 iteP v21
 (idxP 1 a1 v15 fun v22 =>
 ldP 1 false v22 h fun v23 =>
 S n_book_Book_Name [v2, v23] h fun v24 h =>
 idxP 1 a1 v15 fun v25 =>
 ldP 1 false v25 h fun v26 =>
 S n_ref1_Book_Name [v5, v26] h fun v27 h =>
 binP .add .other v15 (.int .i64 1) fun v28 =>
 k16 [v28] h)
 (K (.tup [v2, v5]) h)) (v29.getD 0 .any)) [.int .i64 0] h)
theorem q_law9_twin (S : FuncId → List AVal → AHeap A → (AVal → AHeap A → Prop) → Prop) (G : Nat → AHeap A → List AVal → (List AVal → AHeap A → Prop) → Prop) (a0 a1 : AVal) (h : AHeap A) (K : AVal → AHeap A → Prop) : funP Try.prog S G Try.f13 (.two none .leaf (.two none .leaf (.two none .leaf (.two none .leaf (.two none (.two none .leaf (.one [] (.one [10] .leaf))) .leaf))))) [a0, a1] h K = p_law9_twin S G a0 a1 h K := by kernel_rfl
theorem c_law9_twin {R : Adts A} {h : AHeap A} {K : AVal → AHeap A → Prop} {a0 a1 : AVal} (hk : p_law9_twin (Tri Pr R) (Gives Pr R) a0 a1 h K) : Tri Pr R n_law9_twin [a0, a1] h K :=
  tri_of_funP (by kernel_rfl) (fun _ _ _ _ h => h) (fun _ _ _ _ h => h) Try.func13 (by rw [q_law9_twin]; exact hk)
/-- (*bastion/book.Book).Len -/
def p_book_Book_Len (S : FuncId → List AVal → AHeap A → (AVal → AHeap A → Prop) → Prop) (G : Nat → AHeap A → List AVal → (List AVal → AHeap A → Prop) → Prop) (a0 : AVal) (h : AHeap A) (K : AVal → AHeap A → Prop) : Prop :=
 binP .eql .ptr a0 .nilp fun v1 =>
 iteP v1
 (K (.int .i64 0) h)
 (nilP a0 fun v2 =>
 fadP 1 v2 fun v3 =>
 ldP 1 false v3 h fun v4 =>
 lenP v4 fun v5 =>
 K v5 h)
theorem q_book_Book_Len (S : FuncId → List AVal → AHeap A → (AVal → AHeap A → Prop) → Prop) (G : Nat → AHeap A → List AVal → (List AVal → AHeap A → Prop) → Prop) (a0 : AVal) (h : AHeap A) (K : AVal → AHeap A → Prop) : funP Try.prog S G Try.f14 .leaf [a0] h K = p_book_Book_Len S G a0 h K := by kernel_rfl
theorem c_book_Book_Len {R : Adts A} {h : AHeap A} {K : AVal → AHeap A → Prop} {a0 : AVal} (hk : p_book_Book_Len (Tri Pr R) (Gives Pr R) a0 h K) : Tri Pr R n_book_Book_Len [a0] h K :=
  tri_of_funP (by kernel_rfl) (fun _ _ _ _ h => h) (fun _ _ _ _ h => h) Try.func14 (by rw [q_book_Book_Len]; exact hk)
/-- bastion/bastionref1.PutRecord -/
def p_ref1_PutRecord (S : FuncId → List AVal → AHeap A → (AVal → AHeap A → Prop) → Prop) (G : Nat → AHeap A → List AVal → (List AVal → AHeap A → Prop) → Prop) (a0 a1 : AVal) (h : AHeap A) (K : AVal → AHeap A → Prop) : Prop :=
 boxP t_api_Record 11 a1 h fun v1 h =>
 fadP 3 v1 fun v2 =>
 ldP 8 true v2 h fun v3 =>
 S n_ref1_PutEvent [v3] h fun v4 h =>
 extP v4 0 fun v5 =>
 extP v4 1 fun v6 =>
 fadP 0 v1 fun v7 =>
 ldP 1 false v7 h fun v8 =>
 binP .lss .other v8 (.int .i64 1) fun v9 =>
 condP v9 false (fun k10 =>
 fadP 0 v1 fun v11 =>
 ldP 1 false v11 h fun v12 =>
 S n_ref1_num [v12] h fun v13 h =>
 notP v13 fun v14 =>
 k10 v14 h)
 (.bool true) h fun v15 h =>
 condP v15 false (fun k16 =>
 fadP 1 v1 fun v17 =>
 ldP 1 false v17 h fun v18 =>
 binP .lss .other v18 (.int .i64 1) fun v19 =>
 k16 v19 h)
 (.bool true) h fun v20 h =>
 condP v20 false (fun k21 =>
 fadP 1 v1 fun v22 =>
 ldP 1 false v22 h fun v23 =>
 S n_ref1_num [v23] h fun v24 h =>
 notP v24 fun v25 =>
 k21 v25 h)
 (.bool true) h fun v26 h =>
 condP v26 false (fun k27 =>
 fadP 2 v1 fun v28 =>
 ldP 1 false v28 h fun v29 =>
 S n_ref1_num [v29] h fun v30 h =>
 notP v30 fun v31 =>
 k27 v31 h)
 (.bool true) h fun v32 h =>
 condP v32 false (fun k33 =>
 binP .neq .other v6 (.int .i64 0) fun v34 =>
 k33 v34 h)
 (.bool true) h fun v35 h =>
 condP v35 false (fun k36 =>
 lnsP v5 fun v37 =>
 binP .gtr .other v37 (.int .i64 44) fun v38 =>
 k36 v38 h)
 (.bool true) h fun v39 h =>
 iteP v39
 (K (.tup [.str [], .int .i64 0, .int .i64 900]) h)
 (S n_ref1_Text [v5] h fun v40 h =>
 extP v40 0 fun v41 =>
 extP v40 1 fun v42 =>
 fadP 0 v1 fun v43 =>
 ldP 1 false v43 h fun v44 =>
 fadP 1 v1 fun v45 =>
 ldP 1 false v45 h fun v46 =>
 fadP 2 v1 fun v47 =>
 ldP 1 false v47 h fun v48 =>
 bslP t_int 3 [.int .i64 0, .int .i64 0, .int .i64 0] [(0, 1, v44), (1, 1, v46), (2, 1, v48)] h fun v49 h =>
 S n_ref1_Nums [v49] h fun v50 h =>
 binP .add .other v50 v41 fun v51 =>
 binP .add .other (.str [114, 101, 99, 111, 114, 100]) v51 fun v52 =>
 S n_ref1_Hash [a0, v52] h fun v53 h =>
 extP v53 0 fun v54 =>
 extP v53 1 fun v55 =>
 binP .neq .other v55 (.int .i64 0) fun v56 =>
 iteP v56
 (K (.tup [.str [], .int .i64 0, .int .i64 900]) h)
 (bslP t_int 1 [.int .i64 0] [(0, 1, v54)] h fun v57 h =>
 S n_ref1_Nums [v57] h fun v58 h =>
 binP .add .other v51 v58 fun v59 =>
 lnsP v59 fun v60 =>
 binP .gtr .other v60 (.int .i64 64) fun v61 =>
 iteP v61
 (K (.tup [.str [], .int .i64 0, .int .i64 900]) h)
 (S n_ref1_sector [v59] h fun v62 h =>
 K (.tup [v62, v54, .int .i64 0]) h)))
theorem q_ref1_PutRecord (S : FuncId → List AVal → AHeap A → (AVal → AHeap A → Prop) → Prop) (G : Nat → AHeap A → List AVal → (List AVal → AHeap A → Prop) → Prop) (a0 a1 : AVal) (h : AHeap A) (K : AVal → AHeap A → Prop) : funP Try.prog S G Try.f15 .leaf [a0, a1] h K = p_ref1_PutRecord S G a0 a1 h K := by kernel_rfl
theorem c_ref1_PutRecord {R : Adts A} {h : AHeap A} {K : AVal → AHeap A → Prop} {a0 a1 : AVal} (hk : p_ref1_PutRecord (Tri Pr R) (Gives Pr R) a0 a1 h K) : Tri Pr R n_ref1_PutRecord [a0, a1] h K :=
  tri_of_funP (by kernel_rfl) (fun _ _ _ _ h => h) (fun _ _ _ _ h => h) Try.func15 (by rw [q_ref1_PutRecord]; exact hk)
/-- bastion/bastionref1.GetRecord -/
def p_ref1_GetRecord (S : FuncId → List AVal → AHeap A → (AVal → AHeap A → Prop) → Prop) (G : Nat → AHeap A → List AVal → (List AVal → AHeap A → Prop) → Prop) (a0 a1 a2 a3 : AVal) (h : AHeap A) (K : AVal → AHeap A → Prop) : Prop :=
 newP t_api_Record (reps 11 (.int .i64 0)) h fun v1 h =>
 bldP [.str [], .int .i64 0, .bool false] [(0, 1, a1)] fun v2 =>
 boxP t_bastionref1_Reader 3 v2 h fun v3 h =>
 S n_ref1_Reader_Num [v3] h fun v4 h =>
 bldP [.int .i64 0, .int .i64 0, .int .i64 0, .int .i64 0, .int .i64 0, .int .i64 0, .int .i64 0, .int .i64 0, .int .i64 0, .int .i64 0, .int .i64 0] [(0, 1, v4)] fun v5 =>
 newP t_api_Record (reps 11 (.int .i64 0)) h fun v6 h =>
 stP 11 v6 v5 h fun h =>
 S n_ref1_Reader_Num [v3] h fun v7 h =>
 fadP 1 v6 fun v8 =>
 stP 1 v8 v7 h fun h =>
 S n_ref1_Reader_Num [v3] h fun v9 h =>
 fadP 2 v6 fun v10 =>
 stP 1 v10 v9 h fun h =>
 S n_ref1_Reader_Text [v3] h fun v11 h =>
 nilP v3 fun v12 =>
 fadP 1 v12 fun v13 =>
 ldP 1 false v13 h fun v14 =>
 S n_ref1_Reader_Num [v3] h fun v15 h =>
 S n_ref1_GetEvent [v11] h fun v16 h =>
 extP v16 0 fun v17 =>
 extP v16 1 fun v18 =>
 newP t_api_Event [.int .i64 0, .int .i64 0, .int .i64 0, .int .i64 0, .int .i64 0, .int .i64 0, .int .i64 0, .int .i64 0] h fun v19 h =>
 stP 8 v19 v17 h fun h =>
 joinP G h.length (fun k20 =>
 lnsP a1 fun v21 =>
 binP .neq .other v21 (.int .i64 64) fun v22 =>
 iteP v22
 (k20 [.bool true] h)
 (nilP v3 fun v23 =>
 fadP 2 v23 fun v24 =>
 ldP 1 false v24 h fun v25 =>
 iteP v25
 (k20 [.bool true] h)
 (binP .neq .other v18 (.int .i64 0) fun v26 =>
 iteP v26
 (k20 [.bool true] h)
 (lnsP v11 fun v27 =>
 binP .gtr .other v27 (.int .i64 44) fun v28 =>
 iteP v28
 (k20 [.bool true] h)
 (fadP 0 v6 fun v29 =>
 ldP 1 false v29 h fun v30 =>
 binP .lss .other v30 (.int .i64 1) fun v31 =>
 iteP v31
 (k20 [.bool true] h)
 (fadP 1 v6 fun v32 =>
 ldP 1 false v32 h fun v33 =>
 binP .lss .other v33 (.int .i64 1) fun v34 =>
 iteP v34
 (k20 [.bool true] h)
 (nilP v3 fun v35 =>
 fadP 1 v35 fun v36 =>
 nilP v3 fun v37 =>
 fadP 1 v37 fun v38 =>
 ldP 1 false v36 h fun v39 =>
 subP a1 (some v39) none fun v40 =>
 ldP 1 false v38 h fun v41 =>
 ldV 1 false v36 h = some v39 ∧
 binP .sub .other (.int .i64 64) v41 fun v42 =>
 mkslP t_uint8 1 1 [.int .u8 0] v42 v42 h fun v43 h =>
 ldV 1 false v36 h = some v39 ∧
 b2sP v43 h fun v44 =>
 ldV 1 false v36 h = some v39 ∧
 binP .neq .other v40 v44 fun v45 =>
 iteP v45
 (k20 [.bool true] h)
 (subP a1 none (some v14) fun v46 =>
 binP .add .other (.str [114, 101, 99, 111, 114, 100]) v46 fun v47 =>
 S n_ref1_IsHash [a0, v47, v15] h fun v48 h =>
 notP v48 fun v49 =>
 k20 [v49] h))))))))
 (fun v67 h =>
 (fun v50 =>
 iteP v50
 (bldP [.int .i64 0, .int .i64 0, .int .i64 0, .int .i64 0, .int .i64 0, .int .i64 0, .int .i64 0, .int .i64 0, .int .i64 0, .int .i64 0, .int .i64 0] [] fun v51 =>
 stP 11 v1 v51 h fun h =>
 ldP 11 true v1 h fun v52 =>
 K (.tup [v52, .int .i64 0, .int .i64 900]) h)
 (fadP 0 v6 fun v53 =>
 ldP 1 false v53 h fun v54 =>
 binP .neq .other v54 a2 fun v55 =>
 condP v55 false (fun k56 =>
 fadP 2 v6 fun v57 =>
 ldP 1 false v57 h fun v58 =>
 binP .neq .other v58 a3 fun v59 =>
 k56 v59 h)
 (.bool true) h fun v60 h =>
 iteP v60
 (bldP [.int .i64 0, .int .i64 0, .int .i64 0, .int .i64 0, .int .i64 0, .int .i64 0, .int .i64 0, .int .i64 0, .int .i64 0, .int .i64 0, .int .i64 0] [] fun v61 =>
 stP 11 v1 v61 h fun h =>
 ldP 11 true v1 h fun v62 =>
 K (.tup [v62, .int .i64 0, .int .i64 901]) h)
 (ldP 8 true v19 h fun v63 =>
 fadP 3 v6 fun v64 =>
 stP 8 v64 v63 h fun h =>
 ldP 11 true v6 h fun v65 =>
 stP 11 v1 v65 h fun h =>
 ldP 11 true v1 h fun v66 =>
 K (.tup [v66, v15, .int .i64 0]) h))) (v67.getD 0 .any))
theorem q_ref1_GetRecord (S : FuncId → List AVal → AHeap A → (AVal → AHeap A → Prop) → Prop) (G : Nat → AHeap A → List AVal → (List AVal → AHeap A → Prop) → Prop) (a0 a1 a2 a3 : AVal) (h : AHeap A) (K : AVal → AHeap A → Prop) : funP Try.prog S G Try.f16 (.two none .leaf (.two none .leaf (.two none .leaf (.two none .leaf (.two none .leaf (.two none .leaf (.two none .leaf (.two none .leaf (.two none .leaf (.two none (.two none (.draw (some [96]) (.take 0 (.take 1 (.take 2 (.take 3 (.split 3 (.skip 4 (.skip 5 (.skip 6 (.skip 7 (.take 8 (.take 9 (.known 9 true (.skip 10 (.skip 11 (.take 12 (.take 13 (.known 13 true (.skip 14 (.skip 15 (.skip 16 (.take 17 (.take 18 (.known 18 true (.skip 19 (.skip 20 (.skip 21 (.take 22 (.take 23 (.known 23 true (.skip 24 (.skip 25 (.skip 26 (.take 27 (.take 28 (.known 28 true (.skip 29 (.skip 30 (.skip 31 (.skip 32 (.skip 33 (.skip 34 (.skip 35 (.skip 36 (.skip 37 (.skip 38 (.skip 39 (.skip 40 (.skip 41 (.skip 42 (.take 43 (.take 44 (.known 44 true (.skip 45 (.skip 46 (.skip 47 (.skip 48 (.skip 49 (.skip 50 (.skip 51 (.skip 52 (.take 53 .stop)))))))))))))))))))))))))))))))))))))))))))))))))))))))) (.take 4 (.take 5 (.take 6 (.alt 7 (.take 8 (.take 9 (.split 9 (.skip 10 (.skip 11 (.take 12 (.take 13 (.known 13 true (.skip 14 (.skip 15 (.skip 16 (.take 17 (.take 18 (.known 18 true (.skip 19 (.skip 20 (.skip 21 (.take 22 (.take 23 (.known 23 true (.skip 24 (.skip 25 (.skip 26 (.take 27 (.take 28 (.known 28 true (.skip 29 (.skip 30 (.skip 31 (.skip 32 (.skip 33 (.skip 34 (.skip 35 (.skip 36 (.skip 37 (.skip 38 (.skip 39 (.skip 40 (.skip 41 (.skip 42 (.take 43 (.take 44 (.known 44 true (.skip 45 (.skip 46 (.skip 47 (.skip 48 (.skip 49 (.skip 50 (.skip 51 (.skip 52 (.take 53 .stop))))))))))))))))))))))))))))))))))))))))))))))))) (.take 10 (.take 11 (.take 12 (.take 13 (.split 13 (.skip 14 (.skip 15 (.skip 16 (.take 17 (.take 18 (.known 18 true (.skip 19 (.skip 20 (.skip 21 (.take 22 (.take 23 (.known 23 true (.skip 24 (.skip 25 (.skip 26 (.take 27 (.take 28 (.known 28 true (.skip 29 (.skip 30 (.skip 31 (.skip 32 (.skip 33 (.skip 34 (.skip 35 (.skip 36 (.skip 37 (.skip 38 (.skip 39 (.skip 40 (.skip 41 (.skip 42 (.take 43 (.take 44 (.known 44 true (.skip 45 (.skip 46 (.skip 47 (.skip 48 (.skip 49 (.skip 50 (.skip 51 (.skip 52 (.take 53 .stop)))))))))))))))))))))))))))))))))))))))))))) (.take 14 (.take 15 (.take 16 (.take 17 (.take 18 (.split 18 (.skip 19 (.skip 20 (.skip 21 (.take 22 (.take 23 (.known 23 true (.skip 24 (.skip 25 (.skip 26 (.take 27 (.take 28 (.known 28 true (.skip 29 (.skip 30 (.skip 31 (.skip 32 (.skip 33 (.skip 34 (.skip 35 (.skip 36 (.skip 37 (.skip 38 (.skip 39 (.skip 40 (.skip 41 (.skip 42 (.take 43 (.take 44 (.known 44 true (.skip 45 (.skip 46 (.skip 47 (.skip 48 (.skip 49 (.skip 50 (.skip 51 (.skip 52 (.take 53 .stop)))))))))))))))))))))))))))))))))))))) (.take 19 (.alt 20 (.take 21 (.take 22 (.take 23 (.split 23 (.skip 24 (.skip 25 (.skip 26 (.take 27 (.take 28 (.known 28 true (.skip 29 (.skip 30 (.skip 31 (.skip 32 (.skip 33 (.skip 34 (.skip 35 (.skip 36 (.skip 37 (.skip 38 (.skip 39 (.skip 40 (.skip 41 (.skip 42 (.take 43 (.take 44 (.known 44 true (.skip 45 (.skip 46 (.skip 47 (.skip 48 (.skip 49 (.skip 50 (.skip 51 (.skip 52 (.take 53 .stop)))))))))))))))))))))))))))))))) (.take 24 (.alt 25 (.take 26 (.take 27 (.take 28 (.split 28 (.skip 29 (.skip 30 (.skip 31 (.skip 32 (.skip 33 (.skip 34 (.skip 35 (.skip 36 (.skip 37 (.skip 38 (.skip 39 (.skip 40 (.skip 41 (.skip 42 (.take 43 (.take 44 (.known 44 true (.skip 45 (.skip 46 (.skip 47 (.skip 48 (.skip 49 (.skip 50 (.skip 51 (.skip 52 (.take 53 .stop)))))))))))))))))))))))))) (.take 29 (.take 30 (.take 31 (.take 32 (.take 35 (.take 36 (.take 37 (.load 33 (.take 34 (.alt 38 (.take 39 (.alt 40 (.alt 41 (.take 42 (.take 43 (.take 44 (.split 44 (.skip 45 (.skip 46 (.skip 47 (.skip 48 (.skip 49 (.skip 50 (.skip 51 (.skip 52 (.take 53 .stop))))))))) (.take 45 (.take 46 (.take 47 (.take 48 (.take 49 (.take 50 (.alt 51 (.take 52 (.take 53 .stop)) .stop))))))))))) .stop) .stop)) .stop)))))))))))))) .stop)))))) .stop)))))))))))))))) .stop)))))))))) .leaf) .leaf)))))))))) [a0, a1, a2, a3] h K = p_ref1_GetRecord S G a0 a1 a2 a3 h K := by kernel_rfl
theorem c_ref1_GetRecord {R : Adts A} {h : AHeap A} {K : AVal → AHeap A → Prop} {a0 a1 a2 a3 : AVal} (hk : p_ref1_GetRecord (Tri Pr R) (Gives Pr R) a0 a1 a2 a3 h K) : Tri Pr R n_ref1_GetRecord [a0, a1, a2, a3] h K :=
  tri_of_funP (by kernel_rfl) (fun _ _ _ _ h => h) (fun _ _ _ _ h => h) Try.func16 (by rw [q_ref1_GetRecord]; exact hk)
/-- bastion/bastionlaw9.sameBooks -/
def p_law9_sameBooks (S : FuncId → List AVal → AHeap A → (AVal → AHeap A → Prop) → Prop) (G : Nat → AHeap A → List AVal → (List AVal → AHeap A → Prop) → Prop) (a0 a1 : AVal) (h : AHeap A) (K : AVal → AHeap A → Prop) : Prop :=
 nilP a1 fun v1 =>
 fadP 1 v1 fun v2 =>
 ldP 1 false v2 h fun v3 =>
 lenP v3 fun v4 =>
 S n_book_Book_Len [a0] h fun v5 h =>
 ldV 1 false v2 h = some v3 ∧
 binP .neq .other v5 v4 fun v6 =>
 iteP v6
 (K (.bool false) h)
 (nilP a1 fun v7 =>
 fadP 1 v7 fun v8 =>
 ldP 1 false v8 h fun v9 =>
 lenP v9 fun v10 =>
 binP .sub .other v10 (.int .i64 40) fun v11 =>
 maxP [.int .i64 0, v11] fun v12 =>
 loopP G (fun v34 h k14 =>
 (fun v13 =>
 nilP a1 fun v15 =>
 fadP 1 v15 fun v16 =>
 ldP 1 false v16 h fun v17 =>
 lenP v17 fun v18 =>
 binP .lss .other v13 v18 fun v19 =>
 iteP v19
 (S n_book_Book_Term [a0, v13] h fun v20 h =>
 extP v20 0 fun v21 =>
 extP v20 1 fun v22 =>
 S n_law0_Num [v22] h fun v23 h =>
 binP .neq .other v23 (.int .i64 0) fun v24 =>
 condP v24 false (fun k25 =>
 nilP a1 fun v26 =>
 fadP 1 v26 fun v27 =>
 ldP 1 false v27 h fun v28 =>
 idxP 1 v28 v13 fun v29 =>
 ldP 1 false v29 h fun v30 =>
 binP .neq .other v21 v30 fun v31 =>
 k25 v31 h)
 (.bool true) h fun v32 h =>
 iteP v32
 (K (.bool false) h)
 (binP .add .other v13 (.int .i64 1) fun v33 =>
 k14 [v33] h))
 (K (.bool true) h)) (v34.getD 0 .any)) [v12] h)
theorem q_law9_sameBooks (S : FuncId → List AVal → AHeap A → (AVal → AHeap A → Prop) → Prop) (G : Nat → AHeap A → List AVal → (List AVal → AHeap A → Prop) → Prop) (a0 a1 : AVal) (h : AHeap A) (K : AVal → AHeap A → Prop) : funP Try.prog S G Try.f17 (.two none .leaf (.two none (.two none (.draw none (.take 0 (.take 2 (.take 3 (.take 4 (.load 5 (.take 6 (.alt 1 (.take 7 .stop) .stop)))))))) .leaf) (.two none (.two none .leaf (.one [] (.one [5] .leaf))) .leaf))) [a0, a1] h K = p_law9_sameBooks S G a0 a1 h K := by kernel_rfl
theorem c_law9_sameBooks {R : Adts A} {h : AHeap A} {K : AVal → AHeap A → Prop} {a0 a1 : AVal} (hk : p_law9_sameBooks (Tri Pr R) (Gives Pr R) a0 a1 h K) : Tri Pr R n_law9_sameBooks [a0, a1] h K :=
  tri_of_funP (by kernel_rfl) (fun _ _ _ _ h => h) (fun _ _ _ _ h => h) Try.func17 (by rw [q_law9_sameBooks]; exact hk)
/-- bastion/record.body -/
def p_record_body (S : FuncId → List AVal → AHeap A → (AVal → AHeap A → Prop) → Prop) (G : Nat → AHeap A → List AVal → (List AVal → AHeap A → Prop) → Prop) (a0 : AVal) (h : AHeap A) (K : AVal → AHeap A → Prop) : Prop :=
 nilP a0 fun v1 =>
 fadP 3 v1 fun v2 =>
 ldP 8 true v2 h fun v3 =>
 S n_event_Put [v3] h fun v4 h =>
 extP v4 0 fun v5 =>
 extP v4 1 fun v6 =>
 nilP a0 fun v7 =>
 fadP 0 v7 fun v8 =>
 nilP a0 fun v9 =>
 fadP 1 v9 fun v10 =>
 nilP a0 fun v11 =>
 fadP 2 v11 fun v12 =>
 ldP 1 false v8 h fun v13 =>
 ldP 1 false v10 h fun v14 =>
 ldP 1 false v12 h fun v15 =>
 ldV 1 false v10 h = some v14 ∧
 ldV 1 false v8 h = some v13 ∧
 bslP t_int 3 [.int .i64 0, .int .i64 0, .int .i64 0] [(0, 1, v13), (1, 1, v14), (2, 1, v15)] h fun v16 h =>
 S n_field_All [v16] h fun v17 h =>
 extP v17 0 fun v18 =>
 extP v17 1 fun v19 =>
 binP .neq .other v6 (.int .i64 0) fun v20 =>
 condP v20 false (fun k21 =>
 notP v19 fun v22 =>
 k21 v22 h)
 (.bool true) h fun v23 h =>
 condP v23 false (fun k24 =>
 nilP a0 fun v25 =>
 fadP 0 v25 fun v26 =>
 ldP 1 false v26 h fun v27 =>
 binP .lss .other v27 (.int .i64 1) fun v28 =>
 k24 v28 h)
 (.bool true) h fun v29 h =>
 condP v29 false (fun k30 =>
 nilP a0 fun v31 =>
 fadP 1 v31 fun v32 =>
 ldP 1 false v32 h fun v33 =>
 binP .lss .other v33 (.int .i64 1) fun v34 =>
 k30 v34 h)
 (.bool true) h fun v35 h =>
 condP v35 false (fun k36 =>
 lnsP v5 fun v37 =>
 binP .gtr .other v37 (.int .i64 44) fun v38 =>
 k36 v38 h)
 (.bool true) h fun v39 h =>
 iteP v39
 (K (.tup [.str [], .bool false]) h)
 (S n_field_Text [v5] h fun v40 h =>
 extP v40 0 fun v41 =>
 extP v40 1 fun v42 =>
 binP .add .other v18 v41 fun v43 =>
 K (.tup [v43, .bool true]) h)
theorem q_record_body (S : FuncId → List AVal → AHeap A → (AVal → AHeap A → Prop) → Prop) (G : Nat → AHeap A → List AVal → (List AVal → AHeap A → Prop) → Prop) (a0 : AVal) (h : AHeap A) (K : AVal → AHeap A → Prop) : funP Try.prog S G Try.f18 (.two none .leaf (.two none .leaf (.two none (.draw none (.take 0 (.take 1 (.take 2 (.take 4 (.take 5 (.take 6 (.take 8 (.take 9 (.take 10 (.load 3 (.load 7 (.alt 11 (.alt 12 (.alt 13 (.take 14 (.take 15 (.take 16 (.take 17 (.take 18 .stop))))) .stop) .stop) .stop))))))))))))) .leaf))) [a0] h K = p_record_body S G a0 h K := by kernel_rfl
theorem c_record_body {R : Adts A} {h : AHeap A} {K : AVal → AHeap A → Prop} {a0 : AVal} (hk : p_record_body (Tri Pr R) (Gives Pr R) a0 h K) : Tri Pr R n_record_body [a0] h K :=
  tri_of_funP (by kernel_rfl) (fun _ _ _ _ h => h) (fun _ _ _ _ h => h) Try.func18 (by rw [q_record_body]; exact hk)
/-- bastion/craft.Hash -/
def p_craft_Hash (S : FuncId → List AVal → AHeap A → (AVal → AHeap A → Prop) → Prop) (G : Nat → AHeap A → List AVal → (List AVal → AHeap A → Prop) → Prop) (a0 a1 : AVal) (h : AHeap A) (K : AVal → AHeap A → Prop) : Prop :=
 binP .add .other (.str [72]) a1 fun v1 =>
 S n_craft_named [a0, v1, .bool true] h fun v2 h =>
 extP v2 0 fun v3 =>
 extP v2 1 fun v4 =>
 K (.tup [v3, v4]) h
theorem q_craft_Hash (S : FuncId → List AVal → AHeap A → (AVal → AHeap A → Prop) → Prop) (G : Nat → AHeap A → List AVal → (List AVal → AHeap A → Prop) → Prop) (a0 a1 : AVal) (h : AHeap A) (K : AVal → AHeap A → Prop) : funP Try.prog S G Try.f19 .leaf [a0, a1] h K = p_craft_Hash S G a0 a1 h K := by kernel_rfl
theorem c_craft_Hash {R : Adts A} {h : AHeap A} {K : AVal → AHeap A → Prop} {a0 a1 : AVal} (hk : p_craft_Hash (Tri Pr R) (Gives Pr R) a0 a1 h K) : Tri Pr R n_craft_Hash [a0, a1] h K :=
  tri_of_funP (by kernel_rfl) (fun _ _ _ _ h => h) (fun _ _ _ _ h => h) Try.func19 (by rw [q_craft_Hash]; exact hk)
/-- bastion/field.Num -/
def p_field_Num (S : FuncId → List AVal → AHeap A → (AVal → AHeap A → Prop) → Prop) (G : Nat → AHeap A → List AVal → (List AVal → AHeap A → Prop) → Prop) (a0 : AVal) (h : AHeap A) (K : AVal → AHeap A → Prop) : Prop :=
 S n_field_NumMay [a0] h fun v1 h =>
 notP v1 fun v2 =>
 iteP v2
 (K (.tup [.str [], .int .i64 100]) h)
 (S n_field_width [a0] h fun v3 h =>
 cviP .u8 v3 fun v4 =>
 bslP t_uint8 1 [.int .u8 0] [(0, 1, v4)] h fun v5 h =>
 joinP G h.length (fun k6 =>
 joinP G h.length (fun k7 =>
 joinP G h.length (fun k8 =>
 joinP G h.length (fun k9 =>
 binP .eql .other v3 (.int .i64 4) fun v10 =>
 iteP v10
 (binP .shr .other a0 (.int .u64 24) fun v11 =>
 cviP .u8 v11 fun v12 =>
 bslP t_uint8 1 [.int .u8 0] [(0, 1, v12)] h fun v13 h =>
 appP t_uint8 1 1 v5 v13 h fun v14 h =>
 k9 [v14] h)
 (binP .eql .other v3 (.int .i64 3) fun v15 =>
 iteP v15
 (k9 [v5] h)
 (binP .eql .other v3 (.int .i64 2) fun v16 =>
 iteP v16
 (k8 [v5] h)
 (binP .eql .other v3 (.int .i64 1) fun v17 =>
 iteP v17
 (k7 [v5] h)
 (k6 [v5] h)))))
 (fun v23 h =>
 (fun v18 =>
 binP .shr .other a0 (.int .u64 16) fun v19 =>
 cviP .u8 v19 fun v20 =>
 bslP t_uint8 1 [.int .u8 0] [(0, 1, v20)] h fun v21 h =>
 appP t_uint8 1 1 v18 v21 h fun v22 h =>
 k8 [v22] h) (v23.getD 0 .any)))
 (fun v29 h =>
 (fun v24 =>
 binP .shr .other a0 (.int .u64 8) fun v25 =>
 cviP .u8 v25 fun v26 =>
 bslP t_uint8 1 [.int .u8 0] [(0, 1, v26)] h fun v27 h =>
 appP t_uint8 1 1 v24 v27 h fun v28 h =>
 k7 [v28] h) (v29.getD 0 .any)))
 (fun v34 h =>
 (fun v30 =>
 cviP .u8 a0 fun v31 =>
 bslP t_uint8 1 [.int .u8 0] [(0, 1, v31)] h fun v32 h =>
 appP t_uint8 1 1 v30 v32 h fun v33 h =>
 k6 [v33] h) (v34.getD 0 .any)))
 (fun v37 h =>
 (fun v35 =>
 b2sP v35 h fun v36 =>
 K (.tup [v36, .int .i64 0]) h) (v37.getD 0 .any)))
theorem q_field_Num (S : FuncId → List AVal → AHeap A → (AVal → AHeap A → Prop) → Prop) (G : Nat → AHeap A → List AVal → (List AVal → AHeap A → Prop) → Prop) (a0 : AVal) (h : AHeap A) (K : AVal → AHeap A → Prop) : funP Try.prog S G Try.f20 (.two none .leaf (.two none .leaf (.two none .leaf (.two none .leaf (.two (some [5]) (.two none .leaf (.one [] (.two (some [5]) (.one [] (.two (some [5]) (.one [] (.two (some [5]) .leaf .leaf)) .leaf)) .leaf))) .leaf))))) [a0] h K = p_field_Num S G a0 h K := by kernel_rfl
theorem c_field_Num {R : Adts A} {h : AHeap A} {K : AVal → AHeap A → Prop} {a0 : AVal} (hk : p_field_Num (Tri Pr R) (Gives Pr R) a0 h K) : Tri Pr R n_field_Num [a0] h K :=
  tri_of_funP (by kernel_rfl) (fun _ _ _ _ h => h) (fun _ _ _ _ h => h) Try.func20 (by rw [q_field_Num]; exact hk)
/-- bastion/record.Fill -/
def p_record_Fill (S : FuncId → List AVal → AHeap A → (AVal → AHeap A → Prop) → Prop) (G : Nat → AHeap A → List AVal → (List AVal → AHeap A → Prop) → Prop) (a0 : AVal) (h : AHeap A) (K : AVal → AHeap A → Prop) : Prop :=
 lnsP a0 fun v1 =>
 binP .gtr .other v1 (.int .i64 64) fun v2 =>
 iteP v2
 (K (.tup [.str [], .bool false]) h)
 (lnsP a0 fun v3 =>
 binP .sub .other (.int .i64 64) v3 fun v4 =>
 mkslP t_uint8 1 1 [.int .u8 0] v4 v4 h fun v5 h =>
 b2sP v5 h fun v6 =>
 binP .add .other a0 v6 fun v7 =>
 K (.tup [v7, .bool true]) h)
theorem q_record_Fill (S : FuncId → List AVal → AHeap A → (AVal → AHeap A → Prop) → Prop) (G : Nat → AHeap A → List AVal → (List AVal → AHeap A → Prop) → Prop) (a0 : AVal) (h : AHeap A) (K : AVal → AHeap A → Prop) : funP Try.prog S G Try.f21 .leaf [a0] h K = p_record_Fill S G a0 h K := by kernel_rfl
theorem c_record_Fill {R : Adts A} {h : AHeap A} {K : AVal → AHeap A → Prop} {a0 : AVal} (hk : p_record_Fill (Tri Pr R) (Gives Pr R) a0 h K) : Tri Pr R n_record_Fill [a0] h K :=
  tri_of_funP (by kernel_rfl) (fun _ _ _ _ h => h) (fun _ _ _ _ h => h) Try.func21 (by rw [q_record_Fill]; exact hk)
/-- bastion/record.read -/
def p_record_read (S : FuncId → List AVal → AHeap A → (AVal → AHeap A → Prop) → Prop) (G : Nat → AHeap A → List AVal → (List AVal → AHeap A → Prop) → Prop) (a0 a1 : AVal) (h : AHeap A) (K : AVal → AHeap A → Prop) : Prop :=
 newP t_api_Record (reps 11 (.int .i64 0)) h fun v1 h =>
 bldP [.str [], .int .i64 0, .nili] [(0, 1, a1)] fun v2 =>
 boxP t_field_Reader 3 v2 h fun v3 h =>
 S n_field_Reader_Num [v3] h fun v4 h =>
 S n_field_Reader_Num [v3] h fun v5 h =>
 S n_field_Reader_Num [v3] h fun v6 h =>
 bldP [.int .i64 0, .int .i64 0, .int .i64 0, .int .i64 0, .int .i64 0, .int .i64 0, .int .i64 0, .int .i64 0, .int .i64 0, .int .i64 0, .int .i64 0] [(0, 1, v4), (1, 1, v5), (2, 1, v6)] fun v7 =>
 newP t_api_Record (reps 11 (.int .i64 0)) h fun v8 h =>
 stP 11 v8 v7 h fun h =>
 S n_field_Reader_Text [v3] h fun v9 h =>
 S n_event_Get [v9] h fun v10 h =>
 extP v10 0 fun v11 =>
 extP v10 1 fun v12 =>
 newP t_api_Event [.int .i64 0, .int .i64 0, .int .i64 0, .int .i64 0, .int .i64 0, .int .i64 0, .int .i64 0, .int .i64 0] h fun v13 h =>
 stP 8 v13 v11 h fun h =>
 ldP 8 true v13 h fun v14 =>
 fadP 3 v8 fun v15 =>
 stP 8 v15 v14 h fun h =>
 nilP v3 fun v16 =>
 fadP 1 v16 fun v17 =>
 ldP 1 false v17 h fun v18 =>
 S n_field_Reader_Num [v3] h fun v19 h =>
 nilP v3 fun v20 =>
 fadP 2 v20 fun v21 =>
 ldP 1 false v21 h fun v22 =>
 binP .neq .ifc v22 .nili fun v23 =>
 condP v23 false (fun k24 =>
 binP .neq .other v12 (.int .i64 0) fun v25 =>
 k24 v25 h)
 (.bool true) h fun v26 h =>
 condP v26 false (fun k27 =>
 lnsP a1 fun v28 =>
 binP .neq .other v28 (.int .i64 64) fun v29 =>
 k27 v29 h)
 (.bool true) h fun v30 h =>
 iteP v30
 (bldP [.int .i64 0, .int .i64 0, .int .i64 0, .int .i64 0, .int .i64 0, .int .i64 0, .int .i64 0, .int .i64 0, .int .i64 0, .int .i64 0, .int .i64 0] [] fun v31 =>
 stP 11 v1 v31 h fun h =>
 ldP 11 true v1 h fun v32 =>
 K (.tup [v32, .int .i64 0, .bool false]) h)
 (S n_record_body [v8] h fun v33 h =>
 extP v33 0 fun v34 =>
 extP v33 1 fun v35 =>
 joinP G h.length (fun k36 =>
 notP v35 fun v37 =>
 iteP v37
 (k36 [.bool true] h)
 (subP a1 none (some v18) fun v38 =>
 binP .neq .other v34 v38 fun v39 =>
 iteP v39
 (k36 [.bool true] h)
 (binP .add .other (.str [114, 101, 99, 111, 114, 100]) v34 fun v40 =>
 S n_craft_IsHash [a0, v40, v19] h fun v41 h =>
 notP v41 fun v42 =>
 iteP v42
 (k36 [.bool true] h)
 (nilP v3 fun v43 =>
 fadP 1 v43 fun v44 =>
 lnsP a1 fun v45 =>
 nilP v3 fun v46 =>
 fadP 1 v46 fun v47 =>
 ldP 1 false v44 h fun v48 =>
 subP a1 (some v48) none fun v49 =>
 ldP 1 false v47 h fun v50 =>
 ldV 1 false v44 h = some v48 ∧
 binP .sub .other v45 v50 fun v51 =>
 mkslP t_uint8 1 1 [.int .u8 0] v51 v51 h fun v52 h =>
 ldV 1 false v44 h = some v48 ∧
 b2sP v52 h fun v53 =>
 ldV 1 false v44 h = some v48 ∧
 binP .neq .other v49 v53 fun v54 =>
 k36 [v54] h))))
 (fun v60 h =>
 (fun v55 =>
 iteP v55
 (bldP [.int .i64 0, .int .i64 0, .int .i64 0, .int .i64 0, .int .i64 0, .int .i64 0, .int .i64 0, .int .i64 0, .int .i64 0, .int .i64 0, .int .i64 0] [] fun v56 =>
 stP 11 v1 v56 h fun h =>
 ldP 11 true v1 h fun v57 =>
 K (.tup [v57, .int .i64 0, .bool false]) h)
 (ldP 11 true v8 h fun v58 =>
 stP 11 v1 v58 h fun h =>
 ldP 11 true v1 h fun v59 =>
 K (.tup [v59, v19, .bool true]) h)) (v60.getD 0 .any)))
theorem q_record_read (S : FuncId → List AVal → AHeap A → (AVal → AHeap A → Prop) → Prop) (G : Nat → AHeap A → List AVal → (List AVal → AHeap A → Prop) → Prop) (a0 a1 : AVal) (h : AHeap A) (K : AVal → AHeap A → Prop) : funP Try.prog S G Try.f22 (.two none .leaf (.two none .leaf (.two none .leaf (.two none .leaf (.two none .leaf (.two none .leaf (.two none .leaf (.two none .leaf (.two none .leaf (.two none (.two none (.draw (some [92]) (.take 0 (.take 1 (.take 2 (.split 2 (.skip 3 (.skip 4 (.skip 5 (.skip 6 (.skip 7 (.take 8 (.take 9 (.known 9 true (.skip 10 (.skip 11 (.skip 12 (.skip 13 (.skip 14 (.skip 15 (.take 16 (.take 17 (.known 17 true (.skip 18 (.skip 19 (.skip 20 (.skip 21 (.skip 22 (.skip 23 (.skip 24 (.skip 25 (.skip 26 (.skip 27 (.skip 28 (.skip 29 (.skip 30 (.skip 31 (.skip 32 (.skip 33 (.take 34 .stop)))))))))))))))))))))))))))))))))) (.take 3 (.take 4 (.take 5 (.take 6 (.take 7 (.take 8 (.take 9 (.split 9 (.skip 10 (.skip 11 (.skip 12 (.skip 13 (.skip 14 (.skip 15 (.take 16 (.take 17 (.known 17 true (.skip 18 (.skip 19 (.skip 20 (.skip 21 (.skip 22 (.skip 23 (.skip 24 (.skip 25 (.skip 26 (.skip 27 (.skip 28 (.skip 29 (.skip 30 (.skip 31 (.skip 32 (.skip 33 (.take 34 .stop)))))))))))))))))))))))))) (.take 10 (.take 11 (.take 12 (.take 13 (.alt 14 (.take 15 (.take 16 (.take 17 (.split 17 (.skip 18 (.skip 19 (.skip 20 (.skip 21 (.skip 22 (.skip 23 (.skip 24 (.skip 25 (.skip 26 (.skip 27 (.skip 28 (.skip 29 (.skip 30 (.skip 31 (.skip 32 (.skip 33 (.take 34 .stop))))))))))))))))) (.take 18 (.take 19 (.take 20 (.take 21 (.take 24 (.take 25 (.take 26 (.take 27 (.take 28 (.load 22 (.take 23 (.alt 29 (.take 30 (.alt 31 (.alt 32 (.take 33 (.take 34 .stop)) .stop) .stop)) .stop)))))))))))))))) .stop)))))))))))))))))) .leaf) .leaf)))))))))) [a0, a1] h K = p_record_read S G a0 a1 h K := by kernel_rfl
theorem c_record_read {R : Adts A} {h : AHeap A} {K : AVal → AHeap A → Prop} {a0 a1 : AVal} (hk : p_record_read (Tri Pr R) (Gives Pr R) a0 a1 h K) : Tri Pr R n_record_read [a0, a1] h K :=
  tri_of_funP (by kernel_rfl) (fun _ _ _ _ h => h) (fun _ _ _ _ h => h) Try.func22 (by rw [q_record_read]; exact hk)
/-- bastion/bastionref1.NewBook -/
def p_ref1_NewBook (S : FuncId → List AVal → AHeap A → (AVal → AHeap A → Prop) → Prop) (G : Nat → AHeap A → List AVal → (List AVal → AHeap A → Prop) → Prop) (a0 : AVal) (h : AHeap A) (K : AVal → AHeap A → Prop) : Prop :=
 binP .lss .other a0 (.int .i64 1) fun v1 =>
 condP v1 false (fun k2 =>
 binP .gtr .other a0 (.int .i64 65536) fun v3 =>
 k2 v3 h)
 (.bool true) h fun v4 h =>
 iteP v4
 (K (.tup [.nilp, .int .i64 200]) h)
 (bldP [.int .i64 0, .nils] [(0, 1, a0)] fun v5 =>
 boxP t_bastionref1_Book 2 v5 h fun v6 h =>
 K (.tup [v6, .int .i64 0]) h)
theorem q_ref1_NewBook (S : FuncId → List AVal → AHeap A → (AVal → AHeap A → Prop) → Prop) (G : Nat → AHeap A → List AVal → (List AVal → AHeap A → Prop) → Prop) (a0 : AVal) (h : AHeap A) (K : AVal → AHeap A → Prop) : funP Try.prog S G Try.f23 .leaf [a0] h K = p_ref1_NewBook S G a0 h K := by kernel_rfl
theorem c_ref1_NewBook {R : Adts A} {h : AHeap A} {K : AVal → AHeap A → Prop} {a0 : AVal} (hk : p_ref1_NewBook (Tri Pr R) (Gives Pr R) a0 h K) : Tri Pr R n_ref1_NewBook [a0] h K :=
  tri_of_funP (by kernel_rfl) (fun _ _ _ _ h => h) (fun _ _ _ _ h => h) Try.func23 (by rw [q_ref1_NewBook]; exact hk)
/-- (*bastion/book.Book).Name -/
def p_book_Book_Name (S : FuncId → List AVal → AHeap A → (AVal → AHeap A → Prop) → Prop) (G : Nat → AHeap A → List AVal → (List AVal → AHeap A → Prop) → Prop) (a0 a1 : AVal) (h : AHeap A) (K : AVal → AHeap A → Prop) : Prop :=
 binP .eql .ptr a0 .nilp fun v1 =>
 iteP v1
 (K (.tup [.int .i64 0, .int .i64 1]) h)
 (binP .eql .other a1 (.str []) fun v2 =>
 condP v2 false (fun k3 =>
 lnsP a1 fun v4 =>
 binP .gtr .other v4 (.int .i64 512) fun v5 =>
 k3 v5 h)
 (.bool true) h fun v6 h =>
 iteP v6
 (K (.tup [.int .i64 0, .int .i64 200]) h)
 (nilP a0 fun v7 =>
 fadP 2 v7 fun v8 =>
 ldP 1 false v8 h fun v9 =>
 lkP true (.int .i64 0) true v9 a1 h fun v10 =>
 extP v10 0 fun v11 =>
 extP v10 1 fun v12 =>
 iteP v12
 (K (.tup [v11, .int .i64 0]) h)
 (nilP a0 fun v13 =>
 fadP 1 v13 fun v14 =>
 nilP a0 fun v15 =>
 fadP 0 v15 fun v16 =>
 ldP 1 false v14 h fun v17 =>
 lenP v17 fun v18 =>
 ldP 1 false v16 h fun v19 =>
 ldV 1 false v14 h = some v17 ∧
 binP .geq .other v18 v19 fun v20 =>
 iteP v20
 (K (.tup [.int .i64 0, .int .i64 201]) h)
 (nilP a0 fun v21 =>
 fadP 1 v21 fun v22 =>
 ldP 1 false v22 h fun v23 =>
 lenP v23 fun v24 =>
 nilP a0 fun v25 =>
 fadP 2 v25 fun v26 =>
 nilP a0 fun v27 =>
 fadP 1 v27 fun v28 =>
 ldP 1 false v26 h fun v29 =>
 ldP 1 false v28 h fun v30 =>
 bslP t_string 1 [.str []] [(0, 1, a1)] h fun v31 h =>
 ldV 1 false v28 h = some v30 ∧
 ldV 1 false v26 h = some v29 ∧
 appP t_string 1 16 v30 v31 h fun v32 h =>
 ldV 1 false v26 h = some v29 ∧
 nilP a0 fun v33 =>
 fadP 1 v33 fun v34 =>
 stP 1 v34 v32 h fun h =>
 mentP true (.int .i64 0) v29 a1 h fun v35 h =>
 extP v35 1 fun v36 =>
 estP v29 v36 v24 h fun h =>
 K (.tup [v24, .int .i64 0]) h))))
theorem q_book_Book_Name (S : FuncId → List AVal → AHeap A → (AVal → AHeap A → Prop) → Prop) (G : Nat → AHeap A → List AVal → (List AVal → AHeap A → Prop) → Prop) (a0 a1 : AVal) (h : AHeap A) (K : AVal → AHeap A → Prop) : funP Try.prog S G Try.f24 (.two none .leaf (.two none .leaf (.two none .leaf (.two none (.two none (.draw none (.take 0 (.take 1 (.take 2 (.take 5 (.take 6 (.take 7 (.load 3 (.take 4 (.alt 8 (.take 9 .stop) .stop)))))))))) .leaf) (.two none .leaf (.two none (.draw none (.take 0 (.take 1 (.take 2 (.take 3 (.take 5 (.take 6 (.take 7 (.take 8 (.take 10 (.take 13 (.load 4 (.load 9 (.alt 11 (.alt 12 (.take 14 (.take 15 (.alt 16 (.alt 17 (.take 18 (.alt 19 .stop .stop)) .stop) .stop))) .stop) .stop)))))))))))))) .leaf)))))) [a0, a1] h K = p_book_Book_Name S G a0 a1 h K := by kernel_rfl
theorem c_book_Book_Name {R : Adts A} {h : AHeap A} {K : AVal → AHeap A → Prop} {a0 a1 : AVal} (hk : p_book_Book_Name (Tri Pr R) (Gives Pr R) a0 a1 h K) : Tri Pr R n_book_Book_Name [a0, a1] h K :=
  tri_of_funP (by kernel_rfl) (fun _ _ _ _ h => h) (fun _ _ _ _ h => h) Try.func24 (by rw [q_book_Book_Name]; exact hk)
/-- (*bastion/bastionref1.Book).Name -/
def p_ref1_Book_Name (S : FuncId → List AVal → AHeap A → (AVal → AHeap A → Prop) → Prop) (G : Nat → AHeap A → List AVal → (List AVal → AHeap A → Prop) → Prop) (a0 a1 : AVal) (h : AHeap A) (K : AVal → AHeap A → Prop) : Prop :=
 lnsP a1 fun v1 =>
 binP .lss .other v1 (.int .i64 1) fun v2 =>
 condP v2 false (fun k3 =>
 lnsP a1 fun v4 =>
 binP .gtr .other v4 (.int .i64 512) fun v5 =>
 k3 v5 h)
 (.bool true) h fun v6 h =>
 iteP v6
 (K (.tup [.int .i64 0, .int .i64 200]) h)
 (S n_ref1_Book_Find [a0, a1] h fun v7 h =>
 extP v7 0 fun v8 =>
 extP v7 1 fun v9 =>
 iteP v9
 (K (.tup [v8, .int .i64 0]) h)
 (nilP a0 fun v10 =>
 fadP 1 v10 fun v11 =>
 nilP a0 fun v12 =>
 fadP 0 v12 fun v13 =>
 ldP 1 false v11 h fun v14 =>
 lenP v14 fun v15 =>
 ldP 1 false v13 h fun v16 =>
 ldV 1 false v11 h = some v14 ∧
 binP .geq .other v15 v16 fun v17 =>
 iteP v17
 (K (.tup [.int .i64 0, .int .i64 201]) h)
 (nilP a0 fun v18 =>
 fadP 1 v18 fun v19 =>
 ldP 1 false v19 h fun v20 =>
 bslP t_string 1 [.str []] [(0, 1, a1)] h fun v21 h =>
 appP t_string 1 16 v20 v21 h fun v22 h =>
 nilP a0 fun v23 =>
 fadP 1 v23 fun v24 =>
 stP 1 v24 v22 h fun h =>
 nilP a0 fun v25 =>
 fadP 1 v25 fun v26 =>
 ldP 1 false v26 h fun v27 =>
 lenP v27 fun v28 =>
 binP .sub .other v28 (.int .i64 1) fun v29 =>
 K (.tup [v29, .int .i64 0]) h)))
theorem q_ref1_Book_Name (S : FuncId → List AVal → AHeap A → (AVal → AHeap A → Prop) → Prop) (G : Nat → AHeap A → List AVal → (List AVal → AHeap A → Prop) → Prop) (a0 a1 : AVal) (h : AHeap A) (K : AVal → AHeap A → Prop) : funP Try.prog S G Try.f25 (.two none .leaf (.two none .leaf (.two none .leaf (.two none .leaf (.two none (.two none (.draw none (.take 0 (.take 1 (.take 2 (.take 5 (.take 6 (.take 7 (.load 3 (.take 4 (.alt 8 (.take 9 .stop) .stop)))))))))) .leaf) .leaf))))) [a0, a1] h K = p_ref1_Book_Name S G a0 a1 h K := by kernel_rfl
theorem c_ref1_Book_Name {R : Adts A} {h : AHeap A} {K : AVal → AHeap A → Prop} {a0 a1 : AVal} (hk : p_ref1_Book_Name (Tri Pr R) (Gives Pr R) a0 a1 h K) : Tri Pr R n_ref1_Book_Name [a0, a1] h K :=
  tri_of_funP (by kernel_rfl) (fun _ _ _ _ h => h) (fun _ _ _ _ h => h) Try.func25 (by rw [q_ref1_Book_Name]; exact hk)
end Go.AI
