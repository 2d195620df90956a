/- The functions as texts over the abstract heap. -/
import Derived.Test.YtkpoknhlecgbnaaNm
import Derived.KernelRfl
set_option linter.all false
namespace Go.AI
open Go.Proofs
set_option maxRecDepth 1000000
variable {A : Type}
/-- bastion/bastionlaw10.awake -/
def p_law10_awake (S : FuncId → List AVal → AHeap A → (AVal → AHeap A → Prop) → Prop) (G : Nat → AHeap A → List AVal → (List AVal → AHeap A → Prop) → Prop) (h : AHeap A) (K : AVal → AHeap A → Prop) : Prop :=
 S n_law10_twin [.int .i64 9, .nils] h fun v1 h =>
 extP v1 0 fun v2 =>
 extP v1 1 fun v3 =>
 binP .eql .ptr v2 .nilp fun v4 =>
 condP v4 false (fun k5 =>
 binP .eql .ptr v3 .nilp fun v6 =>
 k5 v6 h)
 (.bool true) h fun v7 h =>
 iteP v7
 (K (.bool false) h)
 (S n_super_Put [v2, .int .i64 3] h fun v8 h =>
 extP v8 0 fun v9 =>
 extP v8 1 fun v10 =>
 S n_super_Put [v2, .int .i64 300] h fun v11 h =>
 extP v11 0 fun v12 =>
 extP v11 1 fun v13 =>
 S n_super_Get [v2, v12] h fun v14 h =>
 extP v14 0 fun v15 =>
 extP v14 1 fun v16 =>
 S n_super_Put [v2, .int .i64 0] h fun v17 h =>
 extP v17 0 fun v18 =>
 extP v17 1 fun v19 =>
 S n_super_Pick [v2, v9, v12] h fun v20 h =>
 extP v20 0 fun v21 =>
 extP v20 1 fun v22 =>
 extP v20 2 fun v23 =>
 S n_super_Pick [v2, .str [], .str []] h fun v24 h =>
 extP v24 0 fun v25 =>
 extP v24 1 fun v26 =>
 extP v24 2 fun v27 =>
 S n_super_Pick [v2, v9, .str [116, 111, 114, 110]] h fun v28 h =>
 extP v28 0 fun v29 =>
 extP v28 1 fun v30 =>
 extP v28 2 fun v31 =>
 S n_super_Get [.nilp, v9] h fun v32 h =>
 extP v32 0 fun v33 =>
 extP v32 1 fun v34 =>
 S n_law0_Num [v10] h fun v35 h =>
 binP .eql .other v35 (.int .i64 0) fun v36 =>
 condP v36 true (fun k37 =>
 lnsP v9 fun v38 =>
 binP .eql .other v38 (.int .i64 64) fun v39 =>
 k37 v39 h)
 (.bool false) h fun v40 h =>
 condP v40 true (fun k41 =>
 subP v9 none (some (.int .i64 3)) fun v42 =>
 binP .eql .other v42 (.str [1, 3, 0]) fun v43 =>
 k41 v43 h)
 (.bool false) h fun v44 h =>
 condP v44 true (fun k45 =>
 S n_law0_Num [v13] h fun v46 h =>
 binP .eql .other v46 (.int .i64 0) fun v47 =>
 k45 v47 h)
 (.bool false) h fun v48 h =>
 condP v48 true (fun k49 =>
 binP .eql .other v15 (.int .i64 300) fun v50 =>
 k49 v50 h)
 (.bool false) h fun v51 h =>
 condP v51 true (fun k52 =>
 S n_law0_Num [v16] h fun v53 h =>
 binP .eql .other v53 (.int .i64 0) fun v54 =>
 k52 v54 h)
 (.bool false) h fun v55 h =>
 condP v55 true (fun k56 =>
 S n_law0_Num [v19] h fun v57 h =>
 binP .eql .other v57 (.int .i64 1000) fun v58 =>
 k56 v58 h)
 (.bool false) h fun v59 h =>
 condP v59 true (fun k60 =>
 binP .eql .other v21 (.int .i64 300) fun v61 =>
 k60 v61 h)
 (.bool false) h fun v62 h =>
 condP v62 true (fun k63 =>
 binP .eql .other v22 (.int .i64 0) fun v64 =>
 k63 v64 h)
 (.bool false) h fun v65 h =>
 condP v65 true (fun k66 =>
 S n_law0_Num [v23] h fun v67 h =>
 binP .eql .other v67 (.int .i64 0) fun v68 =>
 k66 v68 h)
 (.bool false) h fun v69 h =>
 condP v69 true (fun k70 =>
 S n_law0_Num [v27] h fun v71 h =>
 binP .eql .other v71 (.int .i64 1001) fun v72 =>
 k70 v72 h)
 (.bool false) h fun v73 h =>
 condP v73 true (fun k74 =>
 binP .eql .other v29 (.int .i64 3) fun v75 =>
 k74 v75 h)
 (.bool false) h fun v76 h =>
 condP v76 true (fun k77 =>
 binP .eql .other v30 (.int .i64 1) fun v78 =>
 k77 v78 h)
 (.bool false) h fun v79 h =>
 condP v79 true (fun k80 =>
 S n_law0_Num [v31] h fun v81 h =>
 binP .eql .other v81 (.int .i64 0) fun v82 =>
 k80 v82 h)
 (.bool false) h fun v83 h =>
 condP v83 true (fun k84 =>
 S n_law0_Num [v34] h fun v85 h =>
 binP .eql .other v85 (.int .i64 1) fun v86 =>
 k84 v86 h)
 (.bool false) h fun v87 h =>
 K v87 h)
theorem q_law10_awake (S : FuncId → List AVal → AHeap A → (AVal → AHeap A → Prop) → Prop) (G : Nat → AHeap A → List AVal → (List AVal → AHeap A → Prop) → Prop) (h : AHeap A) (K : AVal → AHeap A → Prop) : funP Try.prog S G Try.f18 .leaf [] h K = p_law10_awake S G h K := by kernel_rfl
theorem c_law10_awake {R : Adts A} {h : AHeap A} {K : AVal → AHeap A → Prop} (hk : p_law10_awake (Tri Pr R) (Gives Pr R) h K) : Tri Pr R n_law10_awake [] h K :=
  tri_of_funP (by kernel_rfl) (fun _ _ _ _ h => h) (fun _ _ _ _ h => h) Try.func18 (by rw [q_law10_awake]; exact hk)
/-- bastion/bastionlaw10.twin -/
def p_law10_twin (S : FuncId → List AVal → AHeap A → (AVal → AHeap A → Prop) → Prop) (G : Nat → AHeap A → List AVal → (List AVal → AHeap A → Prop) → Prop) (a0 a1 : AVal) (h : AHeap A) (K : AVal → AHeap A → Prop) : Prop :=
 S n_book_New [a0] h fun v1 h =>
 extP v1 0 fun v2 =>
 extP v1 1 fun v3 =>
 S n_ref1_NewBook [a0] h fun v4 h =>
 extP v4 0 fun v5 =>
 extP v4 1 fun v6 =>
 S n_law0_Num [v3] h fun v7 h =>
 binP .neq .other v7 (.int .i64 0) fun v8 =>
 condP v8 false (fun k9 =>
 binP .neq .other v6 (.int .i64 0) fun v10 =>
 k9 v10 h)
 (.bool true) h fun v11 h =>
 condP v11 false (fun k12 =>
 binP .eql .ptr v2 .nilp fun v13 =>
 k12 v13 h)
 (.bool true) h fun v14 h =>
 iteP v14
 (K (.tup [.nilp, .nilp]) h)
 (loopP G (fun v29 h k16 =>
 (fun v15 =>
 lenP a1 fun v17 =>
 binP .lss .other v15 v17 fun v18 =>
 condP v18 true (fun k19 =>
 binP .lss .other v15 (.int .i64 400) fun v20 =>
 k19 v20 h)
 (.bool false) h fun v21 h =>
 iteP v21
 (idxP 1 a1 v15 fun v22 =>
 ldP 1 false v22 h fun v23 =>
 S n_book_Book_Name [v2, v23] h fun v24 h =>
 idxP 1 a1 v15 fun v25 =>
 ldP 1 false v25 h fun v26 =>
 S n_ref1_Book_Name [v5, v26] h fun v27 h =>
 binP .add .other v15 (.int .i64 1) fun v28 =>
 k16 [v28] h)
 (K (.tup [v2, v5]) h)) (v29.getD 0 .any)) [.int .i64 0] h)
theorem q_law10_twin (S : FuncId → List AVal → AHeap A → (AVal → AHeap A → Prop) → Prop) (G : Nat → AHeap A → List AVal → (List AVal → AHeap A → Prop) → Prop) (a0 a1 : AVal) (h : AHeap A) (K : AVal → AHeap A → Prop) : funP Try.prog S G Try.f19 (.two none .leaf (.two none .leaf (.two none .leaf (.two none .leaf (.two none (.two none .leaf (.one [] (.one [10] .leaf))) .leaf))))) [a0, a1] h K = p_law10_twin S G a0 a1 h K := by kernel_rfl
theorem c_law10_twin {R : Adts A} {h : AHeap A} {K : AVal → AHeap A → Prop} {a0 a1 : AVal} (hk : p_law10_twin (Tri Pr R) (Gives Pr R) a0 a1 h K) : Tri Pr R n_law10_twin [a0, a1] h K :=
  tri_of_funP (by kernel_rfl) (fun _ _ _ _ h => h) (fun _ _ _ _ h => h) Try.func19 (by rw [q_law10_twin]; exact hk)
/-- bastion/super.Put -/
def p_super_Put (S : FuncId → List AVal → AHeap A → (AVal → AHeap A → Prop) → Prop) (G : Nat → AHeap A → List AVal → (List AVal → AHeap A → Prop) → Prop) (a0 a1 : AVal) (h : AHeap A) (K : AVal → AHeap A → Prop) : Prop :=
 binP .eql .ptr a0 .nilp fun v1 =>
 iteP v1
 (K (.tup [.str [], .int .i64 1]) h)
 (S n_super_may [a1] h fun v2 h =>
 notP v2 fun v3 =>
 iteP v3
 (K (.tup [.str [], .int .i64 1000]) h)
 (S n_field_Num [a1] h fun v4 h =>
 extP v4 0 fun v5 =>
 extP v4 1 fun v6 =>
 binP .add .other (.str [115, 117, 112, 101, 114]) v5 fun v7 =>
 S n_craft_Hash [a0, v7] h fun v8 h =>
 extP v8 0 fun v9 =>
 extP v8 1 fun v10 =>
 binP .neq .other v10 (.int .i64 0) fun v11 =>
 iteP v11
 (K (.tup [.str [], .int .i64 1000]) h)
 (S n_field_Num [v9] h fun v12 h =>
 extP v12 0 fun v13 =>
 extP v12 1 fun v14 =>
 binP .add .other v5 v13 fun v15 =>
 S n_record_Fill [v15] h fun v16 h =>
 extP v16 0 fun v17 =>
 extP v16 1 fun v18 =>
 K (.tup [v17, .int .i64 0]) h)))
theorem q_super_Put (S : FuncId → List AVal → AHeap A → (AVal → AHeap A → Prop) → Prop) (G : Nat → AHeap A → List AVal → (List AVal → AHeap A → Prop) → Prop) (a0 a1 : AVal) (h : AHeap A) (K : AVal → AHeap A → Prop) : funP Try.prog S G Try.f20 .leaf [a0, a1] h K = p_super_Put S G a0 a1 h K := by kernel_rfl
theorem c_super_Put {R : Adts A} {h : AHeap A} {K : AVal → AHeap A → Prop} {a0 a1 : AVal} (hk : p_super_Put (Tri Pr R) (Gives Pr R) a0 a1 h K) : Tri Pr R n_super_Put [a0, a1] h K :=
  tri_of_funP (by kernel_rfl) (fun _ _ _ _ h => h) (fun _ _ _ _ h => h) Try.func20 (by rw [q_super_Put]; exact hk)
/-- bastion/super.Pick -/
def p_super_Pick (S : FuncId → List AVal → AHeap A → (AVal → AHeap A → Prop) → Prop) (G : Nat → AHeap A → List AVal → (List AVal → AHeap A → Prop) → Prop) (a0 a1 a2 : AVal) (h : AHeap A) (K : AVal → AHeap A → Prop) : Prop :=
 binP .eql .ptr a0 .nilp fun v1 =>
 iteP v1
 (K (.tup [.int .i64 0, .int .i64 0, .int .i64 1]) h)
 (S n_super_Get [a0, a1] h fun v2 h =>
 extP v2 0 fun v3 =>
 extP v2 1 fun v4 =>
 S n_super_Get [a0, a2] h fun v5 h =>
 extP v5 0 fun v6 =>
 extP v5 1 fun v7 =>
 binP .neq .other v4 (.int .i64 0) fun v8 =>
 condP v8 true (fun k9 =>
 binP .neq .other v7 (.int .i64 0) fun v10 =>
 k9 v10 h)
 (.bool false) h fun v11 h =>
 iteP v11
 (K (.tup [.int .i64 0, .int .i64 0, .int .i64 1001]) h)
 (binP .eql .other v4 (.int .i64 0) fun v12 =>
 condP v12 true (fun k13 =>
 binP .geq .other v3 v6 fun v14 =>
 k13 v14 h)
 (.bool false) h fun v15 h =>
 iteP v15
 (K (.tup [v3, .int .i64 1, .int .i64 0]) h)
 (K (.tup [v6, .int .i64 0, .int .i64 0]) h)))
theorem q_super_Pick (S : FuncId → List AVal → AHeap A → (AVal → AHeap A → Prop) → Prop) (G : Nat → AHeap A → List AVal → (List AVal → AHeap A → Prop) → Prop) (a0 a1 a2 : AVal) (h : AHeap A) (K : AVal → AHeap A → Prop) : funP Try.prog S G Try.f21 .leaf [a0, a1, a2] h K = p_super_Pick S G a0 a1 a2 h K := by kernel_rfl
theorem c_super_Pick {R : Adts A} {h : AHeap A} {K : AVal → AHeap A → Prop} {a0 a1 a2 : AVal} (hk : p_super_Pick (Tri Pr R) (Gives Pr R) a0 a1 a2 h K) : Tri Pr R n_super_Pick [a0, a1, a2] h K :=
  tri_of_funP (by kernel_rfl) (fun _ _ _ _ h => h) (fun _ _ _ _ h => h) Try.func21 (by rw [q_super_Pick]; exact hk)
/-- bastion/book.New -/
def p_book_New (S : FuncId → List AVal → AHeap A → (AVal → AHeap A → Prop) → Prop) (G : Nat → AHeap A → List AVal → (List AVal → AHeap A → Prop) → Prop) (a0 : AVal) (h : AHeap A) (K : AVal → AHeap A → Prop) : Prop :=
 binP .lss .other a0 (.int .i64 1) fun v1 =>
 condP v1 false (fun k2 =>
 binP .gtr .other a0 (.int .i64 65536) fun v3 =>
 k2 v3 h)
 (.bool true) h fun v4 h =>
 iteP v4
 (K (.tup [.nilp, .int .i64 200]) h)
 (mkmP h fun v5 h =>
 bldP [.int .i64 0, .nils, .nilm] [(0, 1, a0), (2, 1, v5)] fun v6 =>
 boxP t_book_Book 3 v6 h fun v7 h =>
 K (.tup [v7, .int .i64 0]) h)
theorem q_book_New (S : FuncId → List AVal → AHeap A → (AVal → AHeap A → Prop) → Prop) (G : Nat → AHeap A → List AVal → (List AVal → AHeap A → Prop) → Prop) (a0 : AVal) (h : AHeap A) (K : AVal → AHeap A → Prop) : funP Try.prog S G Try.f22 .leaf [a0] h K = p_book_New S G a0 h K := by kernel_rfl
theorem c_book_New {R : Adts A} {h : AHeap A} {K : AVal → AHeap A → Prop} {a0 : AVal} (hk : p_book_New (Tri Pr R) (Gives Pr R) a0 h K) : Tri Pr R n_book_New [a0] h K :=
  tri_of_funP (by kernel_rfl) (fun _ _ _ _ h => h) (fun _ _ _ _ h => h) Try.func22 (by rw [q_book_New]; exact hk)
/-- bastion/super.Get -/
def p_super_Get (S : FuncId → List AVal → AHeap A → (AVal → AHeap A → Prop) → Prop) (G : Nat → AHeap A → List AVal → (List AVal → AHeap A → Prop) → Prop) (a0 a1 : AVal) (h : AHeap A) (K : AVal → AHeap A → Prop) : Prop :=
 binP .eql .ptr a0 .nilp fun v1 =>
 iteP v1
 (K (.tup [.int .i64 0, .int .i64 1]) h)
 (bldP [.str [], .int .i64 0, .nili] [(0, 1, a1)] fun v2 =>
 boxP t_field_Reader 3 v2 h fun v3 h =>
 S n_field_Reader_Num [v3] h fun v4 h =>
 nilP v3 fun v5 =>
 fadP 1 v5 fun v6 =>
 ldP 1 false v6 h fun v7 =>
 S n_field_Reader_Num [v3] h fun v8 h =>
 joinP G h.length (fun k9 =>
 nilP v3 fun v10 =>
 fadP 2 v10 fun v11 =>
 ldP 1 false v11 h fun v12 =>
 binP .neq .ifc v12 .nili fun v13 =>
 iteP v13
 (k9 [.bool true] h)
 (lnsP a1 fun v14 =>
 binP .neq .other v14 (.int .i64 64) fun v15 =>
 iteP v15
 (k9 [.bool true] h)
 (S n_super_may [v4] h fun v16 h =>
 notP v16 fun v17 =>
 iteP v17
 (k9 [.bool true] h)
 (subP a1 none (some v7) fun v18 =>
 binP .add .other (.str [115, 117, 112, 101, 114]) v18 fun v19 =>
 S n_craft_IsHash [a0, v19, v8] h fun v20 h =>
 notP v20 fun v21 =>
 iteP v21
 (k9 [.bool true] h)
 (nilP v3 fun v22 =>
 fadP 1 v22 fun v23 =>
 lnsP a1 fun v24 =>
 nilP v3 fun v25 =>
 fadP 1 v25 fun v26 =>
 ldP 1 false v23 h fun v27 =>
 subP a1 (some v27) none fun v28 =>
 ldP 1 false v26 h fun v29 =>
 ldV 1 false v23 h = some v27 ∧
 binP .sub .other v24 v29 fun v30 =>
 mkslP t_uint8 1 1 [.int .u8 0] v30 v30 h fun v31 h =>
 ldV 1 false v23 h = some v27 ∧
 b2sP v31 h fun v32 =>
 ldV 1 false v23 h = some v27 ∧
 binP .neq .other v28 v32 fun v33 =>
 k9 [v33] h)))))
 (fun v35 h =>
 (fun v34 =>
 iteP v34
 (K (.tup [.int .i64 0, .int .i64 1000]) h)
 (K (.tup [v4, .int .i64 0]) h)) (v35.getD 0 .any)))
theorem q_super_Get (S : FuncId → List AVal → AHeap A → (AVal → AHeap A → Prop) → Prop) (G : Nat → AHeap A → List AVal → (List AVal → AHeap A → Prop) → Prop) (a0 a1 : AVal) (h : AHeap A) (K : AVal → AHeap A → Prop) : funP Try.prog S G Try.f23 (.two none .leaf (.two none .leaf (.two none .leaf (.two none .leaf (.two none .leaf (.two none .leaf (.two none (.two none (.draw (some [65]) (.take 0 (.take 1 (.take 2 (.alt 3 (.take 4 (.take 5 (.split 5 (.skip 6 (.skip 7 (.skip 8 (.take 9 (.take 10 (.known 10 true (.skip 11 (.skip 12 (.skip 13 (.take 14 (.take 15 (.known 15 true (.skip 16 (.skip 17 (.skip 18 (.skip 19 (.skip 20 (.skip 21 (.skip 22 (.skip 23 (.take 24 (.take 25 (.known 25 true (.skip 26 (.skip 27 (.skip 28 (.skip 29 (.skip 30 (.skip 31 (.skip 32 (.skip 33 (.skip 34 (.skip 35 (.skip 36 (.skip 37 (.skip 38 (.skip 39 (.skip 40 (.skip 41 (.take 42 .stop)))))))))))))))))))))))))))))))))))))))) (.take 6 (.take 7 (.take 8 (.take 9 (.take 10 (.split 10 (.skip 11 (.skip 12 (.skip 13 (.take 14 (.take 15 (.known 15 true (.skip 16 (.skip 17 (.skip 18 (.skip 19 (.skip 20 (.skip 21 (.skip 22 (.skip 23 (.take 24 (.take 25 (.known 25 true (.skip 26 (.skip 27 (.skip 28 (.skip 29 (.skip 30 (.skip 31 (.skip 32 (.skip 33 (.skip 34 (.skip 35 (.skip 36 (.skip 37 (.skip 38 (.skip 39 (.skip 40 (.skip 41 (.take 42 .stop)))))))))))))))))))))))))))))))))) (.take 11 (.alt 12 (.take 13 (.take 14 (.take 15 (.split 15 (.skip 16 (.skip 17 (.skip 18 (.skip 19 (.skip 20 (.skip 21 (.skip 22 (.skip 23 (.take 24 (.take 25 (.known 25 true (.skip 26 (.skip 27 (.skip 28 (.skip 29 (.skip 30 (.skip 31 (.skip 32 (.skip 33 (.skip 34 (.skip 35 (.skip 36 (.skip 37 (.skip 38 (.skip 39 (.skip 40 (.skip 41 (.take 42 .stop)))))))))))))))))))))))))))) (.take 16 (.take 17 (.take 18 (.take 19 (.take 20 (.take 21 (.alt 22 (.take 23 (.take 24 (.take 25 (.split 25 (.skip 26 (.skip 27 (.skip 28 (.skip 29 (.skip 30 (.skip 31 (.skip 32 (.skip 33 (.skip 34 (.skip 35 (.skip 36 (.skip 37 (.skip 38 (.skip 39 (.skip 40 (.skip 41 (.take 42 .stop))))))))))))))))) (.take 26 (.take 27 (.take 28 (.take 29 (.take 32 (.take 33 (.take 34 (.take 35 (.take 36 (.load 30 (.take 31 (.alt 37 (.take 38 (.alt 39 (.alt 40 (.take 41 (.take 42 .stop)) .stop) .stop)) .stop)))))))))))))))) .stop))))))))))) .stop))))))))))) .stop))))) .leaf) .leaf))))))) [a0, a1] h K = p_super_Get S G a0 a1 h K := by kernel_rfl
theorem c_super_Get {R : Adts A} {h : AHeap A} {K : AVal → AHeap A → Prop} {a0 a1 : AVal} (hk : p_super_Get (Tri Pr R) (Gives Pr R) a0 a1 h K) : Tri Pr R n_super_Get [a0, a1] h K :=
  tri_of_funP (by kernel_rfl) (fun _ _ _ _ h => h) (fun _ _ _ _ h => h) Try.func23 (by rw [q_super_Get]; exact hk)
/-- (*bastion/book.Book).Len -/
def p_book_Book_Len (S : FuncId → List AVal → AHeap A → (AVal → AHeap A → Prop) → Prop) (G : Nat → AHeap A → List AVal → (List AVal → AHeap A → Prop) → Prop) (a0 : AVal) (h : AHeap A) (K : AVal → AHeap A → Prop) : Prop :=
 binP .eql .ptr a0 .nilp fun v1 =>
 iteP v1
 (K (.int .i64 0) h)
 (nilP a0 fun v2 =>
 fadP 1 v2 fun v3 =>
 ldP 1 false v3 h fun v4 =>
 lenP v4 fun v5 =>
 K v5 h)
theorem q_book_Book_Len (S : FuncId → List AVal → AHeap A → (AVal → AHeap A → Prop) → Prop) (G : Nat → AHeap A → List AVal → (List AVal → AHeap A → Prop) → Prop) (a0 : AVal) (h : AHeap A) (K : AVal → AHeap A → Prop) : funP Try.prog S G Try.f24 .leaf [a0] h K = p_book_Book_Len S G a0 h K := by kernel_rfl
theorem c_book_Book_Len {R : Adts A} {h : AHeap A} {K : AVal → AHeap A → Prop} {a0 : AVal} (hk : p_book_Book_Len (Tri Pr R) (Gives Pr R) a0 h K) : Tri Pr R n_book_Book_Len [a0] h K :=
  tri_of_funP (by kernel_rfl) (fun _ _ _ _ h => h) (fun _ _ _ _ h => h) Try.func24 (by rw [q_book_Book_Len]; exact hk)
/-- bastion/bastionref1.PutSuper -/
def p_ref1_PutSuper (S : FuncId → List AVal → AHeap A → (AVal → AHeap A → Prop) → Prop) (G : Nat → AHeap A → List AVal → (List AVal → AHeap A → Prop) → Prop) (a0 a1 : AVal) (h : AHeap A) (K : AVal → AHeap A → Prop) : Prop :=
 binP .lss .other a1 (.int .i64 1) fun v1 =>
 condP v1 false (fun k2 =>
 binP .gtr .other a1 (.int .i64 1023) fun v3 =>
 k2 v3 h)
 (.bool true) h fun v4 h =>
 iteP v4
 (K (.tup [.str [], .int .i64 1000]) h)
 (bslP t_int 1 [.int .i64 0] [(0, 1, a1)] h fun v5 h =>
 S n_ref1_Nums [v5] h fun v6 h =>
 binP .add .other (.str [115, 117, 112, 101, 114]) v6 fun v7 =>
 S n_ref1_Hash [a0, v7] h fun v8 h =>
 extP v8 0 fun v9 =>
 extP v8 1 fun v10 =>
 binP .neq .other v10 (.int .i64 0) fun v11 =>
 iteP v11
 (K (.tup [.str [], .int .i64 1000]) h)
 (bslP t_int 2 [.int .i64 0, .int .i64 0] [(0, 1, a1), (1, 1, v9)] h fun v12 h =>
 S n_ref1_Nums [v12] h fun v13 h =>
 S n_ref1_sector [v13] h fun v14 h =>
 K (.tup [v14, .int .i64 0]) h))
theorem q_ref1_PutSuper (S : FuncId → List AVal → AHeap A → (AVal → AHeap A → Prop) → Prop) (G : Nat → AHeap A → List AVal → (List AVal → AHeap A → Prop) → Prop) (a0 a1 : AVal) (h : AHeap A) (K : AVal → AHeap A → Prop) : funP Try.prog S G Try.f25 .leaf [a0, a1] h K = p_ref1_PutSuper S G a0 a1 h K := by kernel_rfl
theorem c_ref1_PutSuper {R : Adts A} {h : AHeap A} {K : AVal → AHeap A → Prop} {a0 a1 : AVal} (hk : p_ref1_PutSuper (Tri Pr R) (Gives Pr R) a0 a1 h K) : Tri Pr R n_ref1_PutSuper [a0, a1] h K :=
  tri_of_funP (by kernel_rfl) (fun _ _ _ _ h => h) (fun _ _ _ _ h => h) Try.func25 (by rw [q_ref1_PutSuper]; exact hk)
/-- bastion/bastionref1.GetSuper -/
def p_ref1_GetSuper (S : FuncId → List AVal → AHeap A → (AVal → AHeap A → Prop) → Prop) (G : Nat → AHeap A → List AVal → (List AVal → AHeap A → Prop) → Prop) (a0 a1 : AVal) (h : AHeap A) (K : AVal → AHeap A → Prop) : Prop :=
 bldP [.str [], .int .i64 0, .bool false] [(0, 1, a1)] fun v1 =>
 boxP t_bastionref1_Reader 3 v1 h fun v2 h =>
 S n_ref1_Reader_Num [v2] h fun v3 h =>
 S n_ref1_Reader_Num [v2] h fun v4 h =>
 joinP G h.length (fun k5 =>
 lnsP a1 fun v6 =>
 binP .neq .other v6 (.int .i64 64) fun v7 =>
 iteP v7
 (k5 [.bool true] h)
 (nilP v2 fun v8 =>
 fadP 2 v8 fun v9 =>
 ldP 1 false v9 h fun v10 =>
 iteP v10
 (k5 [.bool true] h)
 (binP .lss .other v3 (.int .i64 1) fun v11 =>
 iteP v11
 (k5 [.bool true] h)
 (binP .gtr .other v3 (.int .i64 1023) fun v12 =>
 iteP v12
 (k5 [.bool true] h)
 (nilP v2 fun v13 =>
 fadP 1 v13 fun v14 =>
 nilP v2 fun v15 =>
 fadP 1 v15 fun v16 =>
 ldP 1 false v14 h fun v17 =>
 subP a1 (some v17) none fun v18 =>
 ldP 1 false v16 h fun v19 =>
 ldV 1 false v14 h = some v17 ∧
 binP .sub .other (.int .i64 64) v19 fun v20 =>
 mkslP t_uint8 1 1 [.int .u8 0] v20 v20 h fun v21 h =>
 ldV 1 false v14 h = some v17 ∧
 b2sP v21 h fun v22 =>
 ldV 1 false v14 h = some v17 ∧
 binP .neq .other v18 v22 fun v23 =>
 iteP v23
 (k5 [.bool true] h)
 (bslP t_int 1 [.int .i64 0] [(0, 1, v3)] h fun v24 h =>
 S n_ref1_Nums [v24] h fun v25 h =>
 binP .add .other (.str [115, 117, 112, 101, 114]) v25 fun v26 =>
 S n_ref1_IsHash [a0, v26, v4] h fun v27 h =>
 notP v27 fun v28 =>
 k5 [v28] h))))))
 (fun v30 h =>
 (fun v29 =>
 iteP v29
 (K (.tup [.int .i64 0, .int .i64 1000]) h)
 (K (.tup [v3, .int .i64 0]) h)) (v30.getD 0 .any))
theorem q_ref1_GetSuper (S : FuncId → List AVal → AHeap A → (AVal → AHeap A → Prop) → Prop) (G : Nat → AHeap A → List AVal → (List AVal → AHeap A → Prop) → Prop) (a0 a1 : AVal) (h : AHeap A) (K : AVal → AHeap A → Prop) : funP Try.prog S G Try.f26 (.two none .leaf (.two none .leaf (.two none .leaf (.two none .leaf (.two none (.two none (.draw (some [58]) (.take 0 (.take 1 (.take 2 (.take 3 (.split 3 (.skip 4 (.skip 5 (.skip 6 (.skip 7 (.take 8 (.take 9 (.known 9 true (.skip 10 (.skip 11 (.take 12 (.take 13 (.known 13 true (.skip 14 (.skip 15 (.take 16 (.take 17 (.known 17 true (.skip 18 (.skip 19 (.skip 20 (.skip 21 (.skip 22 (.skip 23 (.skip 24 (.skip 25 (.skip 26 (.skip 27 (.skip 28 (.skip 29 (.skip 30 (.skip 31 (.take 32 (.take 33 (.known 33 true (.skip 34 (.skip 35 (.skip 36 (.skip 37 (.skip 38 (.skip 39 (.skip 40 (.skip 41 (.take 42 .stop))))))))))))))))))))))))))))))))))))))))))) (.take 4 (.take 5 (.take 6 (.alt 7 (.take 8 (.take 9 (.split 9 (.skip 10 (.skip 11 (.take 12 (.take 13 (.known 13 true (.skip 14 (.skip 15 (.take 16 (.take 17 (.known 17 true (.skip 18 (.skip 19 (.skip 20 (.skip 21 (.skip 22 (.skip 23 (.skip 24 (.skip 25 (.skip 26 (.skip 27 (.skip 28 (.skip 29 (.skip 30 (.skip 31 (.take 32 (.take 33 (.known 33 true (.skip 34 (.skip 35 (.skip 36 (.skip 37 (.skip 38 (.skip 39 (.skip 40 (.skip 41 (.take 42 .stop)))))))))))))))))))))))))))))))))))) (.take 10 (.take 11 (.take 12 (.take 13 (.split 13 (.skip 14 (.skip 15 (.take 16 (.take 17 (.known 17 true (.skip 18 (.skip 19 (.skip 20 (.skip 21 (.skip 22 (.skip 23 (.skip 24 (.skip 25 (.skip 26 (.skip 27 (.skip 28 (.skip 29 (.skip 30 (.skip 31 (.take 32 (.take 33 (.known 33 true (.skip 34 (.skip 35 (.skip 36 (.skip 37 (.skip 38 (.skip 39 (.skip 40 (.skip 41 (.take 42 .stop))))))))))))))))))))))))))))))) (.take 14 (.take 15 (.take 16 (.take 17 (.split 17 (.skip 18 (.skip 19 (.skip 20 (.skip 21 (.skip 22 (.skip 23 (.skip 24 (.skip 25 (.skip 26 (.skip 27 (.skip 28 (.skip 29 (.skip 30 (.skip 31 (.take 32 (.take 33 (.known 33 true (.skip 34 (.skip 35 (.skip 36 (.skip 37 (.skip 38 (.skip 39 (.skip 40 (.skip 41 (.take 42 .stop)))))))))))))))))))))))))) (.take 18 (.take 19 (.take 20 (.take 21 (.take 24 (.take 25 (.take 26 (.load 22 (.take 23 (.alt 27 (.take 28 (.alt 29 (.alt 30 (.take 31 (.take 32 (.take 33 (.split 33 (.skip 34 (.skip 35 (.skip 36 (.skip 37 (.skip 38 (.skip 39 (.skip 40 (.skip 41 (.take 42 .stop))))))))) (.take 34 (.take 35 (.take 39 (.alt 36 (.alt 37 (.take 38 (.alt 40 (.take 41 (.take 42 .stop)) .stop)) .stop) .stop)))))))) .stop) .stop)) .stop))))))))))))))))))))))) .stop)))))))))) .leaf) .leaf))))) [a0, a1] h K = p_ref1_GetSuper S G a0 a1 h K := by kernel_rfl
theorem c_ref1_GetSuper {R : Adts A} {h : AHeap A} {K : AVal → AHeap A → Prop} {a0 a1 : AVal} (hk : p_ref1_GetSuper (Tri Pr R) (Gives Pr R) a0 a1 h K) : Tri Pr R n_ref1_GetSuper [a0, a1] h K :=
  tri_of_funP (by kernel_rfl) (fun _ _ _ _ h => h) (fun _ _ _ _ h => h) Try.func26 (by rw [q_ref1_GetSuper]; exact hk)
/-- bastion/bastionref1.Pick -/
def p_ref1_Pick (S : FuncId → List AVal → AHeap A → (AVal → AHeap A → Prop) → Prop) (G : Nat → AHeap A → List AVal → (List AVal → AHeap A → Prop) → Prop) (a0 a1 a2 : AVal) (h : AHeap A) (K : AVal → AHeap A → Prop) : Prop :=
 S n_ref1_GetSuper [a0, a1] h fun v1 h =>
 extP v1 0 fun v2 =>
 extP v1 1 fun v3 =>
 S n_ref1_GetSuper [a0, a2] h fun v4 h =>
 extP v4 0 fun v5 =>
 extP v4 1 fun v6 =>
 binP .neq .other v3 (.int .i64 0) fun v7 =>
 condP v7 true (fun k8 =>
 binP .neq .other v6 (.int .i64 0) fun v9 =>
 k8 v9 h)
 (.bool false) h fun v10 h =>
 iteP v10
 (K (.tup [.int .i64 0, .int .i64 0, .int .i64 1001]) h)
 (binP .neq .other v6 (.int .i64 0) fun v11 =>
 condP v11 false (fun k12 =>
 binP .eql .other v3 (.int .i64 0) fun v13 =>
 condP v13 true (fun k14 =>
 binP .geq .other v2 v5 fun v15 =>
 k14 v15 h)
 (.bool false) h fun v16 h =>
 k12 v16 h)
 (.bool true) h fun v17 h =>
 iteP v17
 (K (.tup [v2, .int .i64 1, .int .i64 0]) h)
 (K (.tup [v5, .int .i64 0, .int .i64 0]) h))
theorem q_ref1_Pick (S : FuncId → List AVal → AHeap A → (AVal → AHeap A → Prop) → Prop) (G : Nat → AHeap A → List AVal → (List AVal → AHeap A → Prop) → Prop) (a0 a1 a2 : AVal) (h : AHeap A) (K : AVal → AHeap A → Prop) : funP Try.prog S G Try.f27 .leaf [a0, a1, a2] h K = p_ref1_Pick S G a0 a1 a2 h K := by kernel_rfl
theorem c_ref1_Pick {R : Adts A} {h : AHeap A} {K : AVal → AHeap A → Prop} {a0 a1 a2 : AVal} (hk : p_ref1_Pick (Tri Pr R) (Gives Pr R) a0 a1 a2 h K) : Tri Pr R n_ref1_Pick [a0, a1, a2] h K :=
  tri_of_funP (by kernel_rfl) (fun _ _ _ _ h => h) (fun _ _ _ _ h => h) Try.func27 (by rw [q_ref1_Pick]; exact hk)
/-- bastion/bastionlaw10.sameBooks -/
def p_law10_sameBooks (S : FuncId → List AVal → AHeap A → (AVal → AHeap A → Prop) → Prop) (G : Nat → AHeap A → List AVal → (List AVal → AHeap A → Prop) → Prop) (a0 a1 : AVal) (h : AHeap A) (K : AVal → AHeap A → Prop) : Prop :=
 nilP a1 fun v1 =>
 fadP 1 v1 fun v2 =>
 ldP 1 false v2 h fun v3 =>
 lenP v3 fun v4 =>
 S n_book_Book_Len [a0] h fun v5 h =>
 ldV 1 false v2 h = some v3 ∧
 binP .neq .other v5 v4 fun v6 =>
 iteP v6
 (K (.bool false) h)
 (nilP a1 fun v7 =>
 fadP 1 v7 fun v8 =>
 ldP 1 false v8 h fun v9 =>
 lenP v9 fun v10 =>
 binP .sub .other v10 (.int .i64 40) fun v11 =>
 maxP [.int .i64 0, v11] fun v12 =>
 loopP G (fun v34 h k14 =>
 (fun v13 =>
 nilP a1 fun v15 =>
 fadP 1 v15 fun v16 =>
 ldP 1 false v16 h fun v17 =>
 lenP v17 fun v18 =>
 binP .lss .other v13 v18 fun v19 =>
 iteP v19
 (S n_book_Book_Term [a0, v13] h fun v20 h =>
 extP v20 0 fun v21 =>
 extP v20 1 fun v22 =>
 S n_law0_Num [v22] h fun v23 h =>
 binP .neq .other v23 (.int .i64 0) fun v24 =>
 condP v24 false (fun k25 =>
 nilP a1 fun v26 =>
 fadP 1 v26 fun v27 =>
 ldP 1 false v27 h fun v28 =>
 idxP 1 v28 v13 fun v29 =>
 ldP 1 false v29 h fun v30 =>
 binP .neq .other v21 v30 fun v31 =>
 k25 v31 h)
 (.bool true) h fun v32 h =>
 iteP v32
 (K (.bool false) h)
 (binP .add .other v13 (.int .i64 1) fun v33 =>
 k14 [v33] h))
 (K (.bool true) h)) (v34.getD 0 .any)) [v12] h)
theorem q_law10_sameBooks (S : FuncId → List AVal → AHeap A → (AVal → AHeap A → Prop) → Prop) (G : Nat → AHeap A → List AVal → (List AVal → AHeap A → Prop) → Prop) (a0 a1 : AVal) (h : AHeap A) (K : AVal → AHeap A → Prop) : funP Try.prog S G Try.f28 (.two none .leaf (.two none (.two none (.draw none (.take 0 (.take 2 (.take 3 (.take 4 (.load 5 (.take 6 (.alt 1 (.take 7 .stop) .stop)))))))) .leaf) (.two none (.two none .leaf (.one [] (.one [5] .leaf))) .leaf))) [a0, a1] h K = p_law10_sameBooks S G a0 a1 h K := by kernel_rfl
theorem c_law10_sameBooks {R : Adts A} {h : AHeap A} {K : AVal → AHeap A → Prop} {a0 a1 : AVal} (hk : p_law10_sameBooks (Tri Pr R) (Gives Pr R) a0 a1 h K) : Tri Pr R n_law10_sameBooks [a0, a1] h K :=
  tri_of_funP (by kernel_rfl) (fun _ _ _ _ h => h) (fun _ _ _ _ h => h) Try.func28 (by rw [q_law10_sameBooks]; exact hk)
/-- bastion/bastionref1.NewBook -/
def p_ref1_NewBook (S : FuncId → List AVal → AHeap A → (AVal → AHeap A → Prop) → Prop) (G : Nat → AHeap A → List AVal → (List AVal → AHeap A → Prop) → Prop) (a0 : AVal) (h : AHeap A) (K : AVal → AHeap A → Prop) : Prop :=
 binP .lss .other a0 (.int .i64 1) fun v1 =>
 condP v1 false (fun k2 =>
 binP .gtr .other a0 (.int .i64 65536) fun v3 =>
 k2 v3 h)
 (.bool true) h fun v4 h =>
 iteP v4
 (K (.tup [.nilp, .int .i64 200]) h)
 (bldP [.int .i64 0, .nils] [(0, 1, a0)] fun v5 =>
 boxP t_bastionref1_Book 2 v5 h fun v6 h =>
 K (.tup [v6, .int .i64 0]) h)
theorem q_ref1_NewBook (S : FuncId → List AVal → AHeap A → (AVal → AHeap A → Prop) → Prop) (G : Nat → AHeap A → List AVal → (List AVal → AHeap A → Prop) → Prop) (a0 : AVal) (h : AHeap A) (K : AVal → AHeap A → Prop) : funP Try.prog S G Try.f29 .leaf [a0] h K = p_ref1_NewBook S G a0 h K := by kernel_rfl
theorem c_ref1_NewBook {R : Adts A} {h : AHeap A} {K : AVal → AHeap A → Prop} {a0 : AVal} (hk : p_ref1_NewBook (Tri Pr R) (Gives Pr R) a0 h K) : Tri Pr R n_ref1_NewBook [a0] h K :=
  tri_of_funP (by kernel_rfl) (fun _ _ _ _ h => h) (fun _ _ _ _ h => h) Try.func29 (by rw [q_ref1_NewBook]; exact hk)
/-- (*bastion/book.Book).Name -/
def p_book_Book_Name (S : FuncId → List AVal → AHeap A → (AVal → AHeap A → Prop) → Prop) (G : Nat → AHeap A → List AVal → (List AVal → AHeap A → Prop) → Prop) (a0 a1 : AVal) (h : AHeap A) (K : AVal → AHeap A → Prop) : Prop :=
 binP .eql .ptr a0 .nilp fun v1 =>
 iteP v1
 (K (.tup [.int .i64 0, .int .i64 1]) h)
 (binP .eql .other a1 (.str []) fun v2 =>
 condP v2 false (fun k3 =>
 lnsP a1 fun v4 =>
 binP .gtr .other v4 (.int .i64 512) fun v5 =>
 k3 v5 h)
 (.bool true) h fun v6 h =>
 iteP v6
 (K (.tup [.int .i64 0, .int .i64 200]) h)
 (nilP a0 fun v7 =>
 fadP 2 v7 fun v8 =>
 ldP 1 false v8 h fun v9 =>
 lkP true (.int .i64 0) true v9 a1 h fun v10 =>
 extP v10 0 fun v11 =>
 extP v10 1 fun v12 =>
 iteP v12
 (K (.tup [v11, .int .i64 0]) h)
 (nilP a0 fun v13 =>
 fadP 1 v13 fun v14 =>
 nilP a0 fun v15 =>
 fadP 0 v15 fun v16 =>
 ldP 1 false v14 h fun v17 =>
 lenP v17 fun v18 =>
 ldP 1 false v16 h fun v19 =>
 ldV 1 false v14 h = some v17 ∧
 binP .geq .other v18 v19 fun v20 =>
 iteP v20
 (K (.tup [.int .i64 0, .int .i64 201]) h)
 (nilP a0 fun v21 =>
 fadP 1 v21 fun v22 =>
 ldP 1 false v22 h fun v23 =>
 lenP v23 fun v24 =>
 nilP a0 fun v25 =>
 fadP 2 v25 fun v26 =>
 nilP a0 fun v27 =>
 fadP 1 v27 fun v28 =>
 ldP 1 false v26 h fun v29 =>
 ldP 1 false v28 h fun v30 =>
 bslP t_string 1 [.str []] [(0, 1, a1)] h fun v31 h =>
 ldV 1 false v28 h = some v30 ∧
 ldV 1 false v26 h = some v29 ∧
 appP t_string 1 16 v30 v31 h fun v32 h =>
 ldV 1 false v26 h = some v29 ∧
 nilP a0 fun v33 =>
 fadP 1 v33 fun v34 =>
 stP 1 v34 v32 h fun h =>
 mentP true (.int .i64 0) v29 a1 h fun v35 h =>
 extP v35 1 fun v36 =>
 estP v29 v36 v24 h fun h =>
 K (.tup [v24, .int .i64 0]) h))))
theorem q_book_Book_Name (S : FuncId → List AVal → AHeap A → (AVal → AHeap A → Prop) → Prop) (G : Nat → AHeap A → List AVal → (List AVal → AHeap A → Prop) → Prop) (a0 a1 : AVal) (h : AHeap A) (K : AVal → AHeap A → Prop) : funP Try.prog S G Try.f30 (.two none .leaf (.two none .leaf (.two none .leaf (.two none (.two none (.draw none (.take 0 (.take 1 (.take 2 (.take 5 (.take 6 (.take 7 (.load 3 (.take 4 (.alt 8 (.take 9 .stop) .stop)))))))))) .leaf) (.two none .leaf (.two none (.draw none (.take 0 (.take 1 (.take 2 (.take 3 (.take 5 (.take 6 (.take 7 (.take 8 (.take 10 (.take 13 (.load 4 (.load 9 (.alt 11 (.alt 12 (.take 14 (.take 15 (.alt 16 (.alt 17 (.take 18 (.alt 19 .stop .stop)) .stop) .stop))) .stop) .stop)))))))))))))) .leaf)))))) [a0, a1] h K = p_book_Book_Name S G a0 a1 h K := by kernel_rfl
theorem c_book_Book_Name {R : Adts A} {h : AHeap A} {K : AVal → AHeap A → Prop} {a0 a1 : AVal} (hk : p_book_Book_Name (Tri Pr R) (Gives Pr R) a0 a1 h K) : Tri Pr R n_book_Book_Name [a0, a1] h K :=
  tri_of_funP (by kernel_rfl) (fun _ _ _ _ h => h) (fun _ _ _ _ h => h) Try.func30 (by rw [q_book_Book_Name]; exact hk)
/-- (*bastion/bastionref1.Book).Name -/
def p_ref1_Book_Name (S : FuncId → List AVal → AHeap A → (AVal → AHeap A → Prop) → Prop) (G : Nat → AHeap A → List AVal → (List AVal → AHeap A → Prop) → Prop) (a0 a1 : AVal) (h : AHeap A) (K : AVal → AHeap A → Prop) : Prop :=
 lnsP a1 fun v1 =>
 binP .lss .other v1 (.int .i64 1) fun v2 =>
 condP v2 false (fun k3 =>
 lnsP a1 fun v4 =>
 binP .gtr .other v4 (.int .i64 512) fun v5 =>
 k3 v5 h)
 (.bool true) h fun v6 h =>
 iteP v6
 (K (.tup [.int .i64 0, .int .i64 200]) h)
 (S n_ref1_Book_Find [a0, a1] h fun v7 h =>
 extP v7 0 fun v8 =>
 extP v7 1 fun v9 =>
 iteP v9
 (K (.tup [v8, .int .i64 0]) h)
 (nilP a0 fun v10 =>
 fadP 1 v10 fun v11 =>
 nilP a0 fun v12 =>
 fadP 0 v12 fun v13 =>
 ldP 1 false v11 h fun v14 =>
 lenP v14 fun v15 =>
 ldP 1 false v13 h fun v16 =>
 ldV 1 false v11 h = some v14 ∧
 binP .geq .other v15 v16 fun v17 =>
 iteP v17
 (K (.tup [.int .i64 0, .int .i64 201]) h)
 (nilP a0 fun v18 =>
 fadP 1 v18 fun v19 =>
 ldP 1 false v19 h fun v20 =>
 bslP t_string 1 [.str []] [(0, 1, a1)] h fun v21 h =>
 appP t_string 1 16 v20 v21 h fun v22 h =>
 nilP a0 fun v23 =>
 fadP 1 v23 fun v24 =>
 stP 1 v24 v22 h fun h =>
 nilP a0 fun v25 =>
 fadP 1 v25 fun v26 =>
 ldP 1 false v26 h fun v27 =>
 lenP v27 fun v28 =>
 binP .sub .other v28 (.int .i64 1) fun v29 =>
 K (.tup [v29, .int .i64 0]) h)))
theorem q_ref1_Book_Name (S : FuncId → List AVal → AHeap A → (AVal → AHeap A → Prop) → Prop) (G : Nat → AHeap A → List AVal → (List AVal → AHeap A → Prop) → Prop) (a0 a1 : AVal) (h : AHeap A) (K : AVal → AHeap A → Prop) : funP Try.prog S G Try.f31 (.two none .leaf (.two none .leaf (.two none .leaf (.two none .leaf (.two none (.two none (.draw none (.take 0 (.take 1 (.take 2 (.take 5 (.take 6 (.take 7 (.load 3 (.take 4 (.alt 8 (.take 9 .stop) .stop)))))))))) .leaf) .leaf))))) [a0, a1] h K = p_ref1_Book_Name S G a0 a1 h K := by kernel_rfl
theorem c_ref1_Book_Name {R : Adts A} {h : AHeap A} {K : AVal → AHeap A → Prop} {a0 a1 : AVal} (hk : p_ref1_Book_Name (Tri Pr R) (Gives Pr R) a0 a1 h K) : Tri Pr R n_ref1_Book_Name [a0, a1] h K :=
  tri_of_funP (by kernel_rfl) (fun _ _ _ _ h => h) (fun _ _ _ _ h => h) Try.func31 (by rw [q_ref1_Book_Name]; exact hk)
/-- bastion/field.Num -/
def p_field_Num (S : FuncId → List AVal → AHeap A → (AVal → AHeap A → Prop) → Prop) (G : Nat → AHeap A → List AVal → (List AVal → AHeap A → Prop) → Prop) (a0 : AVal) (h : AHeap A) (K : AVal → AHeap A → Prop) : Prop :=
 S n_field_NumMay [a0] h fun v1 h =>
 notP v1 fun v2 =>
 iteP v2
 (K (.tup [.str [], .int .i64 100]) h)
 (S n_field_width [a0] h fun v3 h =>
 cviP .u8 v3 fun v4 =>
 bslP t_uint8 1 [.int .u8 0] [(0, 1, v4)] h fun v5 h =>
 joinP G h.length (fun k6 =>
 joinP G h.length (fun k7 =>
 joinP G h.length (fun k8 =>
 joinP G h.length (fun k9 =>
 binP .eql .other v3 (.int .i64 4) fun v10 =>
 iteP v10
 (binP .shr .other a0 (.int .u64 24) fun v11 =>
 cviP .u8 v11 fun v12 =>
 bslP t_uint8 1 [.int .u8 0] [(0, 1, v12)] h fun v13 h =>
 appP t_uint8 1 1 v5 v13 h fun v14 h =>
 k9 [v14] h)
 (binP .eql .other v3 (.int .i64 3) fun v15 =>
 iteP v15
 (k9 [v5] h)
 (binP .eql .other v3 (.int .i64 2) fun v16 =>
 iteP v16
 (k8 [v5] h)
 (binP .eql .other v3 (.int .i64 1) fun v17 =>
 iteP v17
 (k7 [v5] h)
 (k6 [v5] h)))))
 (fun v23 h =>
 (fun v18 =>
 binP .shr .other a0 (.int .u64 16) fun v19 =>
 cviP .u8 v19 fun v20 =>
 bslP t_uint8 1 [.int .u8 0] [(0, 1, v20)] h fun v21 h =>
 appP t_uint8 1 1 v18 v21 h fun v22 h =>
 k8 [v22] h) (v23.getD 0 .any)))
 (fun v29 h =>
 (fun v24 =>
 binP .shr .other a0 (.int .u64 8) fun v25 =>
 cviP .u8 v25 fun v26 =>
 bslP t_uint8 1 [.int .u8 0] [(0, 1, v26)] h fun v27 h =>
 appP t_uint8 1 1 v24 v27 h fun v28 h =>
 k7 [v28] h) (v29.getD 0 .any)))
 (fun v34 h =>
 (fun v30 =>
 cviP .u8 a0 fun v31 =>
 bslP t_uint8 1 [.int .u8 0] [(0, 1, v31)] h fun v32 h =>
 appP t_uint8 1 1 v30 v32 h fun v33 h =>
 k6 [v33] h) (v34.getD 0 .any)))
 (fun v37 h =>
 (fun v35 =>
 b2sP v35 h fun v36 =>
 K (.tup [v36, .int .i64 0]) h) (v37.getD 0 .any)))
theorem q_field_Num (S : FuncId → List AVal → AHeap A → (AVal → AHeap A → Prop) → Prop) (G : Nat → AHeap A → List AVal → (List AVal → AHeap A → Prop) → Prop) (a0 : AVal) (h : AHeap A) (K : AVal → AHeap A → Prop) : funP Try.prog S G Try.f32 (.two none .leaf (.two none .leaf (.two none .leaf (.two none .leaf (.two (some [5]) (.two none .leaf (.one [] (.two (some [5]) (.one [] (.two (some [5]) (.one [] (.two (some [5]) .leaf .leaf)) .leaf)) .leaf))) .leaf))))) [a0] h K = p_field_Num S G a0 h K := by kernel_rfl
theorem c_field_Num {R : Adts A} {h : AHeap A} {K : AVal → AHeap A → Prop} {a0 : AVal} (hk : p_field_Num (Tri Pr R) (Gives Pr R) a0 h K) : Tri Pr R n_field_Num [a0] h K :=
  tri_of_funP (by kernel_rfl) (fun _ _ _ _ h => h) (fun _ _ _ _ h => h) Try.func32 (by rw [q_field_Num]; exact hk)
/-- bastion/totp.stepMay -/
def p_totp_stepMay (S : FuncId → List AVal → AHeap A → (AVal → AHeap A → Prop) → Prop) (G : Nat → AHeap A → List AVal → (List AVal → AHeap A → Prop) → Prop) (a0 : AVal) (h : AHeap A) (K : AVal → AHeap A → Prop) : Prop :=
 binP .geq .other a0 (.int .i64 1) fun v1 =>
 condP v1 true (fun k2 =>
 binP .leq .other a0 (.int .i64 1048575) fun v3 =>
 k2 v3 h)
 (.bool false) h fun v4 h =>
 K v4 h
theorem q_totp_stepMay (S : FuncId → List AVal → AHeap A → (AVal → AHeap A → Prop) → Prop) (G : Nat → AHeap A → List AVal → (List AVal → AHeap A → Prop) → Prop) (a0 : AVal) (h : AHeap A) (K : AVal → AHeap A → Prop) : funP Try.prog S G Try.f33 .leaf [a0] h K = p_totp_stepMay S G a0 h K := by kernel_rfl
theorem c_totp_stepMay {R : Adts A} {h : AHeap A} {K : AVal → AHeap A → Prop} {a0 : AVal} (hk : p_totp_stepMay (Tri Pr R) (Gives Pr R) a0 h K) : Tri Pr R n_totp_stepMay [a0] h K :=
  tri_of_funP (by kernel_rfl) (fun _ _ _ _ h => h) (fun _ _ _ _ h => h) Try.func33 (by rw [q_totp_stepMay]; exact hk)
/-- bastion/craft.Mac -/
def p_craft_Mac (S : FuncId → List AVal → AHeap A → (AVal → AHeap A → Prop) → Prop) (G : Nat → AHeap A → List AVal → (List AVal → AHeap A → Prop) → Prop) (a0 a1 a2 : AVal) (h : AHeap A) (K : AVal → AHeap A → Prop) : Prop :=
 S n_craft_keyed [.str [77], a1] h fun v1 h =>
 extP v1 0 fun v2 =>
 extP v1 1 fun v3 =>
 binP .add .other v2 a2 fun v4 =>
 S n_craft_named [a0, v4, v3] h fun v5 h =>
 extP v5 0 fun v6 =>
 extP v5 1 fun v7 =>
 K (.tup [v6, v7]) h
theorem q_craft_Mac (S : FuncId → List AVal → AHeap A → (AVal → AHeap A → Prop) → Prop) (G : Nat → AHeap A → List AVal → (List AVal → AHeap A → Prop) → Prop) (a0 a1 a2 : AVal) (h : AHeap A) (K : AVal → AHeap A → Prop) : funP Try.prog S G Try.f34 .leaf [a0, a1, a2] h K = p_craft_Mac S G a0 a1 a2 h K := by kernel_rfl
theorem c_craft_Mac {R : Adts A} {h : AHeap A} {K : AVal → AHeap A → Prop} {a0 a1 a2 : AVal} (hk : p_craft_Mac (Tri Pr R) (Gives Pr R) a0 a1 a2 h K) : Tri Pr R n_craft_Mac [a0, a1, a2] h K :=
  tri_of_funP (by kernel_rfl) (fun _ _ _ _ h => h) (fun _ _ _ _ h => h) Try.func34 (by rw [q_craft_Mac]; exact hk)
/-- bastion/bastionref1.Mac -/
def p_ref1_Mac (S : FuncId → List AVal → AHeap A → (AVal → AHeap A → Prop) → Prop) (G : Nat → AHeap A → List AVal → (List AVal → AHeap A → Prop) → Prop) (a0 a1 a2 : AVal) (h : AHeap A) (K : AVal → AHeap A → Prop) : Prop :=
 S n_ref1_num [a1] h fun v1 h =>
 notP v1 fun v2 =>
 iteP v2
 (K (.tup [.int .i64 0, .int .i64 300]) h)
 (bslP t_int 1 [.int .i64 0] [(0, 1, a1)] h fun v3 h =>
 S n_ref1_Nums [v3] h fun v4 h =>
 binP .add .other (.str [77]) v4 fun v5 =>
 binP .add .other v5 a2 fun v6 =>
 S n_ref1_Book_made [a0, v6] h fun v7 h =>
 extP v7 0 fun v8 =>
 extP v7 1 fun v9 =>
 K (.tup [v8, v9]) h)
theorem q_ref1_Mac (S : FuncId → List AVal → AHeap A → (AVal → AHeap A → Prop) → Prop) (G : Nat → AHeap A → List AVal → (List AVal → AHeap A → Prop) → Prop) (a0 a1 a2 : AVal) (h : AHeap A) (K : AVal → AHeap A → Prop) : funP Try.prog S G Try.f35 .leaf [a0, a1, a2] h K = p_ref1_Mac S G a0 a1 a2 h K := by kernel_rfl
theorem c_ref1_Mac {R : Adts A} {h : AHeap A} {K : AVal → AHeap A → Prop} {a0 a1 a2 : AVal} (hk : p_ref1_Mac (Tri Pr R) (Gives Pr R) a0 a1 a2 h K) : Tri Pr R n_ref1_Mac [a0, a1, a2] h K :=
  tri_of_funP (by kernel_rfl) (fun _ _ _ _ h => h) (fun _ _ _ _ h => h) Try.func35 (by rw [q_ref1_Mac]; exact hk)
/-- bastion/bastionref1.Nums -/
def p_ref1_Nums (S : FuncId → List AVal → AHeap A → (AVal → AHeap A → Prop) → Prop) (G : Nat → AHeap A → List AVal → (List AVal → AHeap A → Prop) → Prop) (a0 : AVal) (h : AHeap A) (K : AVal → AHeap A → Prop) : Prop :=
 loopP G (fun v13 h k3 =>
 (fun v1 v2 =>
 lenP a0 fun v4 =>
 binP .lss .other v2 v4 fun v5 =>
 iteP v5
 (idxP 1 a0 v2 fun v6 =>
 ldP 1 false v6 h fun v7 =>
 S n_ref1_Num [v7] h fun v8 h =>
 extP v8 0 fun v9 =>
 extP v8 1 fun v10 =>
 binP .add .other v1 v9 fun v11 =>
 binP .add .other v2 (.int .i64 1) fun v12 =>
 k3 [v11, v12] h)
 (K v1 h)) (v13.getD 0 .any) (v13.getD 1 .any)) [.str [], .int .i64 0] h
theorem q_ref1_Nums (S : FuncId → List AVal → AHeap A → (AVal → AHeap A → Prop) → Prop) (G : Nat → AHeap A → List AVal → (List AVal → AHeap A → Prop) → Prop) (a0 : AVal) (h : AHeap A) (K : AVal → AHeap A → Prop) : funP Try.prog S G Try.f36 (.two none .leaf (.two none .leaf (.two none (.two none .leaf (.one [] (.one [3, 4] .leaf))) .leaf))) [a0] h K = p_ref1_Nums S G a0 h K := by kernel_rfl
theorem c_ref1_Nums {R : Adts A} {h : AHeap A} {K : AVal → AHeap A → Prop} {a0 : AVal} (hk : p_ref1_Nums (Tri Pr R) (Gives Pr R) a0 h K) : Tri Pr R n_ref1_Nums [a0] h K :=
  tri_of_funP (by kernel_rfl) (fun _ _ _ _ h => h) (fun _ _ _ _ h => h) Try.func36 (by rw [q_ref1_Nums]; exact hk)
/-- bastion/craft.IsMac -/
def p_craft_IsMac (S : FuncId → List AVal → AHeap A → (AVal → AHeap A → Prop) → Prop) (G : Nat → AHeap A → List AVal → (List AVal → AHeap A → Prop) → Prop) (a0 a1 a2 a3 : AVal) (h : AHeap A) (K : AVal → AHeap A → Prop) : Prop :=
 S n_craft_keyed [.str [77], a1] h fun v1 h =>
 extP v1 0 fun v2 =>
 extP v1 1 fun v3 =>
 condP v3 true (fun k4 =>
 binP .add .other v2 a2 fun v5 =>
 S n_craft_is [a0, v5, a3] h fun v6 h =>
 k4 v6 h)
 (.bool false) h fun v7 h =>
 K v7 h
theorem q_craft_IsMac (S : FuncId → List AVal → AHeap A → (AVal → AHeap A → Prop) → Prop) (G : Nat → AHeap A → List AVal → (List AVal → AHeap A → Prop) → Prop) (a0 a1 a2 a3 : AVal) (h : AHeap A) (K : AVal → AHeap A → Prop) : funP Try.prog S G Try.f37 .leaf [a0, a1, a2, a3] h K = p_craft_IsMac S G a0 a1 a2 a3 h K := by kernel_rfl
theorem c_craft_IsMac {R : Adts A} {h : AHeap A} {K : AVal → AHeap A → Prop} {a0 a1 a2 a3 : AVal} (hk : p_craft_IsMac (Tri Pr R) (Gives Pr R) a0 a1 a2 a3 h K) : Tri Pr R n_craft_IsMac [a0, a1, a2, a3] h K :=
  tri_of_funP (by kernel_rfl) (fun _ _ _ _ h => h) (fun _ _ _ _ h => h) Try.func37 (by rw [q_craft_IsMac]; exact hk)
/-- bastion/bastionref1.IsMac -/
def p_ref1_IsMac (S : FuncId → List AVal → AHeap A → (AVal → AHeap A → Prop) → Prop) (G : Nat → AHeap A → List AVal → (List AVal → AHeap A → Prop) → Prop) (a0 a1 a2 a3 : AVal) (h : AHeap A) (K : AVal → AHeap A → Prop) : Prop :=
 bslP t_int 1 [.int .i64 0] [(0, 1, a1)] h fun v1 h =>
 S n_ref1_Nums [v1] h fun v2 h =>
 binP .add .other (.str [77]) v2 fun v3 =>
 binP .add .other v3 a2 fun v4 =>
 S n_ref1_Book_Find [a0, v4] h fun v5 h =>
 extP v5 0 fun v6 =>
 extP v5 1 fun v7 =>
 S n_ref1_num [a1] h fun v8 h =>
 condP v8 true (fun k9 =>
 k9 v7 h)
 (.bool false) h fun v10 h =>
 condP v10 true (fun k11 =>
 binP .eql .other v6 a3 fun v12 =>
 k11 v12 h)
 (.bool false) h fun v13 h =>
 K v13 h
theorem q_ref1_IsMac (S : FuncId → List AVal → AHeap A → (AVal → AHeap A → Prop) → Prop) (G : Nat → AHeap A → List AVal → (List AVal → AHeap A → Prop) → Prop) (a0 a1 a2 a3 : AVal) (h : AHeap A) (K : AVal → AHeap A → Prop) : funP Try.prog S G Try.f38 .leaf [a0, a1, a2, a3] h K = p_ref1_IsMac S G a0 a1 a2 a3 h K := by kernel_rfl
theorem c_ref1_IsMac {R : Adts A} {h : AHeap A} {K : AVal → AHeap A → Prop} {a0 a1 a2 a3 : AVal} (hk : p_ref1_IsMac (Tri Pr R) (Gives Pr R) a0 a1 a2 a3 h K) : Tri Pr R n_ref1_IsMac [a0, a1, a2, a3] h K :=
  tri_of_funP (by kernel_rfl) (fun _ _ _ _ h => h) (fun _ _ _ _ h => h) Try.func38 (by rw [q_ref1_IsMac]; exact hk)
/-- bastion/totp.TickMay -/
def p_totp_TickMay (S : FuncId → List AVal → AHeap A → (AVal → AHeap A → Prop) → Prop) (G : Nat → AHeap A → List AVal → (List AVal → AHeap A → Prop) → Prop) (a0 : AVal) (h : AHeap A) (K : AVal → AHeap A → Prop) : Prop :=
 binP .geq .other a0 (.int .i64 0) fun v1 =>
 condP v1 true (fun k2 =>
 binP .leq .other a0 (.int .i64 1048575) fun v3 =>
 k2 v3 h)
 (.bool false) h fun v4 h =>
 K v4 h
theorem q_totp_TickMay (S : FuncId → List AVal → AHeap A → (AVal → AHeap A → Prop) → Prop) (G : Nat → AHeap A → List AVal → (List AVal → AHeap A → Prop) → Prop) (a0 : AVal) (h : AHeap A) (K : AVal → AHeap A → Prop) : funP Try.prog S G Try.f39 .leaf [a0] h K = p_totp_TickMay S G a0 h K := by kernel_rfl
theorem c_totp_TickMay {R : Adts A} {h : AHeap A} {K : AVal → AHeap A → Prop} {a0 : AVal} (hk : p_totp_TickMay (Tri Pr R) (Gives Pr R) a0 h K) : Tri Pr R n_totp_TickMay [a0] h K :=
  tri_of_funP (by kernel_rfl) (fun _ _ _ _ h => h) (fun _ _ _ _ h => h) Try.func39 (by rw [q_totp_TickMay]; exact hk)
/-- bastion/bastionref12.tickMay -/
def p_ref12_tickMay (S : FuncId → List AVal → AHeap A → (AVal → AHeap A → Prop) → Prop) (G : Nat → AHeap A → List AVal → (List AVal → AHeap A → Prop) → Prop) (a0 : AVal) (h : AHeap A) (K : AVal → AHeap A → Prop) : Prop :=
 binP .geq .other a0 (.int .i64 0) fun v1 =>
 condP v1 true (fun k2 =>
 binP .leq .other a0 (.int .i64 1048575) fun v3 =>
 k2 v3 h)
 (.bool false) h fun v4 h =>
 K v4 h
theorem q_ref12_tickMay (S : FuncId → List AVal → AHeap A → (AVal → AHeap A → Prop) → Prop) (G : Nat → AHeap A → List AVal → (List AVal → AHeap A → Prop) → Prop) (a0 : AVal) (h : AHeap A) (K : AVal → AHeap A → Prop) : funP Try.prog S G Try.f40 .leaf [a0] h K = p_ref12_tickMay S G a0 h K := by kernel_rfl
theorem c_ref12_tickMay {R : Adts A} {h : AHeap A} {K : AVal → AHeap A → Prop} {a0 : AVal} (hk : p_ref12_tickMay (Tri Pr R) (Gives Pr R) a0 h K) : Tri Pr R n_ref12_tickMay [a0] h K :=
  tri_of_funP (by kernel_rfl) (fun _ _ _ _ h => h) (fun _ _ _ _ h => h) Try.func40 (by rw [q_ref12_tickMay]; exact hk)
/-- (*bastion/book.Book).Term -/
def p_book_Book_Term (S : FuncId → List AVal → AHeap A → (AVal → AHeap A → Prop) → Prop) (G : Nat → AHeap A → List AVal → (List AVal → AHeap A → Prop) → Prop) (a0 a1 : AVal) (h : AHeap A) (K : AVal → AHeap A → Prop) : Prop :=
 binP .eql .ptr a0 .nilp fun v1 =>
 iteP v1
 (K (.tup [.str [], .int .i64 1]) h)
 (binP .lss .other a1 (.int .i64 0) fun v2 =>
 condP v2 false (fun k3 =>
 nilP a0 fun v4 =>
 fadP 1 v4 fun v5 =>
 ldP 1 false v5 h fun v6 =>
 lenP v6 fun v7 =>
 binP .geq .other a1 v7 fun v8 =>
 k3 v8 h)
 (.bool true) h fun v9 h =>
 iteP v9
 (K (.tup [.str [], .int .i64 202]) h)
 (nilP a0 fun v10 =>
 fadP 1 v10 fun v11 =>
 ldP 1 false v11 h fun v12 =>
 idxP 1 v12 a1 fun v13 =>
 ldP 1 false v13 h fun v14 =>
 K (.tup [v14, .int .i64 0]) h))
theorem q_book_Book_Term (S : FuncId → List AVal → AHeap A → (AVal → AHeap A → Prop) → Prop) (G : Nat → AHeap A → List AVal → (List AVal → AHeap A → Prop) → Prop) (a0 a1 : AVal) (h : AHeap A) (K : AVal → AHeap A → Prop) : funP Try.prog S G Try.f41 .leaf [a0, a1] h K = p_book_Book_Term S G a0 a1 h K := by kernel_rfl
theorem c_book_Book_Term {R : Adts A} {h : AHeap A} {K : AVal → AHeap A → Prop} {a0 a1 : AVal} (hk : p_book_Book_Term (Tri Pr R) (Gives Pr R) a0 a1 h K) : Tri Pr R n_book_Book_Term [a0, a1] h K :=
  tri_of_funP (by kernel_rfl) (fun _ _ _ _ h => h) (fun _ _ _ _ h => h) Try.func41 (by rw [q_book_Book_Term]; exact hk)
end Go.AI
