/- The functions as texts over the abstract heap. -/
import Derived.Test.YtlhmikjjnndjcaaNm
import Derived.KernelRfl
set_option linter.all false
namespace Go.AI
open Go.Proofs
set_option maxRecDepth 1000000
variable {A : Type}
/-- bastion/bastionlaw3.twin -/
def p_law3_twin (S : FuncId → List AVal → AHeap A → (AVal → AHeap A → Prop) → Prop) (G : Nat → AHeap A → List AVal → (List AVal → AHeap A → Prop) → Prop) (a0 a1 : AVal) (h : AHeap A) (K : AVal → AHeap A → Prop) : Prop :=
 S n_book_New [a0] h fun v1 h =>
 extP v1 0 fun v2 =>
 extP v1 1 fun v3 =>
 S n_ref1_NewBook [a0] h fun v4 h =>
 extP v4 0 fun v5 =>
 extP v4 1 fun v6 =>
 S n_law0_Num [v3] h fun v7 h =>
 binP .neq .other v7 (.int .i64 0) fun v8 =>
 condP v8 false (fun k9 =>
 binP .neq .other v6 (.int .i64 0) fun v10 =>
 k9 v10 h)
 (.bool true) h fun v11 h =>
 condP v11 false (fun k12 =>
 binP .eql .ptr v2 .nilp fun v13 =>
 k12 v13 h)
 (.bool true) h fun v14 h =>
 iteP v14
 (K (.tup [.nilp, .nilp]) h)
 (loopP G (fun v29 h k16 =>
 (fun v15 =>
 lenP a1 fun v17 =>
 binP .lss .other v15 v17 fun v18 =>
 condP v18 true (fun k19 =>
 binP .lss .other v15 (.int .i64 400) fun v20 =>
 k19 v20 h)
 (.bool false) h fun v21 h =>
 iteP v21
 (idxP 1 a1 v15 fun v22 =>
 ldP 1 false v22 h fun v23 =>
 S n_book_Book_Name [v2, v23] h fun v24 h =>
 idxP 1 a1 v15 fun v25 =>
 ldP 1 false v25 h fun v26 =>
 S n_ref1_Book_Name [v5, v26] h fun v27 h =>
 binP .add .other v15 (.int .i64 1) fun v28 =>
 k16 [v28] h)
 (K (.tup [v2, v5]) h)) (v29.getD 0 .any)) [.int .i64 0] h)
theorem q_law3_twin (S : FuncId → List AVal → AHeap A → (AVal → AHeap A → Prop) → Prop) (G : Nat → AHeap A → List AVal → (List AVal → AHeap A → Prop) → Prop) (a0 a1 : AVal) (h : AHeap A) (K : AVal → AHeap A → Prop) : funP Try.prog S G Try.f67 (.two none .leaf (.two none .leaf (.two none .leaf (.two none .leaf (.two none (.two none .leaf (.one [] (.one [10] .leaf))) .leaf))))) [a0, a1] h K = p_law3_twin S G a0 a1 h K := by kernel_rfl
theorem c_law3_twin {R : Adts A} {h : AHeap A} {K : AVal → AHeap A → Prop} {a0 a1 : AVal} (hk : p_law3_twin (Tri Pr R) (Gives Pr R) a0 a1 h K) : Tri Pr R n_law3_twin [a0, a1] h K :=
  tri_of_funP (by kernel_rfl) (fun _ _ _ _ h => h) (fun _ _ _ _ h => h) Try.func67 (by rw [q_law3_twin]; exact hk)
/-- bastion/bastionlaw3.awake -/
def p_law3_awake (S : FuncId → List AVal → AHeap A → (AVal → AHeap A → Prop) → Prop) (G : Nat → AHeap A → List AVal → (List AVal → AHeap A → Prop) → Prop) (h : AHeap A) (K : AVal → AHeap A → Prop) : Prop :=
 S n_law3_twin [.int .i64 9, .nils] h fun v1 h =>
 extP v1 0 fun v2 =>
 extP v1 1 fun v3 =>
 binP .eql .ptr v2 .nilp fun v4 =>
 condP v4 false (fun k5 =>
 binP .eql .ptr v3 .nilp fun v6 =>
 k5 v6 h)
 (.bool true) h fun v7 h =>
 iteP v7
 (K (.bool false) h)
 (S n_craft_Atom [v2, .str [107]] h fun v8 h =>
 extP v8 0 fun v9 =>
 extP v8 1 fun v10 =>
 S n_craft_Hash [v2, .str [120]] h fun v11 h =>
 extP v11 0 fun v12 =>
 extP v11 1 fun v13 =>
 S n_craft_Mac [v2, v9, .str [120]] h fun v14 h =>
 extP v14 0 fun v15 =>
 extP v14 1 fun v16 =>
 S n_craft_Seal [v2, v9, .str [98, 111, 100, 121]] h fun v17 h =>
 extP v17 0 fun v18 =>
 extP v17 1 fun v19 =>
 S n_craft_Open [v2, v9, v18] h fun v20 h =>
 extP v20 0 fun v21 =>
 extP v20 1 fun v22 =>
 S n_craft_Open [v2, v12, v18] h fun v23 h =>
 extP v23 0 fun v24 =>
 extP v23 1 fun v25 =>
 S n_craft_Mac [v2, .int .i64 (-1), .str [120]] h fun v26 h =>
 extP v26 0 fun v27 =>
 extP v26 1 fun v28 =>
 S n_craft_Atom [.nilp, .str [120]] h fun v29 h =>
 extP v29 0 fun v30 =>
 extP v29 1 fun v31 =>
 binP .eql .other v9 (.int .i64 0) fun v32 =>
 condP v32 true (fun k33 =>
 S n_law0_Num [v10] h fun v34 h =>
 binP .eql .other v34 (.int .i64 0) fun v35 =>
 k33 v35 h)
 (.bool false) h fun v36 h =>
 condP v36 true (fun k37 =>
 binP .eql .other v12 (.int .i64 1) fun v38 =>
 k37 v38 h)
 (.bool false) h fun v39 h =>
 condP v39 true (fun k40 =>
 S n_law0_Num [v13] h fun v41 h =>
 binP .eql .other v41 (.int .i64 0) fun v42 =>
 k40 v42 h)
 (.bool false) h fun v43 h =>
 condP v43 true (fun k44 =>
 binP .eql .other v15 (.int .i64 2) fun v45 =>
 k44 v45 h)
 (.bool false) h fun v46 h =>
 condP v46 true (fun k47 =>
 S n_law0_Num [v16] h fun v48 h =>
 binP .eql .other v48 (.int .i64 0) fun v49 =>
 k47 v49 h)
 (.bool false) h fun v50 h =>
 condP v50 true (fun k51 =>
 binP .eql .other v18 (.int .i64 3) fun v52 =>
 k51 v52 h)
 (.bool false) h fun v53 h =>
 condP v53 true (fun k54 =>
 S n_law0_Num [v19] h fun v55 h =>
 binP .eql .other v55 (.int .i64 0) fun v56 =>
 k54 v56 h)
 (.bool false) h fun v57 h =>
 condP v57 true (fun k58 =>
 binP .eql .other v21 (.str [98, 111, 100, 121]) fun v59 =>
 k58 v59 h)
 (.bool false) h fun v60 h =>
 condP v60 true (fun k61 =>
 S n_law0_Num [v22] h fun v62 h =>
 binP .eql .other v62 (.int .i64 0) fun v63 =>
 k61 v63 h)
 (.bool false) h fun v64 h =>
 condP v64 true (fun k65 =>
 S n_law0_Num [v25] h fun v66 h =>
 binP .eql .other v66 (.int .i64 301) fun v67 =>
 k65 v67 h)
 (.bool false) h fun v68 h =>
 condP v68 true (fun k69 =>
 S n_law0_Num [v28] h fun v70 h =>
 binP .eql .other v70 (.int .i64 300) fun v71 =>
 k69 v71 h)
 (.bool false) h fun v72 h =>
 condP v72 true (fun k73 =>
 S n_law0_Num [v31] h fun v74 h =>
 binP .eql .other v74 (.int .i64 1) fun v75 =>
 k73 v75 h)
 (.bool false) h fun v76 h =>
 condP v76 true (fun k77 =>
 S n_craft_IsMac [v2, v9, .str [120], v15] h fun v78 h =>
 k77 v78 h)
 (.bool false) h fun v79 h =>
 condP v79 true (fun k80 =>
 S n_craft_IsMac [v2, v9, .str [121], .int .i64 4] h fun v81 h =>
 notP v81 fun v82 =>
 k80 v82 h)
 (.bool false) h fun v83 h =>
 condP v83 true (fun k84 =>
 S n_craft_IsHash [v2, .str [120], v12] h fun v85 h =>
 k84 v85 h)
 (.bool false) h fun v86 h =>
 condP v86 true (fun k87 =>
 S n_craft_IsHash [.nilp, .str [120], v12] h fun v88 h =>
 notP v88 fun v89 =>
 k87 v89 h)
 (.bool false) h fun v90 h =>
 condP v90 true (fun k91 =>
 S n_book_Book_Len [v2] h fun v92 h =>
 binP .eql .other v92 (.int .i64 4) fun v93 =>
 k91 v93 h)
 (.bool false) h fun v94 h =>
 K v94 h)
theorem q_law3_awake (S : FuncId → List AVal → AHeap A → (AVal → AHeap A → Prop) → Prop) (G : Nat → AHeap A → List AVal → (List AVal → AHeap A → Prop) → Prop) (h : AHeap A) (K : AVal → AHeap A → Prop) : funP Try.prog S G Try.f68 .leaf [] h K = p_law3_awake S G h K := by kernel_rfl
theorem c_law3_awake {R : Adts A} {h : AHeap A} {K : AVal → AHeap A → Prop} (hk : p_law3_awake (Tri Pr R) (Gives Pr R) h K) : Tri Pr R n_law3_awake [] h K :=
  tri_of_funP (by kernel_rfl) (fun _ _ _ _ h => h) (fun _ _ _ _ h => h) Try.func68 (by rw [q_law3_awake]; exact hk)
/-- bastion/craft.IsHash -/
def p_craft_IsHash (S : FuncId → List AVal → AHeap A → (AVal → AHeap A → Prop) → Prop) (G : Nat → AHeap A → List AVal → (List AVal → AHeap A → Prop) → Prop) (a0 a1 a2 : AVal) (h : AHeap A) (K : AVal → AHeap A → Prop) : Prop :=
 binP .add .other (.str [72]) a1 fun v1 =>
 S n_craft_is [a0, v1, a2] h fun v2 h =>
 K v2 h
theorem q_craft_IsHash (S : FuncId → List AVal → AHeap A → (AVal → AHeap A → Prop) → Prop) (G : Nat → AHeap A → List AVal → (List AVal → AHeap A → Prop) → Prop) (a0 a1 a2 : AVal) (h : AHeap A) (K : AVal → AHeap A → Prop) : funP Try.prog S G Try.f69 .leaf [a0, a1, a2] h K = p_craft_IsHash S G a0 a1 a2 h K := by kernel_rfl
theorem c_craft_IsHash {R : Adts A} {h : AHeap A} {K : AVal → AHeap A → Prop} {a0 a1 a2 : AVal} (hk : p_craft_IsHash (Tri Pr R) (Gives Pr R) a0 a1 a2 h K) : Tri Pr R n_craft_IsHash [a0, a1, a2] h K :=
  tri_of_funP (by kernel_rfl) (fun _ _ _ _ h => h) (fun _ _ _ _ h => h) Try.func69 (by rw [q_craft_IsHash]; exact hk)
/-- bastion/craft.IsMac -/
def p_craft_IsMac (S : FuncId → List AVal → AHeap A → (AVal → AHeap A → Prop) → Prop) (G : Nat → AHeap A → List AVal → (List AVal → AHeap A → Prop) → Prop) (a0 a1 a2 a3 : AVal) (h : AHeap A) (K : AVal → AHeap A → Prop) : Prop :=
 S n_craft_keyed [.str [77], a1] h fun v1 h =>
 extP v1 0 fun v2 =>
 extP v1 1 fun v3 =>
 condP v3 true (fun k4 =>
 binP .add .other v2 a2 fun v5 =>
 S n_craft_is [a0, v5, a3] h fun v6 h =>
 k4 v6 h)
 (.bool false) h fun v7 h =>
 K v7 h
theorem q_craft_IsMac (S : FuncId → List AVal → AHeap A → (AVal → AHeap A → Prop) → Prop) (G : Nat → AHeap A → List AVal → (List AVal → AHeap A → Prop) → Prop) (a0 a1 a2 a3 : AVal) (h : AHeap A) (K : AVal → AHeap A → Prop) : funP Try.prog S G Try.f70 .leaf [a0, a1, a2, a3] h K = p_craft_IsMac S G a0 a1 a2 a3 h K := by kernel_rfl
theorem c_craft_IsMac {R : Adts A} {h : AHeap A} {K : AVal → AHeap A → Prop} {a0 a1 a2 a3 : AVal} (hk : p_craft_IsMac (Tri Pr R) (Gives Pr R) a0 a1 a2 a3 h K) : Tri Pr R n_craft_IsMac [a0, a1, a2, a3] h K :=
  tri_of_funP (by kernel_rfl) (fun _ _ _ _ h => h) (fun _ _ _ _ h => h) Try.func70 (by rw [q_craft_IsMac]; exact hk)
/-- bastion/craft.Open -/
def p_craft_Open (S : FuncId → List AVal → AHeap A → (AVal → AHeap A → Prop) → Prop) (G : Nat → AHeap A → List AVal → (List AVal → AHeap A → Prop) → Prop) (a0 a1 a2 : AVal) (h : AHeap A) (K : AVal → AHeap A → Prop) : Prop :=
 binP .eql .ptr a0 .nilp fun v1 =>
 iteP v1
 (K (.tup [.str [], .int .i64 1]) h)
 (S n_craft_keyed [.str [83], a1] h fun v2 h =>
 extP v2 0 fun v3 =>
 extP v2 1 fun v4 =>
 S n_book_Book_Term [a0, a2] h fun v5 h =>
 extP v5 0 fun v6 =>
 extP v5 1 fun v7 =>
 notP v4 fun v8 =>
 condP v8 false (fun k9 =>
 binP .neq .other v7 (.int .i64 0) fun v10 =>
 k9 v10 h)
 (.bool true) h fun v11 h =>
 condP v11 false (fun k12 =>
 S n_strings_HasPrefix [v6, v3] h fun v13 h =>
 notP v13 fun v14 =>
 k12 v14 h)
 (.bool true) h fun v15 h =>
 iteP v15
 (K (.tup [.str [], .int .i64 301]) h)
 (lnsP v3 fun v16 =>
 subP v6 (some v16) none fun v17 =>
 K (.tup [v17, .int .i64 0]) h))
theorem q_craft_Open (S : FuncId → List AVal → AHeap A → (AVal → AHeap A → Prop) → Prop) (G : Nat → AHeap A → List AVal → (List AVal → AHeap A → Prop) → Prop) (a0 a1 a2 : AVal) (h : AHeap A) (K : AVal → AHeap A → Prop) : funP Try.prog S G Try.f71 .leaf [a0, a1, a2] h K = p_craft_Open S G a0 a1 a2 h K := by kernel_rfl
theorem c_craft_Open {R : Adts A} {h : AHeap A} {K : AVal → AHeap A → Prop} {a0 a1 a2 : AVal} (hk : p_craft_Open (Tri Pr R) (Gives Pr R) a0 a1 a2 h K) : Tri Pr R n_craft_Open [a0, a1, a2] h K :=
  tri_of_funP (by kernel_rfl) (fun _ _ _ _ h => h) (fun _ _ _ _ h => h) Try.func71 (by rw [q_craft_Open]; exact hk)
/-- bastion/bastionref1.Open -/
def p_ref1_Open (S : FuncId → List AVal → AHeap A → (AVal → AHeap A → Prop) → Prop) (G : Nat → AHeap A → List AVal → (List AVal → AHeap A → Prop) → Prop) (a0 a1 a2 : AVal) (h : AHeap A) (K : AVal → AHeap A → Prop) : Prop :=
 S n_ref1_Book_Term [a0, a2] h fun v1 h =>
 extP v1 0 fun v2 =>
 extP v1 1 fun v3 =>
 bslP t_int 1 [.int .i64 0] [(0, 1, a1)] h fun v4 h =>
 S n_ref1_Nums [v4] h fun v5 h =>
 binP .add .other (.str [83]) v5 fun v6 =>
 binP .neq .other v3 (.int .i64 0) fun v7 =>
 condP v7 false (fun k8 =>
 S n_ref1_num [a1] h fun v9 h =>
 notP v9 fun v10 =>
 k8 v10 h)
 (.bool true) h fun v11 h =>
 condP v11 false (fun k12 =>
 lnsP v2 fun v13 =>
 lnsP v6 fun v14 =>
 binP .lss .other v13 v14 fun v15 =>
 k12 v15 h)
 (.bool true) h fun v16 h =>
 condP v16 false (fun k17 =>
 lnsP v6 fun v18 =>
 subP v2 none (some v18) fun v19 =>
 binP .neq .other v19 v6 fun v20 =>
 k17 v20 h)
 (.bool true) h fun v21 h =>
 iteP v21
 (K (.tup [.str [], .int .i64 301]) h)
 (lnsP v6 fun v22 =>
 subP v2 (some v22) none fun v23 =>
 K (.tup [v23, .int .i64 0]) h)
theorem q_ref1_Open (S : FuncId → List AVal → AHeap A → (AVal → AHeap A → Prop) → Prop) (G : Nat → AHeap A → List AVal → (List AVal → AHeap A → Prop) → Prop) (a0 a1 a2 : AVal) (h : AHeap A) (K : AVal → AHeap A → Prop) : funP Try.prog S G Try.f72 .leaf [a0, a1, a2] h K = p_ref1_Open S G a0 a1 a2 h K := by kernel_rfl
theorem c_ref1_Open {R : Adts A} {h : AHeap A} {K : AVal → AHeap A → Prop} {a0 a1 a2 : AVal} (hk : p_ref1_Open (Tri Pr R) (Gives Pr R) a0 a1 a2 h K) : Tri Pr R n_ref1_Open [a0, a1, a2] h K :=
  tri_of_funP (by kernel_rfl) (fun _ _ _ _ h => h) (fun _ _ _ _ h => h) Try.func72 (by rw [q_ref1_Open]; exact hk)
/-- bastion/bastionref1.IsHash -/
def p_ref1_IsHash (S : FuncId → List AVal → AHeap A → (AVal → AHeap A → Prop) → Prop) (G : Nat → AHeap A → List AVal → (List AVal → AHeap A → Prop) → Prop) (a0 a1 a2 : AVal) (h : AHeap A) (K : AVal → AHeap A → Prop) : Prop :=
 binP .add .other (.str [72]) a1 fun v1 =>
 S n_ref1_Book_Find [a0, v1] h fun v2 h =>
 extP v2 0 fun v3 =>
 extP v2 1 fun v4 =>
 condP v4 true (fun k5 =>
 binP .eql .other v3 a2 fun v6 =>
 k5 v6 h)
 (.bool false) h fun v7 h =>
 K v7 h
theorem q_ref1_IsHash (S : FuncId → List AVal → AHeap A → (AVal → AHeap A → Prop) → Prop) (G : Nat → AHeap A → List AVal → (List AVal → AHeap A → Prop) → Prop) (a0 a1 a2 : AVal) (h : AHeap A) (K : AVal → AHeap A → Prop) : funP Try.prog S G Try.f73 .leaf [a0, a1, a2] h K = p_ref1_IsHash S G a0 a1 a2 h K := by kernel_rfl
theorem c_ref1_IsHash {R : Adts A} {h : AHeap A} {K : AVal → AHeap A → Prop} {a0 a1 a2 : AVal} (hk : p_ref1_IsHash (Tri Pr R) (Gives Pr R) a0 a1 a2 h K) : Tri Pr R n_ref1_IsHash [a0, a1, a2] h K :=
  tri_of_funP (by kernel_rfl) (fun _ _ _ _ h => h) (fun _ _ _ _ h => h) Try.func73 (by rw [q_ref1_IsHash]; exact hk)
/-- bastion/bastionref1.IsMac -/
def p_ref1_IsMac (S : FuncId → List AVal → AHeap A → (AVal → AHeap A → Prop) → Prop) (G : Nat → AHeap A → List AVal → (List AVal → AHeap A → Prop) → Prop) (a0 a1 a2 a3 : AVal) (h : AHeap A) (K : AVal → AHeap A → Prop) : Prop :=
 bslP t_int 1 [.int .i64 0] [(0, 1, a1)] h fun v1 h =>
 S n_ref1_Nums [v1] h fun v2 h =>
 binP .add .other (.str [77]) v2 fun v3 =>
 binP .add .other v3 a2 fun v4 =>
 S n_ref1_Book_Find [a0, v4] h fun v5 h =>
 extP v5 0 fun v6 =>
 extP v5 1 fun v7 =>
 S n_ref1_num [a1] h fun v8 h =>
 condP v8 true (fun k9 =>
 k9 v7 h)
 (.bool false) h fun v10 h =>
 condP v10 true (fun k11 =>
 binP .eql .other v6 a3 fun v12 =>
 k11 v12 h)
 (.bool false) h fun v13 h =>
 K v13 h
theorem q_ref1_IsMac (S : FuncId → List AVal → AHeap A → (AVal → AHeap A → Prop) → Prop) (G : Nat → AHeap A → List AVal → (List AVal → AHeap A → Prop) → Prop) (a0 a1 a2 a3 : AVal) (h : AHeap A) (K : AVal → AHeap A → Prop) : funP Try.prog S G Try.f74 .leaf [a0, a1, a2, a3] h K = p_ref1_IsMac S G a0 a1 a2 a3 h K := by kernel_rfl
theorem c_ref1_IsMac {R : Adts A} {h : AHeap A} {K : AVal → AHeap A → Prop} {a0 a1 a2 a3 : AVal} (hk : p_ref1_IsMac (Tri Pr R) (Gives Pr R) a0 a1 a2 a3 h K) : Tri Pr R n_ref1_IsMac [a0, a1, a2, a3] h K :=
  tri_of_funP (by kernel_rfl) (fun _ _ _ _ h => h) (fun _ _ _ _ h => h) Try.func74 (by rw [q_ref1_IsMac]; exact hk)
/-- bastion/bastionlaw3.sameBooks -/
def p_law3_sameBooks (S : FuncId → List AVal → AHeap A → (AVal → AHeap A → Prop) → Prop) (G : Nat → AHeap A → List AVal → (List AVal → AHeap A → Prop) → Prop) (a0 a1 : AVal) (h : AHeap A) (K : AVal → AHeap A → Prop) : Prop :=
 nilP a1 fun v1 =>
 fadP 1 v1 fun v2 =>
 ldP 1 false v2 h fun v3 =>
 lenP v3 fun v4 =>
 S n_book_Book_Len [a0] h fun v5 h =>
 ldV 1 false v2 h = some v3 ∧
 binP .neq .other v5 v4 fun v6 =>
 iteP v6
 (K (.bool false) h)
 (nilP a1 fun v7 =>
 fadP 1 v7 fun v8 =>
 ldP 1 false v8 h fun v9 =>
 lenP v9 fun v10 =>
 binP .sub .other v10 (.int .i64 40) fun v11 =>
 maxP [.int .i64 0, v11] fun v12 =>
 loopP G (fun v34 h k14 =>
 (fun v13 =>
 nilP a1 fun v15 =>
 fadP 1 v15 fun v16 =>
 ldP 1 false v16 h fun v17 =>
 lenP v17 fun v18 =>
 binP .lss .other v13 v18 fun v19 =>
 iteP v19
 (S n_book_Book_Term [a0, v13] h fun v20 h =>
 extP v20 0 fun v21 =>
 extP v20 1 fun v22 =>
 S n_law0_Num [v22] h fun v23 h =>
 binP .neq .other v23 (.int .i64 0) fun v24 =>
 condP v24 false (fun k25 =>
 nilP a1 fun v26 =>
 fadP 1 v26 fun v27 =>
 ldP 1 false v27 h fun v28 =>
 idxP 1 v28 v13 fun v29 =>
 ldP 1 false v29 h fun v30 =>
 binP .neq .other v21 v30 fun v31 =>
 k25 v31 h)
 (.bool true) h fun v32 h =>
 iteP v32
 (K (.bool false) h)
 (binP .add .other v13 (.int .i64 1) fun v33 =>
 k14 [v33] h))
 (K (.bool true) h)) (v34.getD 0 .any)) [v12] h)
theorem q_law3_sameBooks (S : FuncId → List AVal → AHeap A → (AVal → AHeap A → Prop) → Prop) (G : Nat → AHeap A → List AVal → (List AVal → AHeap A → Prop) → Prop) (a0 a1 : AVal) (h : AHeap A) (K : AVal → AHeap A → Prop) : funP Try.prog S G Try.f75 (.two none .leaf (.two none (.two none (.draw none (.take 0 (.take 2 (.take 3 (.take 4 (.load 5 (.take 6 (.alt 1 (.take 7 .stop) .stop)))))))) .leaf) (.two none (.two none .leaf (.one [] (.one [5] .leaf))) .leaf))) [a0, a1] h K = p_law3_sameBooks S G a0 a1 h K := by kernel_rfl
theorem c_law3_sameBooks {R : Adts A} {h : AHeap A} {K : AVal → AHeap A → Prop} {a0 a1 : AVal} (hk : p_law3_sameBooks (Tri Pr R) (Gives Pr R) a0 a1 h K) : Tri Pr R n_law3_sameBooks [a0, a1] h K :=
  tri_of_funP (by kernel_rfl) (fun _ _ _ _ h => h) (fun _ _ _ _ h => h) Try.func75 (by rw [q_law3_sameBooks]; exact hk)
/-- bastion/craft.Atom -/
def p_craft_Atom (S : FuncId → List AVal → AHeap A → (AVal → AHeap A → Prop) → Prop) (G : Nat → AHeap A → List AVal → (List AVal → AHeap A → Prop) → Prop) (a0 a1 : AVal) (h : AHeap A) (K : AVal → AHeap A → Prop) : Prop :=
 binP .add .other (.str [65]) a1 fun v1 =>
 S n_craft_named [a0, v1, .bool true] h fun v2 h =>
 extP v2 0 fun v3 =>
 extP v2 1 fun v4 =>
 K (.tup [v3, v4]) h
theorem q_craft_Atom (S : FuncId → List AVal → AHeap A → (AVal → AHeap A → Prop) → Prop) (G : Nat → AHeap A → List AVal → (List AVal → AHeap A → Prop) → Prop) (a0 a1 : AVal) (h : AHeap A) (K : AVal → AHeap A → Prop) : funP Try.prog S G Try.f76 .leaf [a0, a1] h K = p_craft_Atom S G a0 a1 h K := by kernel_rfl
theorem c_craft_Atom {R : Adts A} {h : AHeap A} {K : AVal → AHeap A → Prop} {a0 a1 : AVal} (hk : p_craft_Atom (Tri Pr R) (Gives Pr R) a0 a1 h K) : Tri Pr R n_craft_Atom [a0, a1] h K :=
  tri_of_funP (by kernel_rfl) (fun _ _ _ _ h => h) (fun _ _ _ _ h => h) Try.func76 (by rw [q_craft_Atom]; exact hk)
/-- bastion/bastionref1.Atom -/
def p_ref1_Atom (S : FuncId → List AVal → AHeap A → (AVal → AHeap A → Prop) → Prop) (G : Nat → AHeap A → List AVal → (List AVal → AHeap A → Prop) → Prop) (a0 a1 : AVal) (h : AHeap A) (K : AVal → AHeap A → Prop) : Prop :=
 binP .add .other (.str [65]) a1 fun v1 =>
 S n_ref1_Book_made [a0, v1] h fun v2 h =>
 extP v2 0 fun v3 =>
 extP v2 1 fun v4 =>
 K (.tup [v3, v4]) h
theorem q_ref1_Atom (S : FuncId → List AVal → AHeap A → (AVal → AHeap A → Prop) → Prop) (G : Nat → AHeap A → List AVal → (List AVal → AHeap A → Prop) → Prop) (a0 a1 : AVal) (h : AHeap A) (K : AVal → AHeap A → Prop) : funP Try.prog S G Try.f77 .leaf [a0, a1] h K = p_ref1_Atom S G a0 a1 h K := by kernel_rfl
theorem c_ref1_Atom {R : Adts A} {h : AHeap A} {K : AVal → AHeap A → Prop} {a0 a1 : AVal} (hk : p_ref1_Atom (Tri Pr R) (Gives Pr R) a0 a1 h K) : Tri Pr R n_ref1_Atom [a0, a1] h K :=
  tri_of_funP (by kernel_rfl) (fun _ _ _ _ h => h) (fun _ _ _ _ h => h) Try.func77 (by rw [q_ref1_Atom]; exact hk)
/-- bastion/craft.Hash -/
def p_craft_Hash (S : FuncId → List AVal → AHeap A → (AVal → AHeap A → Prop) → Prop) (G : Nat → AHeap A → List AVal → (List AVal → AHeap A → Prop) → Prop) (a0 a1 : AVal) (h : AHeap A) (K : AVal → AHeap A → Prop) : Prop :=
 binP .add .other (.str [72]) a1 fun v1 =>
 S n_craft_named [a0, v1, .bool true] h fun v2 h =>
 extP v2 0 fun v3 =>
 extP v2 1 fun v4 =>
 K (.tup [v3, v4]) h
theorem q_craft_Hash (S : FuncId → List AVal → AHeap A → (AVal → AHeap A → Prop) → Prop) (G : Nat → AHeap A → List AVal → (List AVal → AHeap A → Prop) → Prop) (a0 a1 : AVal) (h : AHeap A) (K : AVal → AHeap A → Prop) : funP Try.prog S G Try.f78 .leaf [a0, a1] h K = p_craft_Hash S G a0 a1 h K := by kernel_rfl
theorem c_craft_Hash {R : Adts A} {h : AHeap A} {K : AVal → AHeap A → Prop} {a0 a1 : AVal} (hk : p_craft_Hash (Tri Pr R) (Gives Pr R) a0 a1 h K) : Tri Pr R n_craft_Hash [a0, a1] h K :=
  tri_of_funP (by kernel_rfl) (fun _ _ _ _ h => h) (fun _ _ _ _ h => h) Try.func78 (by rw [q_craft_Hash]; exact hk)
/-- bastion/bastionref1.Hash -/
def p_ref1_Hash (S : FuncId → List AVal → AHeap A → (AVal → AHeap A → Prop) → Prop) (G : Nat → AHeap A → List AVal → (List AVal → AHeap A → Prop) → Prop) (a0 a1 : AVal) (h : AHeap A) (K : AVal → AHeap A → Prop) : Prop :=
 binP .add .other (.str [72]) a1 fun v1 =>
 S n_ref1_Book_made [a0, v1] h fun v2 h =>
 extP v2 0 fun v3 =>
 extP v2 1 fun v4 =>
 K (.tup [v3, v4]) h
theorem q_ref1_Hash (S : FuncId → List AVal → AHeap A → (AVal → AHeap A → Prop) → Prop) (G : Nat → AHeap A → List AVal → (List AVal → AHeap A → Prop) → Prop) (a0 a1 : AVal) (h : AHeap A) (K : AVal → AHeap A → Prop) : funP Try.prog S G Try.f79 .leaf [a0, a1] h K = p_ref1_Hash S G a0 a1 h K := by kernel_rfl
theorem c_ref1_Hash {R : Adts A} {h : AHeap A} {K : AVal → AHeap A → Prop} {a0 a1 : AVal} (hk : p_ref1_Hash (Tri Pr R) (Gives Pr R) a0 a1 h K) : Tri Pr R n_ref1_Hash [a0, a1] h K :=
  tri_of_funP (by kernel_rfl) (fun _ _ _ _ h => h) (fun _ _ _ _ h => h) Try.func79 (by rw [q_ref1_Hash]; exact hk)
/-- bastion/craft.Mac -/
def p_craft_Mac (S : FuncId → List AVal → AHeap A → (AVal → AHeap A → Prop) → Prop) (G : Nat → AHeap A → List AVal → (List AVal → AHeap A → Prop) → Prop) (a0 a1 a2 : AVal) (h : AHeap A) (K : AVal → AHeap A → Prop) : Prop :=
 S n_craft_keyed [.str [77], a1] h fun v1 h =>
 extP v1 0 fun v2 =>
 extP v1 1 fun v3 =>
 binP .add .other v2 a2 fun v4 =>
 S n_craft_named [a0, v4, v3] h fun v5 h =>
 extP v5 0 fun v6 =>
 extP v5 1 fun v7 =>
 K (.tup [v6, v7]) h
theorem q_craft_Mac (S : FuncId → List AVal → AHeap A → (AVal → AHeap A → Prop) → Prop) (G : Nat → AHeap A → List AVal → (List AVal → AHeap A → Prop) → Prop) (a0 a1 a2 : AVal) (h : AHeap A) (K : AVal → AHeap A → Prop) : funP Try.prog S G Try.f80 .leaf [a0, a1, a2] h K = p_craft_Mac S G a0 a1 a2 h K := by kernel_rfl
theorem c_craft_Mac {R : Adts A} {h : AHeap A} {K : AVal → AHeap A → Prop} {a0 a1 a2 : AVal} (hk : p_craft_Mac (Tri Pr R) (Gives Pr R) a0 a1 a2 h K) : Tri Pr R n_craft_Mac [a0, a1, a2] h K :=
  tri_of_funP (by kernel_rfl) (fun _ _ _ _ h => h) (fun _ _ _ _ h => h) Try.func80 (by rw [q_craft_Mac]; exact hk)
/-- bastion/bastionref1.Mac -/
def p_ref1_Mac (S : FuncId → List AVal → AHeap A → (AVal → AHeap A → Prop) → Prop) (G : Nat → AHeap A → List AVal → (List AVal → AHeap A → Prop) → Prop) (a0 a1 a2 : AVal) (h : AHeap A) (K : AVal → AHeap A → Prop) : Prop :=
 S n_ref1_num [a1] h fun v1 h =>
 notP v1 fun v2 =>
 iteP v2
 (K (.tup [.int .i64 0, .int .i64 300]) h)
 (bslP t_int 1 [.int .i64 0] [(0, 1, a1)] h fun v3 h =>
 S n_ref1_Nums [v3] h fun v4 h =>
 binP .add .other (.str [77]) v4 fun v5 =>
 binP .add .other v5 a2 fun v6 =>
 S n_ref1_Book_made [a0, v6] h fun v7 h =>
 extP v7 0 fun v8 =>
 extP v7 1 fun v9 =>
 K (.tup [v8, v9]) h)
theorem q_ref1_Mac (S : FuncId → List AVal → AHeap A → (AVal → AHeap A → Prop) → Prop) (G : Nat → AHeap A → List AVal → (List AVal → AHeap A → Prop) → Prop) (a0 a1 a2 : AVal) (h : AHeap A) (K : AVal → AHeap A → Prop) : funP Try.prog S G Try.f81 .leaf [a0, a1, a2] h K = p_ref1_Mac S G a0 a1 a2 h K := by kernel_rfl
theorem c_ref1_Mac {R : Adts A} {h : AHeap A} {K : AVal → AHeap A → Prop} {a0 a1 a2 : AVal} (hk : p_ref1_Mac (Tri Pr R) (Gives Pr R) a0 a1 a2 h K) : Tri Pr R n_ref1_Mac [a0, a1, a2] h K :=
  tri_of_funP (by kernel_rfl) (fun _ _ _ _ h => h) (fun _ _ _ _ h => h) Try.func81 (by rw [q_ref1_Mac]; exact hk)
/-- bastion/craft.Seal -/
def p_craft_Seal (S : FuncId → List AVal → AHeap A → (AVal → AHeap A → Prop) → Prop) (G : Nat → AHeap A → List AVal → (List AVal → AHeap A → Prop) → Prop) (a0 a1 a2 : AVal) (h : AHeap A) (K : AVal → AHeap A → Prop) : Prop :=
 S n_craft_keyed [.str [83], a1] h fun v1 h =>
 extP v1 0 fun v2 =>
 extP v1 1 fun v3 =>
 binP .add .other v2 a2 fun v4 =>
 S n_craft_named [a0, v4, v3] h fun v5 h =>
 extP v5 0 fun v6 =>
 extP v5 1 fun v7 =>
 K (.tup [v6, v7]) h
theorem q_craft_Seal (S : FuncId → List AVal → AHeap A → (AVal → AHeap A → Prop) → Prop) (G : Nat → AHeap A → List AVal → (List AVal → AHeap A → Prop) → Prop) (a0 a1 a2 : AVal) (h : AHeap A) (K : AVal → AHeap A → Prop) : funP Try.prog S G Try.f82 .leaf [a0, a1, a2] h K = p_craft_Seal S G a0 a1 a2 h K := by kernel_rfl
theorem c_craft_Seal {R : Adts A} {h : AHeap A} {K : AVal → AHeap A → Prop} {a0 a1 a2 : AVal} (hk : p_craft_Seal (Tri Pr R) (Gives Pr R) a0 a1 a2 h K) : Tri Pr R n_craft_Seal [a0, a1, a2] h K :=
  tri_of_funP (by kernel_rfl) (fun _ _ _ _ h => h) (fun _ _ _ _ h => h) Try.func82 (by rw [q_craft_Seal]; exact hk)
/-- bastion/bastionref1.Seal -/
def p_ref1_Seal (S : FuncId → List AVal → AHeap A → (AVal → AHeap A → Prop) → Prop) (G : Nat → AHeap A → List AVal → (List AVal → AHeap A → Prop) → Prop) (a0 a1 a2 : AVal) (h : AHeap A) (K : AVal → AHeap A → Prop) : Prop :=
 S n_ref1_num [a1] h fun v1 h =>
 notP v1 fun v2 =>
 iteP v2
 (K (.tup [.int .i64 0, .int .i64 300]) h)
 (bslP t_int 1 [.int .i64 0] [(0, 1, a1)] h fun v3 h =>
 S n_ref1_Nums [v3] h fun v4 h =>
 binP .add .other (.str [83]) v4 fun v5 =>
 binP .add .other v5 a2 fun v6 =>
 S n_ref1_Book_made [a0, v6] h fun v7 h =>
 extP v7 0 fun v8 =>
 extP v7 1 fun v9 =>
 K (.tup [v8, v9]) h)
theorem q_ref1_Seal (S : FuncId → List AVal → AHeap A → (AVal → AHeap A → Prop) → Prop) (G : Nat → AHeap A → List AVal → (List AVal → AHeap A → Prop) → Prop) (a0 a1 a2 : AVal) (h : AHeap A) (K : AVal → AHeap A → Prop) : funP Try.prog S G Try.f83 .leaf [a0, a1, a2] h K = p_ref1_Seal S G a0 a1 a2 h K := by kernel_rfl
theorem c_ref1_Seal {R : Adts A} {h : AHeap A} {K : AVal → AHeap A → Prop} {a0 a1 a2 : AVal} (hk : p_ref1_Seal (Tri Pr R) (Gives Pr R) a0 a1 a2 h K) : Tri Pr R n_ref1_Seal [a0, a1, a2] h K :=
  tri_of_funP (by kernel_rfl) (fun _ _ _ _ h => h) (fun _ _ _ _ h => h) Try.func83 (by rw [q_ref1_Seal]; exact hk)
/-- bastion/book.New -/
def p_book_New (S : FuncId → List AVal → AHeap A → (AVal → AHeap A → Prop) → Prop) (G : Nat → AHeap A → List AVal → (List AVal → AHeap A → Prop) → Prop) (a0 : AVal) (h : AHeap A) (K : AVal → AHeap A → Prop) : Prop :=
 binP .lss .other a0 (.int .i64 1) fun v1 =>
 condP v1 false (fun k2 =>
 binP .gtr .other a0 (.int .i64 65536) fun v3 =>
 k2 v3 h)
 (.bool true) h fun v4 h =>
 iteP v4
 (K (.tup [.nilp, .int .i64 200]) h)
 (mkmP h fun v5 h =>
 bldP [.int .i64 0, .nils, .nilm] [(0, 1, a0), (2, 1, v5)] fun v6 =>
 boxP t_book_Book 3 v6 h fun v7 h =>
 K (.tup [v7, .int .i64 0]) h)
theorem q_book_New (S : FuncId → List AVal → AHeap A → (AVal → AHeap A → Prop) → Prop) (G : Nat → AHeap A → List AVal → (List AVal → AHeap A → Prop) → Prop) (a0 : AVal) (h : AHeap A) (K : AVal → AHeap A → Prop) : funP Try.prog S G Try.f84 .leaf [a0] h K = p_book_New S G a0 h K := by kernel_rfl
theorem c_book_New {R : Adts A} {h : AHeap A} {K : AVal → AHeap A → Prop} {a0 : AVal} (hk : p_book_New (Tri Pr R) (Gives Pr R) a0 h K) : Tri Pr R n_book_New [a0] h K :=
  tri_of_funP (by kernel_rfl) (fun _ _ _ _ h => h) (fun _ _ _ _ h => h) Try.func84 (by rw [q_book_New]; exact hk)
/-- (*bastion/book.Book).Term -/
def p_book_Book_Term (S : FuncId → List AVal → AHeap A → (AVal → AHeap A → Prop) → Prop) (G : Nat → AHeap A → List AVal → (List AVal → AHeap A → Prop) → Prop) (a0 a1 : AVal) (h : AHeap A) (K : AVal → AHeap A → Prop) : Prop :=
 binP .eql .ptr a0 .nilp fun v1 =>
 iteP v1
 (K (.tup [.str [], .int .i64 1]) h)
 (binP .lss .other a1 (.int .i64 0) fun v2 =>
 condP v2 false (fun k3 =>
 nilP a0 fun v4 =>
 fadP 1 v4 fun v5 =>
 ldP 1 false v5 h fun v6 =>
 lenP v6 fun v7 =>
 binP .geq .other a1 v7 fun v8 =>
 k3 v8 h)
 (.bool true) h fun v9 h =>
 iteP v9
 (K (.tup [.str [], .int .i64 202]) h)
 (nilP a0 fun v10 =>
 fadP 1 v10 fun v11 =>
 ldP 1 false v11 h fun v12 =>
 idxP 1 v12 a1 fun v13 =>
 ldP 1 false v13 h fun v14 =>
 K (.tup [v14, .int .i64 0]) h))
theorem q_book_Book_Term (S : FuncId → List AVal → AHeap A → (AVal → AHeap A → Prop) → Prop) (G : Nat → AHeap A → List AVal → (List AVal → AHeap A → Prop) → Prop) (a0 a1 : AVal) (h : AHeap A) (K : AVal → AHeap A → Prop) : funP Try.prog S G Try.f85 .leaf [a0, a1] h K = p_book_Book_Term S G a0 a1 h K := by kernel_rfl
theorem c_book_Book_Term {R : Adts A} {h : AHeap A} {K : AVal → AHeap A → Prop} {a0 a1 : AVal} (hk : p_book_Book_Term (Tri Pr R) (Gives Pr R) a0 a1 h K) : Tri Pr R n_book_Book_Term [a0, a1] h K :=
  tri_of_funP (by kernel_rfl) (fun _ _ _ _ h => h) (fun _ _ _ _ h => h) Try.func85 (by rw [q_book_Book_Term]; exact hk)
/-- bastion/bastionlaw3.has -/
def p_law3_has (S : FuncId → List AVal → AHeap A → (AVal → AHeap A → Prop) → Prop) (G : Nat → AHeap A → List AVal → (List AVal → AHeap A → Prop) → Prop) (a0 a1 : AVal) (h : AHeap A) (K : AVal → AHeap A → Prop) : Prop :=
 loopP G (fun v9 h k2 =>
 (fun v1 =>
 lenP a0 fun v3 =>
 binP .lss .other v1 v3 fun v4 =>
 iteP v4
 (idxP 1 a0 v1 fun v5 =>
 ldP 1 false v5 h fun v6 =>
 binP .eql .other v6 a1 fun v7 =>
 iteP v7
 (K (.bool true) h)
 (binP .add .other v1 (.int .i64 1) fun v8 =>
 k2 [v8] h))
 (K (.bool false) h)) (v9.getD 0 .any)) [.int .i64 0] h
theorem q_law3_has (S : FuncId → List AVal → AHeap A → (AVal → AHeap A → Prop) → Prop) (G : Nat → AHeap A → List AVal → (List AVal → AHeap A → Prop) → Prop) (a0 a1 : AVal) (h : AHeap A) (K : AVal → AHeap A → Prop) : funP Try.prog S G Try.f86 (.two none .leaf (.two none (.two none .leaf (.one [] (.one [5] .leaf))) .leaf)) [a0, a1] h K = p_law3_has S G a0 a1 h K := by kernel_rfl
theorem c_law3_has {R : Adts A} {h : AHeap A} {K : AVal → AHeap A → Prop} {a0 a1 : AVal} (hk : p_law3_has (Tri Pr R) (Gives Pr R) a0 a1 h K) : Tri Pr R n_law3_has [a0, a1] h K :=
  tri_of_funP (by kernel_rfl) (fun _ _ _ _ h => h) (fun _ _ _ _ h => h) Try.func86 (by rw [q_law3_has]; exact hk)
/-- bastion/window.within -/
def p_window_within (S : FuncId → List AVal → AHeap A → (AVal → AHeap A → Prop) → Prop) (G : Nat → AHeap A → List AVal → (List AVal → AHeap A → Prop) → Prop) (a0 : AVal) (h : AHeap A) (K : AVal → AHeap A → Prop) : Prop :=
 binP .geq .other a0 (.int .i64 32) fun v1 =>
 iteP v1
 (K (.int .i64 4294967295) h)
 (binP .add .other a0 (.int .i64 1) fun v2 =>
 binP .shl .other (.int .i64 1) v2 fun v3 =>
 binP .sub .other v3 (.int .i64 1) fun v4 =>
 K v4 h)
theorem q_window_within (S : FuncId → List AVal → AHeap A → (AVal → AHeap A → Prop) → Prop) (G : Nat → AHeap A → List AVal → (List AVal → AHeap A → Prop) → Prop) (a0 : AVal) (h : AHeap A) (K : AVal → AHeap A → Prop) : funP Try.prog S G Try.f87 .leaf [a0] h K = p_window_within S G a0 h K := by kernel_rfl
theorem c_window_within {R : Adts A} {h : AHeap A} {K : AVal → AHeap A → Prop} {a0 : AVal} (hk : p_window_within (Tri Pr R) (Gives Pr R) a0 h K) : Tri Pr R n_window_within [a0] h K :=
  tri_of_funP (by kernel_rfl) (fun _ _ _ _ h => h) (fun _ _ _ _ h => h) Try.func87 (by rw [q_window_within]; exact hk)
/-- bastion/bastionref1.NewBook -/
def p_ref1_NewBook (S : FuncId → List AVal → AHeap A → (AVal → AHeap A → Prop) → Prop) (G : Nat → AHeap A → List AVal → (List AVal → AHeap A → Prop) → Prop) (a0 : AVal) (h : AHeap A) (K : AVal → AHeap A → Prop) : Prop :=
 binP .lss .other a0 (.int .i64 1) fun v1 =>
 condP v1 false (fun k2 =>
 binP .gtr .other a0 (.int .i64 65536) fun v3 =>
 k2 v3 h)
 (.bool true) h fun v4 h =>
 iteP v4
 (K (.tup [.nilp, .int .i64 200]) h)
 (bldP [.int .i64 0, .nils] [(0, 1, a0)] fun v5 =>
 boxP t_bastionref1_Book 2 v5 h fun v6 h =>
 K (.tup [v6, .int .i64 0]) h)
theorem q_ref1_NewBook (S : FuncId → List AVal → AHeap A → (AVal → AHeap A → Prop) → Prop) (G : Nat → AHeap A → List AVal → (List AVal → AHeap A → Prop) → Prop) (a0 : AVal) (h : AHeap A) (K : AVal → AHeap A → Prop) : funP Try.prog S G Try.f88 .leaf [a0] h K = p_ref1_NewBook S G a0 h K := by kernel_rfl
theorem c_ref1_NewBook {R : Adts A} {h : AHeap A} {K : AVal → AHeap A → Prop} {a0 : AVal} (hk : p_ref1_NewBook (Tri Pr R) (Gives Pr R) a0 h K) : Tri Pr R n_ref1_NewBook [a0] h K :=
  tri_of_funP (by kernel_rfl) (fun _ _ _ _ h => h) (fun _ _ _ _ h => h) Try.func88 (by rw [q_ref1_NewBook]; exact hk)
/-- (*bastion/book.Book).Name -/
def p_book_Book_Name (S : FuncId → List AVal → AHeap A → (AVal → AHeap A → Prop) → Prop) (G : Nat → AHeap A → List AVal → (List AVal → AHeap A → Prop) → Prop) (a0 a1 : AVal) (h : AHeap A) (K : AVal → AHeap A → Prop) : Prop :=
 binP .eql .ptr a0 .nilp fun v1 =>
 iteP v1
 (K (.tup [.int .i64 0, .int .i64 1]) h)
 (binP .eql .other a1 (.str []) fun v2 =>
 condP v2 false (fun k3 =>
 lnsP a1 fun v4 =>
 binP .gtr .other v4 (.int .i64 512) fun v5 =>
 k3 v5 h)
 (.bool true) h fun v6 h =>
 iteP v6
 (K (.tup [.int .i64 0, .int .i64 200]) h)
 (nilP a0 fun v7 =>
 fadP 2 v7 fun v8 =>
 ldP 1 false v8 h fun v9 =>
 lkP true (.int .i64 0) true v9 a1 h fun v10 =>
 extP v10 0 fun v11 =>
 extP v10 1 fun v12 =>
 iteP v12
 (K (.tup [v11, .int .i64 0]) h)
 (nilP a0 fun v13 =>
 fadP 1 v13 fun v14 =>
 nilP a0 fun v15 =>
 fadP 0 v15 fun v16 =>
 ldP 1 false v14 h fun v17 =>
 lenP v17 fun v18 =>
 ldP 1 false v16 h fun v19 =>
 ldV 1 false v14 h = some v17 ∧
 binP .geq .other v18 v19 fun v20 =>
 iteP v20
 (K (.tup [.int .i64 0, .int .i64 201]) h)
 (nilP a0 fun v21 =>
 fadP 1 v21 fun v22 =>
 ldP 1 false v22 h fun v23 =>
 lenP v23 fun v24 =>
 nilP a0 fun v25 =>
 fadP 2 v25 fun v26 =>
 nilP a0 fun v27 =>
 fadP 1 v27 fun v28 =>
 ldP 1 false v26 h fun v29 =>
 ldP 1 false v28 h fun v30 =>
 bslP t_string 1 [.str []] [(0, 1, a1)] h fun v31 h =>
 ldV 1 false v28 h = some v30 ∧
 ldV 1 false v26 h = some v29 ∧
 appP t_string 1 16 v30 v31 h fun v32 h =>
 ldV 1 false v26 h = some v29 ∧
 nilP a0 fun v33 =>
 fadP 1 v33 fun v34 =>
 stP 1 v34 v32 h fun h =>
 mentP true (.int .i64 0) v29 a1 h fun v35 h =>
 extP v35 1 fun v36 =>
 estP v29 v36 v24 h fun h =>
 K (.tup [v24, .int .i64 0]) h))))
theorem q_book_Book_Name (S : FuncId → List AVal → AHeap A → (AVal → AHeap A → Prop) → Prop) (G : Nat → AHeap A → List AVal → (List AVal → AHeap A → Prop) → Prop) (a0 a1 : AVal) (h : AHeap A) (K : AVal → AHeap A → Prop) : funP Try.prog S G Try.f89 (.two none .leaf (.two none .leaf (.two none .leaf (.two none (.two none (.draw none (.take 0 (.take 1 (.take 2 (.take 5 (.take 6 (.take 7 (.load 3 (.take 4 (.alt 8 (.take 9 .stop) .stop)))))))))) .leaf) (.two none .leaf (.two none (.draw none (.take 0 (.take 1 (.take 2 (.take 3 (.take 5 (.take 6 (.take 7 (.take 8 (.take 10 (.take 13 (.load 4 (.load 9 (.alt 11 (.alt 12 (.take 14 (.take 15 (.alt 16 (.alt 17 (.take 18 (.alt 19 .stop .stop)) .stop) .stop))) .stop) .stop)))))))))))))) .leaf)))))) [a0, a1] h K = p_book_Book_Name S G a0 a1 h K := by kernel_rfl
theorem c_book_Book_Name {R : Adts A} {h : AHeap A} {K : AVal → AHeap A → Prop} {a0 a1 : AVal} (hk : p_book_Book_Name (Tri Pr R) (Gives Pr R) a0 a1 h K) : Tri Pr R n_book_Book_Name [a0, a1] h K :=
  tri_of_funP (by kernel_rfl) (fun _ _ _ _ h => h) (fun _ _ _ _ h => h) Try.func89 (by rw [q_book_Book_Name]; exact hk)
/-- (*bastion/bastionref1.Book).Name -/
def p_ref1_Book_Name (S : FuncId → List AVal → AHeap A → (AVal → AHeap A → Prop) → Prop) (G : Nat → AHeap A → List AVal → (List AVal → AHeap A → Prop) → Prop) (a0 a1 : AVal) (h : AHeap A) (K : AVal → AHeap A → Prop) : Prop :=
 lnsP a1 fun v1 =>
 binP .lss .other v1 (.int .i64 1) fun v2 =>
 condP v2 false (fun k3 =>
 lnsP a1 fun v4 =>
 binP .gtr .other v4 (.int .i64 512) fun v5 =>
 k3 v5 h)
 (.bool true) h fun v6 h =>
 iteP v6
 (K (.tup [.int .i64 0, .int .i64 200]) h)
 (S n_ref1_Book_Find [a0, a1] h fun v7 h =>
 extP v7 0 fun v8 =>
 extP v7 1 fun v9 =>
 iteP v9
 (K (.tup [v8, .int .i64 0]) h)
 (nilP a0 fun v10 =>
 fadP 1 v10 fun v11 =>
 nilP a0 fun v12 =>
 fadP 0 v12 fun v13 =>
 ldP 1 false v11 h fun v14 =>
 lenP v14 fun v15 =>
 ldP 1 false v13 h fun v16 =>
 ldV 1 false v11 h = some v14 ∧
 binP .geq .other v15 v16 fun v17 =>
 iteP v17
 (K (.tup [.int .i64 0, .int .i64 201]) h)
 (nilP a0 fun v18 =>
 fadP 1 v18 fun v19 =>
 ldP 1 false v19 h fun v20 =>
 bslP t_string 1 [.str []] [(0, 1, a1)] h fun v21 h =>
 appP t_string 1 16 v20 v21 h fun v22 h =>
 nilP a0 fun v23 =>
 fadP 1 v23 fun v24 =>
 stP 1 v24 v22 h fun h =>
 nilP a0 fun v25 =>
 fadP 1 v25 fun v26 =>
 ldP 1 false v26 h fun v27 =>
 lenP v27 fun v28 =>
 binP .sub .other v28 (.int .i64 1) fun v29 =>
 K (.tup [v29, .int .i64 0]) h)))
theorem q_ref1_Book_Name (S : FuncId → List AVal → AHeap A → (AVal → AHeap A → Prop) → Prop) (G : Nat → AHeap A → List AVal → (List AVal → AHeap A → Prop) → Prop) (a0 a1 : AVal) (h : AHeap A) (K : AVal → AHeap A → Prop) : funP Try.prog S G Try.f90 (.two none .leaf (.two none .leaf (.two none .leaf (.two none .leaf (.two none (.two none (.draw none (.take 0 (.take 1 (.take 2 (.take 5 (.take 6 (.take 7 (.load 3 (.take 4 (.alt 8 (.take 9 .stop) .stop)))))))))) .leaf) .leaf))))) [a0, a1] h K = p_ref1_Book_Name S G a0 a1 h K := by kernel_rfl
theorem c_ref1_Book_Name {R : Adts A} {h : AHeap A} {K : AVal → AHeap A → Prop} {a0 a1 : AVal} (hk : p_ref1_Book_Name (Tri Pr R) (Gives Pr R) a0 a1 h K) : Tri Pr R n_ref1_Book_Name [a0, a1] h K :=
  tri_of_funP (by kernel_rfl) (fun _ _ _ _ h => h) (fun _ _ _ _ h => h) Try.func90 (by rw [q_ref1_Book_Name]; exact hk)
end Go.AI
