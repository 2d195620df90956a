/- The functions as texts over the abstract heap. -/
import Derived.Test.YtlhmikjjnndjcaaNm
import Derived.KernelRfl
set_option linter.all false
namespace Go.AI
open Go.Proofs
set_option maxRecDepth 1000000
variable {A : Type}
/-- bastion/craft.IsMac -/
def p_craft_IsMac (S : FuncId → List AVal → AHeap A → (AVal → AHeap A → Prop) → Prop) (G : Nat → AHeap A → List AVal → (List AVal → AHeap A → Prop) → Prop) (a0 a1 a2 a3 : AVal) (h : AHeap A) (K : AVal → AHeap A → Prop) : Prop :=
 S n_craft_keyed [.str [77], a1] h fun v1 h =>
 extP v1 0 fun v2 =>
 extP v1 1 fun v3 =>
 condP v3 true (fun k4 =>
 binP .add .other v2 a2 fun v5 =>
 S n_craft_is [a0, v5, a3] h fun v6 h =>
 k4 v6 h)
 (.bool false) h fun v7 h =>
 K v7 h
theorem q_craft_IsMac (S : FuncId → List AVal → AHeap A → (AVal → AHeap A → Prop) → Prop) (G : Nat → AHeap A → List AVal → (List AVal → AHeap A → Prop) → Prop) (a0 a1 a2 a3 : AVal) (h : AHeap A) (K : AVal → AHeap A → Prop) : funP Try.prog S G Try.f70 .leaf [a0, a1, a2, a3] h K = p_craft_IsMac S G a0 a1 a2 a3 h K := by kernel_rfl
theorem c_craft_IsMac {R : Adts A} {h : AHeap A} {K : AVal → AHeap A → Prop} {a0 a1 a2 a3 : AVal} (hk : p_craft_IsMac (Tri Pr R) (Gives Pr R) a0 a1 a2 a3 h K) : Tri Pr R n_craft_IsMac [a0, a1, a2, a3] h K :=
  tri_of_funP (by kernel_rfl) (fun _ _ _ _ h => h) (fun _ _ _ _ h => h) Try.func70 (by rw [q_craft_IsMac]; exact hk)
/-- bastion/craft.Open -/
def p_craft_Open (S : FuncId → List AVal → AHeap A → (AVal → AHeap A → Prop) → Prop) (G : Nat → AHeap A → List AVal → (List AVal → AHeap A → Prop) → Prop) (a0 a1 a2 : AVal) (h : AHeap A) (K : AVal → AHeap A → Prop) : Prop :=
 binP .eql .ptr a0 .nilp fun v1 =>
 iteP v1
 (K (.tup [.str [], .int .i64 1]) h)
 (S n_craft_keyed [.str [83], a1] h fun v2 h =>
 extP v2 0 fun v3 =>
 extP v2 1 fun v4 =>
 S n_book_Book_Term [a0, a2] h fun v5 h =>
 extP v5 0 fun v6 =>
 extP v5 1 fun v7 =>
 notP v4 fun v8 =>
 condP v8 false (fun k9 =>
 binP .neq .other v7 (.int .i64 0) fun v10 =>
 k9 v10 h)
 (.bool true) h fun v11 h =>
 condP v11 false (fun k12 =>
 S n_strings_HasPrefix [v6, v3] h fun v13 h =>
 notP v13 fun v14 =>
 k12 v14 h)
 (.bool true) h fun v15 h =>
 iteP v15
 (K (.tup [.str [], .int .i64 301]) h)
 (lnsP v3 fun v16 =>
 subP v6 (some v16) none fun v17 =>
 K (.tup [v17, .int .i64 0]) h))
theorem q_craft_Open (S : FuncId → List AVal → AHeap A → (AVal → AHeap A → Prop) → Prop) (G : Nat → AHeap A → List AVal → (List AVal → AHeap A → Prop) → Prop) (a0 a1 a2 : AVal) (h : AHeap A) (K : AVal → AHeap A → Prop) : funP Try.prog S G Try.f71 .leaf [a0, a1, a2] h K = p_craft_Open S G a0 a1 a2 h K := by kernel_rfl
theorem c_craft_Open {R : Adts A} {h : AHeap A} {K : AVal → AHeap A → Prop} {a0 a1 a2 : AVal} (hk : p_craft_Open (Tri Pr R) (Gives Pr R) a0 a1 a2 h K) : Tri Pr R n_craft_Open [a0, a1, a2] h K :=
  tri_of_funP (by kernel_rfl) (fun _ _ _ _ h => h) (fun _ _ _ _ h => h) Try.func71 (by rw [q_craft_Open]; exact hk)
/-- bastion/bastionref1.Open -/
def p_ref1_Open (S : FuncId → List AVal → AHeap A → (AVal → AHeap A → Prop) → Prop) (G : Nat → AHeap A → List AVal → (List AVal → AHeap A → Prop) → Prop) (a0 a1 a2 : AVal) (h : AHeap A) (K : AVal → AHeap A → Prop) : Prop :=
 S n_ref1_Book_Term [a0, a2] h fun v1 h =>
 extP v1 0 fun v2 =>
 extP v1 1 fun v3 =>
 bslP t_int 1 [.int .i64 0] [(0, 1, a1)] h fun v4 h =>
 S n_ref1_Nums [v4] h fun v5 h =>
 binP .add .other (.str [83]) v5 fun v6 =>
 binP .neq .other v3 (.int .i64 0) fun v7 =>
 condP v7 false (fun k8 =>
 S n_ref1_num [a1] h fun v9 h =>
 notP v9 fun v10 =>
 k8 v10 h)
 (.bool true) h fun v11 h =>
 condP v11 false (fun k12 =>
 lnsP v2 fun v13 =>
 lnsP v6 fun v14 =>
 binP .lss .other v13 v14 fun v15 =>
 k12 v15 h)
 (.bool true) h fun v16 h =>
 condP v16 false (fun k17 =>
 lnsP v6 fun v18 =>
 subP v2 none (some v18) fun v19 =>
 binP .neq .other v19 v6 fun v20 =>
 k17 v20 h)
 (.bool true) h fun v21 h =>
 iteP v21
 (K (.tup [.str [], .int .i64 301]) h)
 (lnsP v6 fun v22 =>
 subP v2 (some v22) none fun v23 =>
 K (.tup [v23, .int .i64 0]) h)
theorem q_ref1_Open (S : FuncId → List AVal → AHeap A → (AVal → AHeap A → Prop) → Prop) (G : Nat → AHeap A → List AVal → (List AVal → AHeap A → Prop) → Prop) (a0 a1 a2 : AVal) (h : AHeap A) (K : AVal → AHeap A → Prop) : funP Try.prog S G Try.f72 .leaf [a0, a1, a2] h K = p_ref1_Open S G a0 a1 a2 h K := by kernel_rfl
theorem c_ref1_Open {R : Adts A} {h : AHeap A} {K : AVal → AHeap A → Prop} {a0 a1 a2 : AVal} (hk : p_ref1_Open (Tri Pr R) (Gives Pr R) a0 a1 a2 h K) : Tri Pr R n_ref1_Open [a0, a1, a2] h K :=
  tri_of_funP (by kernel_rfl) (fun _ _ _ _ h => h) (fun _ _ _ _ h => h) Try.func72 (by rw [q_ref1_Open]; exact hk)
/-- bastion/bastionref1.IsHash -/
def p_ref1_IsHash (S : FuncId → List AVal → AHeap A → (AVal → AHeap A → Prop) → Prop) (G : Nat → AHeap A → List AVal → (List AVal → AHeap A → Prop) → Prop) (a0 a1 a2 : AVal) (h : AHeap A) (K : AVal → AHeap A → Prop) : Prop :=
 binP .add .other (.str [72]) a1 fun v1 =>
 S n_ref1_Book_Find [a0, v1] h fun v2 h =>
 extP v2 0 fun v3 =>
 extP v2 1 fun v4 =>
 condP v4 true (fun k5 =>
 binP .eql .other v3 a2 fun v6 =>
 k5 v6 h)
 (.bool false) h fun v7 h =>
 K v7 h
theorem q_ref1_IsHash (S : FuncId → List AVal → AHeap A → (AVal → AHeap A → Prop) → Prop) (G : Nat → AHeap A → List AVal → (List AVal → AHeap A → Prop) → Prop) (a0 a1 a2 : AVal) (h : AHeap A) (K : AVal → AHeap A → Prop) : funP Try.prog S G Try.f73 .leaf [a0, a1, a2] h K = p_ref1_IsHash S G a0 a1 a2 h K := by kernel_rfl
theorem c_ref1_IsHash {R : Adts A} {h : AHeap A} {K : AVal → AHeap A → Prop} {a0 a1 a2 : AVal} (hk : p_ref1_IsHash (Tri Pr R) (Gives Pr R) a0 a1 a2 h K) : Tri Pr R n_ref1_IsHash [a0, a1, a2] h K :=
  tri_of_funP (by kernel_rfl) (fun _ _ _ _ h => h) (fun _ _ _ _ h => h) Try.func73 (by rw [q_ref1_IsHash]; exact hk)
/-- bastion/bastionref1.IsMac -/
def p_ref1_IsMac (S : FuncId → List AVal → AHeap A → (AVal → AHeap A → Prop) → Prop) (G : Nat → AHeap A → List AVal → (List AVal → AHeap A → Prop) → Prop) (a0 a1 a2 a3 : AVal) (h : AHeap A) (K : AVal → AHeap A → Prop) : Prop :=
 bslP t_int 1 [.int .i64 0] [(0, 1, a1)] h fun v1 h =>
 S n_ref1_Nums [v1] h fun v2 h =>
 binP .add .other (.str [77]) v2 fun v3 =>
 binP .add .other v3 a2 fun v4 =>
 S n_ref1_Book_Find [a0, v4] h fun v5 h =>
 extP v5 0 fun v6 =>
 extP v5 1 fun v7 =>
 S n_ref1_num [a1] h fun v8 h =>
 condP v8 true (fun k9 =>
 k9 v7 h)
 (.bool false) h fun v10 h =>
 condP v10 true (fun k11 =>
 binP .eql .other v6 a3 fun v12 =>
 k11 v12 h)
 (.bool false) h fun v13 h =>
 K v13 h
theorem q_ref1_IsMac (S : FuncId → List AVal → AHeap A → (AVal → AHeap A → Prop) → Prop) (G : Nat → AHeap A → List AVal → (List AVal → AHeap A → Prop) → Prop) (a0 a1 a2 a3 : AVal) (h : AHeap A) (K : AVal → AHeap A → Prop) : funP Try.prog S G Try.f74 .leaf [a0, a1, a2, a3] h K = p_ref1_IsMac S G a0 a1 a2 a3 h K := by kernel_rfl
theorem c_ref1_IsMac {R : Adts A} {h : AHeap A} {K : AVal → AHeap A → Prop} {a0 a1 a2 a3 : AVal} (hk : p_ref1_IsMac (Tri Pr R) (Gives Pr R) a0 a1 a2 a3 h K) : Tri Pr R n_ref1_IsMac [a0, a1, a2, a3] h K :=
  tri_of_funP (by kernel_rfl) (fun _ _ _ _ h => h) (fun _ _ _ _ h => h) Try.func74 (by rw [q_ref1_IsMac]; exact hk)
/-- bastion/bastionlaw3.sameBooks -/
def p_law3_sameBooks (S : FuncId → List AVal → AHeap A → (AVal → AHeap A → Prop) → Prop) (G : Nat → AHeap A → List AVal → (List AVal → AHeap A → Prop) → Prop) (a0 a1 : AVal) (h : AHeap A) (K : AVal → AHeap A → Prop) : Prop :=
 nilP a1 fun v1 =>
 fadP 1 v1 fun v2 =>
 ldP 1 false v2 h fun v3 =>
 lenP v3 fun v4 =>
 S n_book_Book_Len [a0] h fun v5 h =>
 ldV 1 false v2 h = some v3 ∧
 binP .neq .other v5 v4 fun v6 =>
 iteP v6
 (K (.bool false) h)
 (nilP a1 fun v7 =>
 fadP 1 v7 fun v8 =>
 ldP 1 false v8 h fun v9 =>
 lenP v9 fun v10 =>
 binP .sub .other v10 (.int .i64 40) fun v11 =>
 maxP [.int .i64 0, v11] fun v12 =>
 loopP G (fun v34 h k14 =>
 (fun v13 =>
 nilP a1 fun v15 =>
 fadP 1 v15 fun v16 =>
 ldP 1 false v16 h fun v17 =>
 lenP v17 fun v18 =>
 binP .lss .other v13 v18 fun v19 =>
 iteP v19
 (S n_book_Book_Term [a0, v13] h fun v20 h =>
 extP v20 0 fun v21 =>
 extP v20 1 fun v22 =>
 S n_law0_Num [v22] h fun v23 h =>
 binP .neq .other v23 (.int .i64 0) fun v24 =>
 condP v24 false (fun k25 =>
 nilP a1 fun v26 =>
 fadP 1 v26 fun v27 =>
 ldP 1 false v27 h fun v28 =>
 idxP 1 v28 v13 fun v29 =>
 ldP 1 false v29 h fun v30 =>
 binP .neq .other v21 v30 fun v31 =>
 k25 v31 h)
 (.bool true) h fun v32 h =>
 iteP v32
 (K (.bool false) h)
 (binP .add .other v13 (.int .i64 1) fun v33 =>
 k14 [v33] h))
 (K (.bool true) h)) (v34.getD 0 .any)) [v12] h)
theorem q_law3_sameBooks (S : FuncId → List AVal → AHeap A → (AVal → AHeap A → Prop) → Prop) (G : Nat → AHeap A → List AVal → (List AVal → AHeap A → Prop) → Prop) (a0 a1 : AVal) (h : AHeap A) (K : AVal → AHeap A → Prop) : funP Try.prog S G Try.f75 (.two none .leaf (.two none (.two none (.draw none (.take 0 (.take 2 (.take 3 (.take 4 (.load 5 (.take 6 (.alt 1 (.take 7 .stop) .stop)))))))) .leaf) (.two none (.two none .leaf (.one [] (.one [5] .leaf))) .leaf))) [a0, a1] h K = p_law3_sameBooks S G a0 a1 h K := by kernel_rfl
theorem c_law3_sameBooks {R : Adts A} {h : AHeap A} {K : AVal → AHeap A → Prop} {a0 a1 : AVal} (hk : p_law3_sameBooks (Tri Pr R) (Gives Pr R) a0 a1 h K) : Tri Pr R n_law3_sameBooks [a0, a1] h K :=
  tri_of_funP (by kernel_rfl) (fun _ _ _ _ h => h) (fun _ _ _ _ h => h) Try.func75 (by rw [q_law3_sameBooks]; exact hk)
/-- bastion/craft.Atom -/
def p_craft_Atom (S : FuncId → List AVal → AHeap A → (AVal → AHeap A → Prop) → Prop) (G : Nat → AHeap A → List AVal → (List AVal → AHeap A → Prop) → Prop) (a0 a1 : AVal) (h : AHeap A) (K : AVal → AHeap A → Prop) : Prop :=
 binP .add .other (.str [65]) a1 fun v1 =>
 S n_craft_named [a0, v1, .bool true] h fun v2 h =>
 extP v2 0 fun v3 =>
 extP v2 1 fun v4 =>
 K (.tup [v3, v4]) h
theorem q_craft_Atom (S : FuncId → List AVal → AHeap A → (AVal → AHeap A → Prop) → Prop) (G : Nat → AHeap A → List AVal → (List AVal → AHeap A → Prop) → Prop) (a0 a1 : AVal) (h : AHeap A) (K : AVal → AHeap A → Prop) : funP Try.prog S G Try.f76 .leaf [a0, a1] h K = p_craft_Atom S G a0 a1 h K := by kernel_rfl
theorem c_craft_Atom {R : Adts A} {h : AHeap A} {K : AVal → AHeap A → Prop} {a0 a1 : AVal} (hk : p_craft_Atom (Tri Pr R) (Gives Pr R) a0 a1 h K) : Tri Pr R n_craft_Atom [a0, a1] h K :=
  tri_of_funP (by kernel_rfl) (fun _ _ _ _ h => h) (fun _ _ _ _ h => h) Try.func76 (by rw [q_craft_Atom]; exact hk)
/-- bastion/bastionref1.Atom -/
def p_ref1_Atom (S : FuncId → List AVal → AHeap A → (AVal → AHeap A → Prop) → Prop) (G : Nat → AHeap A → List AVal → (List AVal → AHeap A → Prop) → Prop) (a0 a1 : AVal) (h : AHeap A) (K : AVal → AHeap A → Prop) : Prop :=
 binP .add .other (.str [65]) a1 fun v1 =>
 S n_ref1_Book_made [a0, v1] h fun v2 h =>
 extP v2 0 fun v3 =>
 extP v2 1 fun v4 =>
 K (.tup [v3, v4]) h
theorem q_ref1_Atom (S : FuncId → List AVal → AHeap A → (AVal → AHeap A → Prop) → Prop) (G : Nat → AHeap A → List AVal → (List AVal → AHeap A → Prop) → Prop) (a0 a1 : AVal) (h : AHeap A) (K : AVal → AHeap A → Prop) : funP Try.prog S G Try.f77 .leaf [a0, a1] h K = p_ref1_Atom S G a0 a1 h K := by kernel_rfl
theorem c_ref1_Atom {R : Adts A} {h : AHeap A} {K : AVal → AHeap A → Prop} {a0 a1 : AVal} (hk : p_ref1_Atom (Tri Pr R) (Gives Pr R) a0 a1 h K) : Tri Pr R n_ref1_Atom [a0, a1] h K :=
  tri_of_funP (by kernel_rfl) (fun _ _ _ _ h => h) (fun _ _ _ _ h => h) Try.func77 (by rw [q_ref1_Atom]; exact hk)
/-- bastion/craft.Hash -/
def p_craft_Hash (S : FuncId → List AVal → AHeap A → (AVal → AHeap A → Prop) → Prop) (G : Nat → AHeap A → List AVal → (List AVal → AHeap A → Prop) → Prop) (a0 a1 : AVal) (h : AHeap A) (K : AVal → AHeap A → Prop) : Prop :=
 binP .add .other (.str [72]) a1 fun v1 =>
 S n_craft_named [a0, v1, .bool true] h fun v2 h =>
 extP v2 0 fun v3 =>
 extP v2 1 fun v4 =>
 K (.tup [v3, v4]) h
theorem q_craft_Hash (S : FuncId → List AVal → AHeap A → (AVal → AHeap A → Prop) → Prop) (G : Nat → AHeap A → List AVal → (List AVal → AHeap A → Prop) → Prop) (a0 a1 : AVal) (h : AHeap A) (K : AVal → AHeap A → Prop) : funP Try.prog S G Try.f78 .leaf [a0, a1] h K = p_craft_Hash S G a0 a1 h K := by kernel_rfl
theorem c_craft_Hash {R : Adts A} {h : AHeap A} {K : AVal → AHeap A → Prop} {a0 a1 : AVal} (hk : p_craft_Hash (Tri Pr R) (Gives Pr R) a0 a1 h K) : Tri Pr R n_craft_Hash [a0, a1] h K :=
  tri_of_funP (by kernel_rfl) (fun _ _ _ _ h => h) (fun _ _ _ _ h => h) Try.func78 (by rw [q_craft_Hash]; exact hk)
/-- bastion/bastionref1.Hash -/
def p_ref1_Hash (S : FuncId → List AVal → AHeap A → (AVal → AHeap A → Prop) → Prop) (G : Nat → AHeap A → List AVal → (List AVal → AHeap A → Prop) → Prop) (a0 a1 : AVal) (h : AHeap A) (K : AVal → AHeap A → Prop) : Prop :=
 binP .add .other (.str [72]) a1 fun v1 =>
 S n_ref1_Book_made [a0, v1] h fun v2 h =>
 extP v2 0 fun v3 =>
 extP v2 1 fun v4 =>
 K (.tup [v3, v4]) h
theorem q_ref1_Hash (S : FuncId → List AVal → AHeap A → (AVal → AHeap A → Prop) → Prop) (G : Nat → AHeap A → List AVal → (List AVal → AHeap A → Prop) → Prop) (a0 a1 : AVal) (h : AHeap A) (K : AVal → AHeap A → Prop) : funP Try.prog S G Try.f79 .leaf [a0, a1] h K = p_ref1_Hash S G a0 a1 h K := by kernel_rfl
theorem c_ref1_Hash {R : Adts A} {h : AHeap A} {K : AVal → AHeap A → Prop} {a0 a1 : AVal} (hk : p_ref1_Hash (Tri Pr R) (Gives Pr R) a0 a1 h K) : Tri Pr R n_ref1_Hash [a0, a1] h K :=
  tri_of_funP (by kernel_rfl) (fun _ _ _ _ h => h) (fun _ _ _ _ h => h) Try.func79 (by rw [q_ref1_Hash]; exact hk)
/-- bastion/craft.Mac -/
def p_craft_Mac (S : FuncId → List AVal → AHeap A → (AVal → AHeap A → Prop) → Prop) (G : Nat → AHeap A → List AVal → (List AVal → AHeap A → Prop) → Prop) (a0 a1 a2 : AVal) (h : AHeap A) (K : AVal → AHeap A → Prop) : Prop :=
 S n_craft_keyed [.str [77], a1] h fun v1 h =>
 extP v1 0 fun v2 =>
 extP v1 1 fun v3 =>
 binP .add .other v2 a2 fun v4 =>
 S n_craft_named [a0, v4, v3] h fun v5 h =>
 extP v5 0 fun v6 =>
 extP v5 1 fun v7 =>
 K (.tup [v6, v7]) h
theorem q_craft_Mac (S : FuncId → List AVal → AHeap A → (AVal → AHeap A → Prop) → Prop) (G : Nat → AHeap A → List AVal → (List AVal → AHeap A → Prop) → Prop) (a0 a1 a2 : AVal) (h : AHeap A) (K : AVal → AHeap A → Prop) : funP Try.prog S G Try.f80 .leaf [a0, a1, a2] h K = p_craft_Mac S G a0 a1 a2 h K := by kernel_rfl
theorem c_craft_Mac {R : Adts A} {h : AHeap A} {K : AVal → AHeap A → Prop} {a0 a1 a2 : AVal} (hk : p_craft_Mac (Tri Pr R) (Gives Pr R) a0 a1 a2 h K) : Tri Pr R n_craft_Mac [a0, a1, a2] h K :=
  tri_of_funP (by kernel_rfl) (fun _ _ _ _ h => h) (fun _ _ _ _ h => h) Try.func80 (by rw [q_craft_Mac]; exact hk)
/-- bastion/bastionref1.Mac -/
def p_ref1_Mac (S : FuncId → List AVal → AHeap A → (AVal → AHeap A → Prop) → Prop) (G : Nat → AHeap A → List AVal → (List AVal → AHeap A → Prop) → Prop) (a0 a1 a2 : AVal) (h : AHeap A) (K : AVal → AHeap A → Prop) : Prop :=
 S n_ref1_num [a1] h fun v1 h =>
 notP v1 fun v2 =>
 iteP v2
 (K (.tup [.int .i64 0, .int .i64 300]) h)
 (bslP t_int 1 [.int .i64 0] [(0, 1, a1)] h fun v3 h =>
 S n_ref1_Nums [v3] h fun v4 h =>
 binP .add .other (.str [77]) v4 fun v5 =>
 binP .add .other v5 a2 fun v6 =>
 S n_ref1_Book_made [a0, v6] h fun v7 h =>
 extP v7 0 fun v8 =>
 extP v7 1 fun v9 =>
 K (.tup [v8, v9]) h)
theorem q_ref1_Mac (S : FuncId → List AVal → AHeap A → (AVal → AHeap A → Prop) → Prop) (G : Nat → AHeap A → List AVal → (List AVal → AHeap A → Prop) → Prop) (a0 a1 a2 : AVal) (h : AHeap A) (K : AVal → AHeap A → Prop) : funP Try.prog S G Try.f81 .leaf [a0, a1, a2] h K = p_ref1_Mac S G a0 a1 a2 h K := by kernel_rfl
theorem c_ref1_Mac {R : Adts A} {h : AHeap A} {K : AVal → AHeap A → Prop} {a0 a1 a2 : AVal} (hk : p_ref1_Mac (Tri Pr R) (Gives Pr R) a0 a1 a2 h K) : Tri Pr R n_ref1_Mac [a0, a1, a2] h K :=
  tri_of_funP (by kernel_rfl) (fun _ _ _ _ h => h) (fun _ _ _ _ h => h) Try.func81 (by rw [q_ref1_Mac]; exact hk)
/-- bastion/craft.Seal -/
def p_craft_Seal (S : FuncId → List AVal → AHeap A → (AVal → AHeap A → Prop) → Prop) (G : Nat → AHeap A → List AVal → (List AVal → AHeap A → Prop) → Prop) (a0 a1 a2 : AVal) (h : AHeap A) (K : AVal → AHeap A → Prop) : Prop :=
 S n_craft_keyed [.str [83], a1] h fun v1 h =>
 extP v1 0 fun v2 =>
 extP v1 1 fun v3 =>
 binP .add .other v2 a2 fun v4 =>
 S n_craft_named [a0, v4, v3] h fun v5 h =>
 extP v5 0 fun v6 =>
 extP v5 1 fun v7 =>
 K (.tup [v6, v7]) h
theorem q_craft_Seal (S : FuncId → List AVal → AHeap A → (AVal → AHeap A → Prop) → Prop) (G : Nat → AHeap A → List AVal → (List AVal → AHeap A → Prop) → Prop) (a0 a1 a2 : AVal) (h : AHeap A) (K : AVal → AHeap A → Prop) : funP Try.prog S G Try.f82 .leaf [a0, a1, a2] h K = p_craft_Seal S G a0 a1 a2 h K := by kernel_rfl
theorem c_craft_Seal {R : Adts A} {h : AHeap A} {K : AVal → AHeap A → Prop} {a0 a1 a2 : AVal} (hk : p_craft_Seal (Tri Pr R) (Gives Pr R) a0 a1 a2 h K) : Tri Pr R n_craft_Seal [a0, a1, a2] h K :=
  tri_of_funP (by kernel_rfl) (fun _ _ _ _ h => h) (fun _ _ _ _ h => h) Try.func82 (by rw [q_craft_Seal]; exact hk)
/-- bastion/bastionref1.Seal -/
def p_ref1_Seal (S : FuncId → List AVal → AHeap A → (AVal → AHeap A → Prop) → Prop) (G : Nat → AHeap A → List AVal → (List AVal → AHeap A → Prop) → Prop) (a0 a1 a2 : AVal) (h : AHeap A) (K : AVal → AHeap A → Prop) : Prop :=
 S n_ref1_num [a1] h fun v1 h =>
 notP v1 fun v2 =>
 iteP v2
 (K (.tup [.int .i64 0, .int .i64 300]) h)
 (bslP t_int 1 [.int .i64 0] [(0, 1, a1)] h fun v3 h =>
 S n_ref1_Nums [v3] h fun v4 h =>
 binP .add .other (.str [83]) v4 fun v5 =>
 binP .add .other v5 a2 fun v6 =>
 S n_ref1_Book_made [a0, v6] h fun v7 h =>
 extP v7 0 fun v8 =>
 extP v7 1 fun v9 =>
 K (.tup [v8, v9]) h)
theorem q_ref1_Seal (S : FuncId → List AVal → AHeap A → (AVal → AHeap A → Prop) → Prop) (G : Nat → AHeap A → List AVal → (List AVal → AHeap A → Prop) → Prop) (a0 a1 a2 : AVal) (h : AHeap A) (K : AVal → AHeap A → Prop) : funP Try.prog S G Try.f83 .leaf [a0, a1, a2] h K = p_ref1_Seal S G a0 a1 a2 h K := by kernel_rfl
theorem c_ref1_Seal {R : Adts A} {h : AHeap A} {K : AVal → AHeap A → Prop} {a0 a1 a2 : AVal} (hk : p_ref1_Seal (Tri Pr R) (Gives Pr R) a0 a1 a2 h K) : Tri Pr R n_ref1_Seal [a0, a1, a2] h K :=
  tri_of_funP (by kernel_rfl) (fun _ _ _ _ h => h) (fun _ _ _ _ h => h) Try.func83 (by rw [q_ref1_Seal]; exact hk)
/-- bastion/book.New -/
def p_book_New (S : FuncId → List AVal → AHeap A → (AVal → AHeap A → Prop) → Prop) (G : Nat → AHeap A → List AVal → (List AVal → AHeap A → Prop) → Prop) (a0 : AVal) (h : AHeap A) (K : AVal → AHeap A → Prop) : Prop :=
 binP .lss .other a0 (.int .i64 1) fun v1 =>
 condP v1 false (fun k2 =>
 binP .gtr .other a0 (.int .i64 65536) fun v3 =>
 k2 v3 h)
 (.bool true) h fun v4 h =>
 iteP v4
 (K (.tup [.nilp, .int .i64 200]) h)
 (mkmP h fun v5 h =>
 bldP [.int .i64 0, .nils, .nilm] [(0, 1, a0), (2, 1, v5)] fun v6 =>
 boxP t_book_Book 3 v6 h fun v7 h =>
 K (.tup [v7, .int .i64 0]) h)
theorem q_book_New (S : FuncId → List AVal → AHeap A → (AVal → AHeap A → Prop) → Prop) (G : Nat → AHeap A → List AVal → (List AVal → AHeap A → Prop) → Prop) (a0 : AVal) (h : AHeap A) (K : AVal → AHeap A → Prop) : funP Try.prog S G Try.f84 .leaf [a0] h K = p_book_New S G a0 h K := by kernel_rfl
theorem c_book_New {R : Adts A} {h : AHeap A} {K : AVal → AHeap A → Prop} {a0 : AVal} (hk : p_book_New (Tri Pr R) (Gives Pr R) a0 h K) : Tri Pr R n_book_New [a0] h K :=
  tri_of_funP (by kernel_rfl) (fun _ _ _ _ h => h) (fun _ _ _ _ h => h) Try.func84 (by rw [q_book_New]; exact hk)
/-- (*bastion/book.Book).Term -/
def p_book_Book_Term (S : FuncId → List AVal → AHeap A → (AVal → AHeap A → Prop) → Prop) (G : Nat → AHeap A → List AVal → (List AVal → AHeap A → Prop) → Prop) (a0 a1 : AVal) (h : AHeap A) (K : AVal → AHeap A → Prop) : Prop :=
 binP .eql .ptr a0 .nilp fun v1 =>
 iteP v1
 (K (.tup [.str [], .int .i64 1]) h)
 (binP .lss .other a1 (.int .i64 0) fun v2 =>
 condP v2 false (fun k3 =>
 nilP a0 fun v4 =>
 fadP 1 v4 fun v5 =>
 ldP 1 false v5 h fun v6 =>
 lenP v6 fun v7 =>
 binP .geq .other a1 v7 fun v8 =>
 k3 v8 h)
 (.bool true) h fun v9 h =>
 iteP v9
 (K (.tup [.str [], .int .i64 202]) h)
 (nilP a0 fun v10 =>
 fadP 1 v10 fun v11 =>
 ldP 1 false v11 h fun v12 =>
 idxP 1 v12 a1 fun v13 =>
 ldP 1 false v13 h fun v14 =>
 K (.tup [v14, .int .i64 0]) h))
theorem q_book_Book_Term (S : FuncId → List AVal → AHeap A → (AVal → AHeap A → Prop) → Prop) (G : Nat → AHeap A → List AVal → (List AVal → AHeap A → Prop) → Prop) (a0 a1 : AVal) (h : AHeap A) (K : AVal → AHeap A → Prop) : funP Try.prog S G Try.f85 .leaf [a0, a1] h K = p_book_Book_Term S G a0 a1 h K := by kernel_rfl
theorem c_book_Book_Term {R : Adts A} {h : AHeap A} {K : AVal → AHeap A → Prop} {a0 a1 : AVal} (hk : p_book_Book_Term (Tri Pr R) (Gives Pr R) a0 a1 h K) : Tri Pr R n_book_Book_Term [a0, a1] h K :=
  tri_of_funP (by kernel_rfl) (fun _ _ _ _ h => h) (fun _ _ _ _ h => h) Try.func85 (by rw [q_book_Book_Term]; exact hk)
/-- bastion/bastionlaw3.has -/
def p_law3_has (S : FuncId → List AVal → AHeap A → (AVal → AHeap A → Prop) → Prop) (G : Nat → AHeap A → List AVal → (List AVal → AHeap A → Prop) → Prop) (a0 a1 : AVal) (h : AHeap A) (K : AVal → AHeap A → Prop) : Prop :=
 loopP G (fun v9 h k2 =>
 (fun v1 =>
 lenP a0 fun v3 =>
 binP .lss .other v1 v3 fun v4 =>
 iteP v4
 (idxP 1 a0 v1 fun v5 =>
 ldP 1 false v5 h fun v6 =>
 binP .eql .other v6 a1 fun v7 =>
 iteP v7
 (K (.bool true) h)
 (binP .add .other v1 (.int .i64 1) fun v8 =>
 k2 [v8] h))
 (K (.bool false) h)) (v9.getD 0 .any)) [.int .i64 0] h
theorem q_law3_has (S : FuncId → List AVal → AHeap A → (AVal → AHeap A → Prop) → Prop) (G : Nat → AHeap A → List AVal → (List AVal → AHeap A → Prop) → Prop) (a0 a1 : AVal) (h : AHeap A) (K : AVal → AHeap A → Prop) : funP Try.prog S G Try.f86 (.two none .leaf (.two none (.two none .leaf (.one [] (.one [5] .leaf))) .leaf)) [a0, a1] h K = p_law3_has S G a0 a1 h K := by kernel_rfl
theorem c_law3_has {R : Adts A} {h : AHeap A} {K : AVal → AHeap A → Prop} {a0 a1 : AVal} (hk : p_law3_has (Tri Pr R) (Gives Pr R) a0 a1 h K) : Tri Pr R n_law3_has [a0, a1] h K :=
  tri_of_funP (by kernel_rfl) (fun _ _ _ _ h => h) (fun _ _ _ _ h => h) Try.func86 (by rw [q_law3_has]; exact hk)
/-- bastion/window.within -/
def p_window_within (S : FuncId → List AVal → AHeap A → (AVal → AHeap A → Prop) → Prop) (G : Nat → AHeap A → List AVal → (List AVal → AHeap A → Prop) → Prop) (a0 : AVal) (h : AHeap A) (K : AVal → AHeap A → Prop) : Prop :=
 binP .geq .other a0 (.int .i64 32) fun v1 =>
 iteP v1
 (K (.int .i64 4294967295) h)
 (binP .add .other a0 (.int .i64 1) fun v2 =>
 binP .shl .other (.int .i64 1) v2 fun v3 =>
 binP .sub .other v3 (.int .i64 1) fun v4 =>
 K v4 h)
theorem q_window_within (S : FuncId → List AVal → AHeap A → (AVal → AHeap A → Prop) → Prop) (G : Nat → AHeap A → List AVal → (List AVal → AHeap A → Prop) → Prop) (a0 : AVal) (h : AHeap A) (K : AVal → AHeap A → Prop) : funP Try.prog S G Try.f87 .leaf [a0] h K = p_window_within S G a0 h K := by kernel_rfl
theorem c_window_within {R : Adts A} {h : AHeap A} {K : AVal → AHeap A → Prop} {a0 : AVal} (hk : p_window_within (Tri Pr R) (Gives Pr R) a0 h K) : Tri Pr R n_window_within [a0] h K :=
  tri_of_funP (by kernel_rfl) (fun _ _ _ _ h => h) (fun _ _ _ _ h => h) Try.func87 (by rw [q_window_within]; exact hk)
/-- bastion/bastionref1.NewBook -/
def p_ref1_NewBook (S : FuncId → List AVal → AHeap A → (AVal → AHeap A → Prop) → Prop) (G : Nat → AHeap A → List AVal → (List AVal → AHeap A → Prop) → Prop) (a0 : AVal) (h : AHeap A) (K : AVal → AHeap A → Prop) : Prop :=
 binP .lss .other a0 (.int .i64 1) fun v1 =>
 condP v1 false (fun k2 =>
 binP .gtr .other a0 (.int .i64 65536) fun v3 =>
 k2 v3 h)
 (.bool true) h fun v4 h =>
 iteP v4
 (K (.tup [.nilp, .int .i64 200]) h)
 (bldP [.int .i64 0, .nils] [(0, 1, a0)] fun v5 =>
 boxP t_bastionref1_Book 2 v5 h fun v6 h =>
 K (.tup [v6, .int .i64 0]) h)
theorem q_ref1_NewBook (S : FuncId → List AVal → AHeap A → (AVal → AHeap A → Prop) → Prop) (G : Nat → AHeap A → List AVal → (List AVal → AHeap A → Prop) → Prop) (a0 : AVal) (h : AHeap A) (K : AVal → AHeap A → Prop) : funP Try.prog S G Try.f88 .leaf [a0] h K = p_ref1_NewBook S G a0 h K := by kernel_rfl
theorem c_ref1_NewBook {R : Adts A} {h : AHeap A} {K : AVal → AHeap A → Prop} {a0 : AVal} (hk : p_ref1_NewBook (Tri Pr R) (Gives Pr R) a0 h K) : Tri Pr R n_ref1_NewBook [a0] h K :=
  tri_of_funP (by kernel_rfl) (fun _ _ _ _ h => h) (fun _ _ _ _ h => h) Try.func88 (by rw [q_ref1_NewBook]; exact hk)
/-- (*bastion/book.Book).Name -/
def p_book_Book_Name (S : FuncId → List AVal → AHeap A → (AVal → AHeap A → Prop) → Prop) (G : Nat → AHeap A → List AVal → (List AVal → AHeap A → Prop) → Prop) (a0 a1 : AVal) (h : AHeap A) (K : AVal → AHeap A → Prop) : Prop :=
 binP .eql .ptr a0 .nilp fun v1 =>
 iteP v1
 (K (.tup [.int .i64 0, .int .i64 1]) h)
 (binP .eql .other a1 (.str []) fun v2 =>
 condP v2 false (fun k3 =>
 lnsP a1 fun v4 =>
 binP .gtr .other v4 (.int .i64 512) fun v5 =>
 k3 v5 h)
 (.bool true) h fun v6 h =>
 iteP v6
 (K (.tup [.int .i64 0, .int .i64 200]) h)
 (nilP a0 fun v7 =>
 fadP 2 v7 fun v8 =>
 ldP 1 false v8 h fun v9 =>
 lkP true (.int .i64 0) true v9 a1 h fun v10 =>
 extP v10 0 fun v11 =>
 extP v10 1 fun v12 =>
 iteP v12
 (K (.tup [v11, .int .i64 0]) h)
 (nilP a0 fun v13 =>
 fadP 1 v13 fun v14 =>
 nilP a0 fun v15 =>
 fadP 0 v15 fun v16 =>
 ldP 1 false v14 h fun v17 =>
 lenP v17 fun v18 =>
 ldP 1 false v16 h fun v19 =>
 ldV 1 false v14 h = some v17 ∧
 binP .geq .other v18 v19 fun v20 =>
 iteP v20
 (K (.tup [.int .i64 0, .int .i64 201]) h)
 (nilP a0 fun v21 =>
 fadP 1 v21 fun v22 =>
 ldP 1 false v22 h fun v23 =>
 lenP v23 fun v24 =>
 nilP a0 fun v25 =>
 fadP 2 v25 fun v26 =>
 nilP a0 fun v27 =>
 fadP 1 v27 fun v28 =>
 ldP 1 false v26 h fun v29 =>
 ldP 1 false v28 h fun v30 =>
 bslP t_string 1 [.str []] [(0, 1, a1)] h fun v31 h =>
 ldV 1 false v28 h = some v30 ∧
 ldV 1 false v26 h = some v29 ∧
 appP t_string 1 16 v30 v31 h fun v32 h =>
 ldV 1 false v26 h = some v29 ∧
 nilP a0 fun v33 =>
 fadP 1 v33 fun v34 =>
 stP 1 v34 v32 h fun h =>
 mentP true (.int .i64 0) v29 a1 h fun v35 h =>
 extP v35 1 fun v36 =>
 estP v29 v36 v24 h fun h =>
 K (.tup [v24, .int .i64 0]) h))))
theorem q_book_Book_Name (S : FuncId → List AVal → AHeap A → (AVal → AHeap A → Prop) → Prop) (G : Nat → AHeap A → List AVal → (List AVal → AHeap A → Prop) → Prop) (a0 a1 : AVal) (h : AHeap A) (K : AVal → AHeap A → Prop) : funP Try.prog S G Try.f89 (.two none .leaf (.two none .leaf (.two none .leaf (.two none (.two none (.draw none (.take 0 (.take 1 (.take 2 (.take 5 (.take 6 (.take 7 (.load 3 (.take 4 (.alt 8 (.take 9 .stop) .stop)))))))))) .leaf) (.two none .leaf (.two none (.draw none (.take 0 (.take 1 (.take 2 (.take 3 (.take 5 (.take 6 (.take 7 (.take 8 (.take 10 (.take 13 (.load 4 (.load 9 (.alt 11 (.alt 12 (.take 14 (.take 15 (.alt 16 (.alt 17 (.take 18 (.alt 19 .stop .stop)) .stop) .stop))) .stop) .stop)))))))))))))) .leaf)))))) [a0, a1] h K = p_book_Book_Name S G a0 a1 h K := by kernel_rfl
theorem c_book_Book_Name {R : Adts A} {h : AHeap A} {K : AVal → AHeap A → Prop} {a0 a1 : AVal} (hk : p_book_Book_Name (Tri Pr R) (Gives Pr R) a0 a1 h K) : Tri Pr R n_book_Book_Name [a0, a1] h K :=
  tri_of_funP (by kernel_rfl) (fun _ _ _ _ h => h) (fun _ _ _ _ h => h) Try.func89 (by rw [q_book_Book_Name]; exact hk)
/-- (*bastion/bastionref1.Book).Name -/
def p_ref1_Book_Name (S : FuncId → List AVal → AHeap A → (AVal → AHeap A → Prop) → Prop) (G : Nat → AHeap A → List AVal → (List AVal → AHeap A → Prop) → Prop) (a0 a1 : AVal) (h : AHeap A) (K : AVal → AHeap A → Prop) : Prop :=
 lnsP a1 fun v1 =>
 binP .lss .other v1 (.int .i64 1) fun v2 =>
 condP v2 false (fun k3 =>
 lnsP a1 fun v4 =>
 binP .gtr .other v4 (.int .i64 512) fun v5 =>
 k3 v5 h)
 (.bool true) h fun v6 h =>
 iteP v6
 (K (.tup [.int .i64 0, .int .i64 200]) h)
 (S n_ref1_Book_Find [a0, a1] h fun v7 h =>
 extP v7 0 fun v8 =>
 extP v7 1 fun v9 =>
 iteP v9
 (K (.tup [v8, .int .i64 0]) h)
 (nilP a0 fun v10 =>
 fadP 1 v10 fun v11 =>
 nilP a0 fun v12 =>
 fadP 0 v12 fun v13 =>
 ldP 1 false v11 h fun v14 =>
 lenP v14 fun v15 =>
 ldP 1 false v13 h fun v16 =>
 ldV 1 false v11 h = some v14 ∧
 binP .geq .other v15 v16 fun v17 =>
 iteP v17
 (K (.tup [.int .i64 0, .int .i64 201]) h)
 (nilP a0 fun v18 =>
 fadP 1 v18 fun v19 =>
 ldP 1 false v19 h fun v20 =>
 bslP t_string 1 [.str []] [(0, 1, a1)] h fun v21 h =>
 appP t_string 1 16 v20 v21 h fun v22 h =>
 nilP a0 fun v23 =>
 fadP 1 v23 fun v24 =>
 stP 1 v24 v22 h fun h =>
 nilP a0 fun v25 =>
 fadP 1 v25 fun v26 =>
 ldP 1 false v26 h fun v27 =>
 lenP v27 fun v28 =>
 binP .sub .other v28 (.int .i64 1) fun v29 =>
 K (.tup [v29, .int .i64 0]) h)))
theorem q_ref1_Book_Name (S : FuncId → List AVal → AHeap A → (AVal → AHeap A → Prop) → Prop) (G : Nat → AHeap A → List AVal → (List AVal → AHeap A → Prop) → Prop) (a0 a1 : AVal) (h : AHeap A) (K : AVal → AHeap A → Prop) : funP Try.prog S G Try.f90 (.two none .leaf (.two none .leaf (.two none .leaf (.two none .leaf (.two none (.two none (.draw none (.take 0 (.take 1 (.take 2 (.take 5 (.take 6 (.take 7 (.load 3 (.take 4 (.alt 8 (.take 9 .stop) .stop)))))))))) .leaf) .leaf))))) [a0, a1] h K = p_ref1_Book_Name S G a0 a1 h K := by kernel_rfl
theorem c_ref1_Book_Name {R : Adts A} {h : AHeap A} {K : AVal → AHeap A → Prop} {a0 a1 : AVal} (hk : p_ref1_Book_Name (Tri Pr R) (Gives Pr R) a0 a1 h K) : Tri Pr R n_ref1_Book_Name [a0, a1] h K :=
  tri_of_funP (by kernel_rfl) (fun _ _ _ _ h => h) (fun _ _ _ _ h => h) Try.func90 (by rw [q_ref1_Book_Name]; exact hk)
/-- bastion/ring.term -/
def p_ring_term (S : FuncId → List AVal → AHeap A → (AVal → AHeap A → Prop) → Prop) (G : Nat → AHeap A → List AVal → (List AVal → AHeap A → Prop) → Prop) (a0 : AVal) (h : AHeap A) (K : AVal → AHeap A → Prop) : Prop :=
 S n_field_Num [a0] h fun v1 h =>
 extP v1 0 fun v2 =>
 extP v1 1 fun v3 =>
 binP .add .other (.str [101, 112, 111, 99, 104]) v2 fun v4 =>
 binP .eql .other v3 (.int .i64 0) fun v5 =>
 K (.tup [v4, v5]) h
theorem q_ring_term (S : FuncId → List AVal → AHeap A → (AVal → AHeap A → Prop) → Prop) (G : Nat → AHeap A → List AVal → (List AVal → AHeap A → Prop) → Prop) (a0 : AVal) (h : AHeap A) (K : AVal → AHeap A → Prop) : funP Try.prog S G Try.f91 .leaf [a0] h K = p_ring_term S G a0 h K := by kernel_rfl
theorem c_ring_term {R : Adts A} {h : AHeap A} {K : AVal → AHeap A → Prop} {a0 : AVal} (hk : p_ring_term (Tri Pr R) (Gives Pr R) a0 h K) : Tri Pr R n_ring_term [a0] h K :=
  tri_of_funP (by kernel_rfl) (fun _ _ _ _ h => h) (fun _ _ _ _ h => h) Try.func91 (by rw [q_ring_term]; exact hk)
/-- bastion/field.NumMay -/
def p_field_NumMay (S : FuncId → List AVal → AHeap A → (AVal → AHeap A → Prop) → Prop) (G : Nat → AHeap A → List AVal → (List AVal → AHeap A → Prop) → Prop) (a0 : AVal) (h : AHeap A) (K : AVal → AHeap A → Prop) : Prop :=
 binP .geq .other a0 (.int .i64 0) fun v1 =>
 condP v1 true (fun k2 =>
 binP .leq .other a0 (.int .i64 1073741823) fun v3 =>
 k2 v3 h)
 (.bool false) h fun v4 h =>
 K v4 h
theorem q_field_NumMay (S : FuncId → List AVal → AHeap A → (AVal → AHeap A → Prop) → Prop) (G : Nat → AHeap A → List AVal → (List AVal → AHeap A → Prop) → Prop) (a0 : AVal) (h : AHeap A) (K : AVal → AHeap A → Prop) : funP Try.prog S G Try.f92 .leaf [a0] h K = p_field_NumMay S G a0 h K := by kernel_rfl
theorem c_field_NumMay {R : Adts A} {h : AHeap A} {K : AVal → AHeap A → Prop} {a0 : AVal} (hk : p_field_NumMay (Tri Pr R) (Gives Pr R) a0 h K) : Tri Pr R n_field_NumMay [a0] h K :=
  tri_of_funP (by kernel_rfl) (fun _ _ _ _ h => h) (fun _ _ _ _ h => h) Try.func92 (by rw [q_field_NumMay]; exact hk)
/-- (*bastion/disk.Disk).there -/
def p_disk_Disk_there (S : FuncId → List AVal → AHeap A → (AVal → AHeap A → Prop) → Prop) (G : Nat → AHeap A → List AVal → (List AVal → AHeap A → Prop) → Prop) (a0 a1 : AVal) (h : AHeap A) (K : AVal → AHeap A → Prop) : Prop :=
 binP .geq .other a1 (.int .i64 0) fun v1 =>
 condP v1 true (fun k2 =>
 nilP a0 fun v3 =>
 fadP 0 v3 fun v4 =>
 ldP 1 false v4 h fun v5 =>
 lenP v5 fun v6 =>
 binP .lss .other a1 v6 fun v7 =>
 k2 v7 h)
 (.bool false) h fun v8 h =>
 K v8 h
theorem q_disk_Disk_there (S : FuncId → List AVal → AHeap A → (AVal → AHeap A → Prop) → Prop) (G : Nat → AHeap A → List AVal → (List AVal → AHeap A → Prop) → Prop) (a0 a1 : AVal) (h : AHeap A) (K : AVal → AHeap A → Prop) : funP Try.prog S G Try.f93 .leaf [a0, a1] h K = p_disk_Disk_there S G a0 a1 h K := by kernel_rfl
theorem c_disk_Disk_there {R : Adts A} {h : AHeap A} {K : AVal → AHeap A → Prop} {a0 a1 : AVal} (hk : p_disk_Disk_there (Tri Pr R) (Gives Pr R) a0 a1 h K) : Tri Pr R n_disk_Disk_there [a0, a1] h K :=
  tri_of_funP (by kernel_rfl) (fun _ _ _ _ h => h) (fun _ _ _ _ h => h) Try.func93 (by rw [q_disk_Disk_there]; exact hk)
end Go.AI
