/- The functions as texts over the abstract heap. -/
import Derived.Test.YtnhclbecbagmfaaNm
import Derived.KernelRfl
set_option linter.all false
namespace Go.AI
open Go.Proofs
set_option maxRecDepth 1000000
variable {A : Type}
/-- (*bastion/field.Reader).Num -/
def p_field_Reader_Num (S : FuncId → List AVal → AHeap A → (AVal → AHeap A → Prop) → Prop) (G : Nat → AHeap A → List AVal → (List AVal → AHeap A → Prop) → Prop) (a0 : AVal) (h : AHeap A) (K : AVal → AHeap A → Prop) : Prop :=
 nilP a0 fun v1 =>
 fadP 2 v1 fun v2 =>
 ldP 1 false v2 h fun v3 =>
 binP .neq .ifc v3 .nili fun v4 =>
 iteP v4
 (K (.int .i64 0) h)
 (nilP a0 fun v5 =>
 fadP 0 v5 fun v6 =>
 nilP a0 fun v7 =>
 fadP 1 v7 fun v8 =>
 ldP 1 false v6 h fun v9 =>
 ldP 1 false v8 h fun v10 =>
 ldV 1 false v6 h = some v9 ∧
 S n_field_num [v9, v10] h fun v11 h =>
 extP v11 0 fun v12 =>
 extP v11 1 fun v13 =>
 extP v11 2 fun v14 =>
 nilP a0 fun v15 =>
 fadP 1 v15 fun v16 =>
 stP 1 v16 v13 h fun h =>
 nilP a0 fun v17 =>
 fadP 2 v17 fun v18 =>
 stP 1 v18 v14 h fun h =>
 K v12 h)
theorem q_field_Reader_Num (S : FuncId → List AVal → AHeap A → (AVal → AHeap A → Prop) → Prop) (G : Nat → AHeap A → List AVal → (List AVal → AHeap A → Prop) → Prop) (a0 : AVal) (h : AHeap A) (K : AVal → AHeap A → Prop) : funP Try.prog S G Try.f46 (.two none .leaf (.two none .leaf (.two none (.draw none (.take 0 (.take 1 (.take 2 (.take 4 (.take 5 (.take 6 (.load 3 (.alt 7 (.alt 8 (.take 9 (.take 10 (.take 11 (.take 12 (.take 13 (.take 14 (.take 15 .stop))))))) .stop) .stop))))))))) .leaf))) [a0] h K = p_field_Reader_Num S G a0 h K := by kernel_rfl
theorem c_field_Reader_Num {R : Adts A} {h : AHeap A} {K : AVal → AHeap A → Prop} {a0 : AVal} (hk : p_field_Reader_Num (Tri Pr R) (Gives Pr R) a0 h K) : Tri Pr R n_field_Reader_Num [a0] h K :=
  tri_of_funP (by kernel_rfl) (fun _ _ _ _ h => h) (fun _ _ _ _ h => h) Try.func46 (by rw [q_field_Reader_Num]; exact hk)
/-- (*bastion/field.Reader).Done -/
def p_field_Reader_Done (S : FuncId → List AVal → AHeap A → (AVal → AHeap A → Prop) → Prop) (G : Nat → AHeap A → List AVal → (List AVal → AHeap A → Prop) → Prop) (a0 : AVal) (h : AHeap A) (K : AVal → AHeap A → Prop) : Prop :=
 joinP G h.length (fun k1 =>
 nilP a0 fun v2 =>
 fadP 2 v2 fun v3 =>
 ldP 1 false v3 h fun v4 =>
 binP .eql .ifc v4 .nili fun v5 =>
 iteP v5
 (nilP a0 fun v6 =>
 fadP 1 v6 fun v7 =>
 nilP a0 fun v8 =>
 fadP 0 v8 fun v9 =>
 ldP 1 false v7 h fun v10 =>
 ldP 1 false v9 h fun v11 =>
 ldV 1 false v7 h = some v10 ∧
 lnsP v11 fun v12 =>
 binP .eql .other v10 v12 fun v13 =>
 k1 [v13] h)
 (k1 [.bool false] h))
 (fun v15 h =>
 (fun v14 =>
 K v14 h) (v15.getD 0 .any))
theorem q_field_Reader_Done (S : FuncId → List AVal → AHeap A → (AVal → AHeap A → Prop) → Prop) (G : Nat → AHeap A → List AVal → (List AVal → AHeap A → Prop) → Prop) (a0 : AVal) (h : AHeap A) (K : AVal → AHeap A → Prop) : funP Try.prog S G Try.f47 (.two none .leaf (.two none (.draw (some [2]) (.take 0 (.take 1 (.take 2 (.alt 3 (.take 4 (.take 5 (.split 5 (.take 6 (.take 7 (.take 8 (.take 10 (.take 11 (.take 12 (.load 9 (.alt 13 (.take 14 (.take 15 (.take 16 (.take 17 .stop)))) .stop)))))))) (.skip 6 (.skip 7 (.skip 8 (.skip 9 (.skip 10 (.skip 11 (.skip 12 (.skip 13 (.skip 14 (.skip 15 (.take 16 (.take 17 .stop))))))))))))))) .stop))))) .leaf)) [a0] h K = p_field_Reader_Done S G a0 h K := by kernel_rfl
theorem c_field_Reader_Done {R : Adts A} {h : AHeap A} {K : AVal → AHeap A → Prop} {a0 : AVal} (hk : p_field_Reader_Done (Tri Pr R) (Gives Pr R) a0 h K) : Tri Pr R n_field_Reader_Done [a0] h K :=
  tri_of_funP (by kernel_rfl) (fun _ _ _ _ h => h) (fun _ _ _ _ h => h) Try.func47 (by rw [q_field_Reader_Done]; exact hk)
/-- bastion/bastionref1.num -/
def p_ref1_num (S : FuncId → List AVal → AHeap A → (AVal → AHeap A → Prop) → Prop) (G : Nat → AHeap A → List AVal → (List AVal → AHeap A → Prop) → Prop) (a0 : AVal) (h : AHeap A) (K : AVal → AHeap A → Prop) : Prop :=
 binP .geq .other a0 (.int .i64 0) fun v1 =>
 condP v1 true (fun k2 =>
 binP .leq .other a0 (.int .i64 1073741823) fun v3 =>
 k2 v3 h)
 (.bool false) h fun v4 h =>
 K v4 h
theorem q_ref1_num (S : FuncId → List AVal → AHeap A → (AVal → AHeap A → Prop) → Prop) (G : Nat → AHeap A → List AVal → (List AVal → AHeap A → Prop) → Prop) (a0 : AVal) (h : AHeap A) (K : AVal → AHeap A → Prop) : funP Try.prog S G Try.f50 .leaf [a0] h K = p_ref1_num S G a0 h K := by kernel_rfl
theorem c_ref1_num {R : Adts A} {h : AHeap A} {K : AVal → AHeap A → Prop} {a0 : AVal} (hk : p_ref1_num (Tri Pr R) (Gives Pr R) a0 h K) : Tri Pr R n_ref1_num [a0] h K :=
  tri_of_funP (by kernel_rfl) (fun _ _ _ _ h => h) (fun _ _ _ _ h => h) Try.func50 (by rw [q_ref1_num]; exact hk)
/-- bastion/bastionref1.Atom -/
def p_ref1_Atom (S : FuncId → List AVal → AHeap A → (AVal → AHeap A → Prop) → Prop) (G : Nat → AHeap A → List AVal → (List AVal → AHeap A → Prop) → Prop) (a0 a1 : AVal) (h : AHeap A) (K : AVal → AHeap A → Prop) : Prop :=
 binP .add .other (.str [65]) a1 fun v1 =>
 S n_ref1_Book_made [a0, v1] h fun v2 h =>
 extP v2 0 fun v3 =>
 extP v2 1 fun v4 =>
 K (.tup [v3, v4]) h
theorem q_ref1_Atom (S : FuncId → List AVal → AHeap A → (AVal → AHeap A → Prop) → Prop) (G : Nat → AHeap A → List AVal → (List AVal → AHeap A → Prop) → Prop) (a0 a1 : AVal) (h : AHeap A) (K : AVal → AHeap A → Prop) : funP Try.prog S G Try.f51 .leaf [a0, a1] h K = p_ref1_Atom S G a0 a1 h K := by kernel_rfl
theorem c_ref1_Atom {R : Adts A} {h : AHeap A} {K : AVal → AHeap A → Prop} {a0 a1 : AVal} (hk : p_ref1_Atom (Tri Pr R) (Gives Pr R) a0 a1 h K) : Tri Pr R n_ref1_Atom [a0, a1] h K :=
  tri_of_funP (by kernel_rfl) (fun _ _ _ _ h => h) (fun _ _ _ _ h => h) Try.func51 (by rw [q_ref1_Atom]; exact hk)
/-- (*bastion/bastionref1.Book).made -/
def p_ref1_Book_made (S : FuncId → List AVal → AHeap A → (AVal → AHeap A → Prop) → Prop) (G : Nat → AHeap A → List AVal → (List AVal → AHeap A → Prop) → Prop) (a0 a1 : AVal) (h : AHeap A) (K : AVal → AHeap A → Prop) : Prop :=
 S n_ref1_Book_Name [a0, a1] h fun v1 h =>
 extP v1 0 fun v2 =>
 extP v1 1 fun v3 =>
 binP .neq .other v3 (.int .i64 0) fun v4 =>
 iteP v4
 (K (.tup [.int .i64 0, .int .i64 300]) h)
 (K (.tup [v2, .int .i64 0]) h)
theorem q_ref1_Book_made (S : FuncId → List AVal → AHeap A → (AVal → AHeap A → Prop) → Prop) (G : Nat → AHeap A → List AVal → (List AVal → AHeap A → Prop) → Prop) (a0 a1 : AVal) (h : AHeap A) (K : AVal → AHeap A → Prop) : funP Try.prog S G Try.f52 .leaf [a0, a1] h K = p_ref1_Book_made S G a0 a1 h K := by kernel_rfl
theorem c_ref1_Book_made {R : Adts A} {h : AHeap A} {K : AVal → AHeap A → Prop} {a0 a1 : AVal} (hk : p_ref1_Book_made (Tri Pr R) (Gives Pr R) a0 a1 h K) : Tri Pr R n_ref1_Book_made [a0, a1] h K :=
  tri_of_funP (by kernel_rfl) (fun _ _ _ _ h => h) (fun _ _ _ _ h => h) Try.func52 (by rw [q_ref1_Book_made]; exact hk)
/-- (*bastion/bastionref1.Book).Term -/
def p_ref1_Book_Term (S : FuncId → List AVal → AHeap A → (AVal → AHeap A → Prop) → Prop) (G : Nat → AHeap A → List AVal → (List AVal → AHeap A → Prop) → Prop) (a0 a1 : AVal) (h : AHeap A) (K : AVal → AHeap A → Prop) : Prop :=
 binP .lss .other a1 (.int .i64 0) fun v1 =>
 condP v1 false (fun k2 =>
 nilP a0 fun v3 =>
 fadP 1 v3 fun v4 =>
 ldP 1 false v4 h fun v5 =>
 lenP v5 fun v6 =>
 binP .geq .other a1 v6 fun v7 =>
 k2 v7 h)
 (.bool true) h fun v8 h =>
 iteP v8
 (K (.tup [.str [], .int .i64 202]) h)
 (nilP a0 fun v9 =>
 fadP 1 v9 fun v10 =>
 ldP 1 false v10 h fun v11 =>
 idxP 1 v11 a1 fun v12 =>
 ldP 1 false v12 h fun v13 =>
 K (.tup [v13, .int .i64 0]) h)
theorem q_ref1_Book_Term (S : FuncId → List AVal → AHeap A → (AVal → AHeap A → Prop) → Prop) (G : Nat → AHeap A → List AVal → (List AVal → AHeap A → Prop) → Prop) (a0 a1 : AVal) (h : AHeap A) (K : AVal → AHeap A → Prop) : funP Try.prog S G Try.f53 .leaf [a0, a1] h K = p_ref1_Book_Term S G a0 a1 h K := by kernel_rfl
theorem c_ref1_Book_Term {R : Adts A} {h : AHeap A} {K : AVal → AHeap A → Prop} {a0 a1 : AVal} (hk : p_ref1_Book_Term (Tri Pr R) (Gives Pr R) a0 a1 h K) : Tri Pr R n_ref1_Book_Term [a0, a1] h K :=
  tri_of_funP (by kernel_rfl) (fun _ _ _ _ h => h) (fun _ _ _ _ h => h) Try.func53 (by rw [q_ref1_Book_Term]; exact hk)
/-- (*bastion/bastionref1.Reader).Num -/
def p_ref1_Reader_Num (S : FuncId → List AVal → AHeap A → (AVal → AHeap A → Prop) → Prop) (G : Nat → AHeap A → List AVal → (List AVal → AHeap A → Prop) → Prop) (a0 : AVal) (h : AHeap A) (K : AVal → AHeap A → Prop) : Prop :=
 nilP a0 fun v1 =>
 fadP 0 v1 fun v2 =>
 nilP a0 fun v3 =>
 fadP 1 v3 fun v4 =>
 ldP 1 false v2 h fun v5 =>
 ldP 1 false v4 h fun v6 =>
 ldV 1 false v2 h = some v5 ∧
 S n_ref1_GetNum [v5, v6] h fun v7 h =>
 extP v7 0 fun v8 =>
 extP v7 1 fun v9 =>
 extP v7 2 fun v10 =>
 nilP a0 fun v11 =>
 fadP 2 v11 fun v12 =>
 ldP 1 false v12 h fun v13 =>
 condP v13 false (fun k14 =>
 binP .neq .other v10 (.int .i64 0) fun v15 =>
 k14 v15 h)
 (.bool true) h fun v16 h =>
 iteP v16
 (nilP a0 fun v17 =>
 fadP 2 v17 fun v18 =>
 stP 1 v18 (.bool true) h fun h =>
 K (.int .i64 0) h)
 (nilP a0 fun v19 =>
 fadP 1 v19 fun v20 =>
 stP 1 v20 v9 h fun h =>
 K v8 h)
theorem q_ref1_Reader_Num (S : FuncId → List AVal → AHeap A → (AVal → AHeap A → Prop) → Prop) (G : Nat → AHeap A → List AVal → (List AVal → AHeap A → Prop) → Prop) (a0 : AVal) (h : AHeap A) (K : AVal → AHeap A → Prop) : funP Try.prog S G Try.f54 (.two none .leaf (.two none (.draw none (.take 0 (.take 1 (.take 2 (.take 4 (.take 5 (.take 6 (.load 3 (.alt 7 (.alt 8 (.take 9 (.take 10 (.take 11 (.take 12 (.take 13 (.take 14 (.take 15 .stop))))))) .stop) .stop))))))))) .leaf)) [a0] h K = p_ref1_Reader_Num S G a0 h K := by kernel_rfl
theorem c_ref1_Reader_Num {R : Adts A} {h : AHeap A} {K : AVal → AHeap A → Prop} {a0 : AVal} (hk : p_ref1_Reader_Num (Tri Pr R) (Gives Pr R) a0 h K) : Tri Pr R n_ref1_Reader_Num [a0] h K :=
  tri_of_funP (by kernel_rfl) (fun _ _ _ _ h => h) (fun _ _ _ _ h => h) Try.func54 (by rw [q_ref1_Reader_Num]; exact hk)
/-- bastion/field.width -/
def p_field_width (S : FuncId → List AVal → AHeap A → (AVal → AHeap A → Prop) → Prop) (G : Nat → AHeap A → List AVal → (List AVal → AHeap A → Prop) → Prop) (a0 : AVal) (h : AHeap A) (K : AVal → AHeap A → Prop) : Prop :=
 loopP G (fun v7 h k3 =>
 (fun v1 v2 =>
 binP .gtr .other v1 (.int .i64 0) fun v4 =>
 iteP v4
 (binP .add .other v2 (.int .i64 1) fun v5 =>
 binP .shr .other v1 (.int .u64 8) fun v6 =>
 k3 [v6, v5] h)
 (K v2 h)) (v7.getD 0 .any) (v7.getD 1 .any)) [a0, .int .i64 0] h
theorem q_field_width (S : FuncId → List AVal → AHeap A → (AVal → AHeap A → Prop) → Prop) (G : Nat → AHeap A → List AVal → (List AVal → AHeap A → Prop) → Prop) (a0 : AVal) (h : AHeap A) (K : AVal → AHeap A → Prop) : funP Try.prog S G Try.f55 (.two none .leaf (.two none .leaf (.two none (.one [] (.one [0, 3] .leaf)) .leaf))) [a0] h K = p_field_width S G a0 h K := by kernel_rfl
theorem c_field_width {R : Adts A} {h : AHeap A} {K : AVal → AHeap A → Prop} {a0 : AVal} (hk : p_field_width (Tri Pr R) (Gives Pr R) a0 h K) : Tri Pr R n_field_width [a0] h K :=
  tri_of_funP (by kernel_rfl) (fun _ _ _ _ h => h) (fun _ _ _ _ h => h) Try.func55 (by rw [q_field_width]; exact hk)
/-- bastion/craft.FindAtom -/
def p_craft_FindAtom (S : FuncId → List AVal → AHeap A → (AVal → AHeap A → Prop) → Prop) (G : Nat → AHeap A → List AVal → (List AVal → AHeap A → Prop) → Prop) (a0 a1 : AVal) (h : AHeap A) (K : AVal → AHeap A → Prop) : Prop :=
 binP .add .other (.str [65]) a1 fun v1 =>
 S n_book_Book_Find [a0, v1] h fun v2 h =>
 extP v2 0 fun v3 =>
 extP v2 1 fun v4 =>
 K (.tup [v3, v4]) h
theorem q_craft_FindAtom (S : FuncId → List AVal → AHeap A → (AVal → AHeap A → Prop) → Prop) (G : Nat → AHeap A → List AVal → (List AVal → AHeap A → Prop) → Prop) (a0 a1 : AVal) (h : AHeap A) (K : AVal → AHeap A → Prop) : funP Try.prog S G Try.f56 .leaf [a0, a1] h K = p_craft_FindAtom S G a0 a1 h K := by kernel_rfl
theorem c_craft_FindAtom {R : Adts A} {h : AHeap A} {K : AVal → AHeap A → Prop} {a0 a1 : AVal} (hk : p_craft_FindAtom (Tri Pr R) (Gives Pr R) a0 a1 h K) : Tri Pr R n_craft_FindAtom [a0, a1] h K :=
  tri_of_funP (by kernel_rfl) (fun _ _ _ _ h => h) (fun _ _ _ _ h => h) Try.func56 (by rw [q_craft_FindAtom]; exact hk)
/-- strings.HasPrefix -/
def p_strings_HasPrefix (S : FuncId → List AVal → AHeap A → (AVal → AHeap A → Prop) → Prop) (G : Nat → AHeap A → List AVal → (List AVal → AHeap A → Prop) → Prop) (a0 a1 : AVal) (h : AHeap A) (K : AVal → AHeap A → Prop) : Prop :=
 S n_internal_stringslite_HasPrefix [a0, a1] h fun v1 h =>
 K v1 h
theorem q_strings_HasPrefix (S : FuncId → List AVal → AHeap A → (AVal → AHeap A → Prop) → Prop) (G : Nat → AHeap A → List AVal → (List AVal → AHeap A → Prop) → Prop) (a0 a1 : AVal) (h : AHeap A) (K : AVal → AHeap A → Prop) : funP Try.prog S G Try.f57 .leaf [a0, a1] h K = p_strings_HasPrefix S G a0 a1 h K := by kernel_rfl
theorem c_strings_HasPrefix {R : Adts A} {h : AHeap A} {K : AVal → AHeap A → Prop} {a0 a1 : AVal} (hk : p_strings_HasPrefix (Tri Pr R) (Gives Pr R) a0 a1 h K) : Tri Pr R n_strings_HasPrefix [a0, a1] h K :=
  tri_of_funP (by kernel_rfl) (fun _ _ _ _ h => h) (fun _ _ _ _ h => h) Try.func57 (by rw [q_strings_HasPrefix]; exact hk)
/-- bastion/field.num -/
def p_field_num (S : FuncId → List AVal → AHeap A → (AVal → AHeap A → Prop) → Prop) (G : Nat → AHeap A → List AVal → (List AVal → AHeap A → Prop) → Prop) (a0 a1 : AVal) (h : AHeap A) (K : AVal → AHeap A → Prop) : Prop :=
 binP .lss .other a1 (.int .i64 0) fun v1 =>
 condP v1 false (fun k2 =>
 lnsP a0 fun v3 =>
 binP .gtr .other a1 v3 fun v4 =>
 k2 v4 h)
 (.bool true) h fun v5 h =>
 iteP v5
 (mkiP t_api_Errno (.int .i64 100) fun v6 =>
 bldP [.int .i64 0, .nili] [(0, 1, a1), (1, 1, v6)] fun v7 =>
 boxP t_field_Fault 2 v7 h fun v8 h =>
 mkiP t_p_field_Fault v8 fun v9 =>
 K (.tup [.int .i64 0, .int .i64 0, v9]) h)
 (lnsP a0 fun v10 =>
 binP .eql .other a1 v10 fun v11 =>
 iteP v11
 (mkiP t_api_Errno (.int .i64 101) fun v12 =>
 bldP [.int .i64 0, .nili] [(0, 1, a1), (1, 1, v12)] fun v13 =>
 boxP t_field_Fault 2 v13 h fun v14 h =>
 mkiP t_p_field_Fault v14 fun v15 =>
 K (.tup [.int .i64 0, .int .i64 0, v15]) h)
 (sixP a0 a1 fun v16 =>
 cviP .i64 v16 fun v17 =>
 binP .add .other a1 (.int .i64 1) fun v18 =>
 subP a0 (some v18) none fun v19 =>
 binP .gtr .other v17 (.int .i64 4) fun v20 =>
 iteP v20
 (mkiP t_api_Errno (.int .i64 100) fun v21 =>
 bldP [.int .i64 0, .nili] [(0, 1, a1), (1, 1, v21)] fun v22 =>
 boxP t_field_Fault 2 v22 h fun v23 h =>
 mkiP t_p_field_Fault v23 fun v24 =>
 K (.tup [.int .i64 0, .int .i64 0, v24]) h)
 (lnsP v19 fun v25 =>
 binP .gtr .other v17 v25 fun v26 =>
 iteP v26
 (binP .add .other a1 (.int .i64 1) fun v27 =>
 mkiP t_api_Errno (.int .i64 101) fun v28 =>
 bldP [.int .i64 0, .nili] [(0, 1, v27), (1, 1, v28)] fun v29 =>
 boxP t_field_Fault 2 v29 h fun v30 h =>
 mkiP t_p_field_Fault v30 fun v31 =>
 K (.tup [.int .i64 0, .int .i64 0, v31]) h)
 (subP v19 none (some v17) fun v32 =>
 s2bP t_uint8 v32 h fun v33 h =>
 lenP v33 fun v34 =>
 loopP G (fun v57 h k37 =>
 (fun v35 v36 =>
 binP .lss .other v36 v34 fun v38 =>
 iteP v38
 (idxP 1 v33 v36 fun v39 =>
 ldP 1 false v39 h fun v40 =>
 binP .shl .other v35 (.int .u64 8) fun v41 =>
 cviP .i64 v40 fun v42 =>
 binP .or .other v41 v42 fun v43 =>
 binP .add .other v36 (.int .i64 1) fun v44 =>
 k37 [v43, v44] h)
 (S n_field_width [v35] h fun v45 h =>
 binP .neq .other v45 v17 fun v46 =>
 condP v46 false (fun k47 =>
 binP .gtr .other v35 (.int .i64 1073741823) fun v48 =>
 k47 v48 h)
 (.bool true) h fun v49 h =>
 iteP v49
 (binP .add .other a1 (.int .i64 1) fun v50 =>
 mkiP t_api_Errno (.int .i64 100) fun v51 =>
 bldP [.int .i64 0, .nili] [(0, 1, v50), (1, 1, v51)] fun v52 =>
 boxP t_field_Fault 2 v52 h fun v53 h =>
 mkiP t_p_field_Fault v53 fun v54 =>
 K (.tup [.int .i64 0, .int .i64 0, v54]) h)
 (binP .add .other a1 (.int .i64 1) fun v55 =>
 binP .add .other v55 v17 fun v56 =>
 K (.tup [v35, v56, .nili]) h))) (v57.getD 0 .any) (v57.getD 1 .any)) [.int .i64 0, .int .i64 0] h))))
theorem q_field_num (S : FuncId → List AVal → AHeap A → (AVal → AHeap A → Prop) → Prop) (G : Nat → AHeap A → List AVal → (List AVal → AHeap A → Prop) → Prop) (a0 a1 : AVal) (h : AHeap A) (K : AVal → AHeap A → Prop) : funP Try.prog S G Try.f58 (.two none .leaf (.two none .leaf (.two none (.draw none (.take 0 (.take 1 (.take 2 (.take 3 (.take 4 (.take 5 (.take 6 (.take 7 (.take 8 (.take 9 .stop))))))))))) (.two none .leaf (.two none .leaf (.two none (.two none .leaf (.one [] (.one [9, 68] .leaf))) .leaf)))))) [a0, a1] h K = p_field_num S G a0 a1 h K := by kernel_rfl
theorem c_field_num {R : Adts A} {h : AHeap A} {K : AVal → AHeap A → Prop} {a0 a1 : AVal} (hk : p_field_num (Tri Pr R) (Gives Pr R) a0 a1 h K) : Tri Pr R n_field_num [a0, a1] h K :=
  tri_of_funP (by kernel_rfl) (fun _ _ _ _ h => h) (fun _ _ _ _ h => h) Try.func58 (by rw [q_field_num]; exact hk)
/-- bastion/bastionref1.GetNum -/
def p_ref1_GetNum (S : FuncId → List AVal → AHeap A → (AVal → AHeap A → Prop) → Prop) (G : Nat → AHeap A → List AVal → (List AVal → AHeap A → Prop) → Prop) (a0 a1 : AVal) (h : AHeap A) (K : AVal → AHeap A → Prop) : Prop :=
 binP .lss .other a1 (.int .i64 0) fun v1 =>
 condP v1 false (fun k2 =>
 lnsP a0 fun v3 =>
 binP .gtr .other a1 v3 fun v4 =>
 k2 v4 h)
 (.bool true) h fun v5 h =>
 iteP v5
 (K (.tup [.int .i64 0, .int .i64 0, .int .i64 100]) h)
 (lnsP a0 fun v6 =>
 binP .eql .other a1 v6 fun v7 =>
 iteP v7
 (K (.tup [.int .i64 0, .int .i64 0, .int .i64 101]) h)
 (sixP a0 a1 fun v8 =>
 cviP .i64 v8 fun v9 =>
 binP .gtr .other v9 (.int .i64 4) fun v10 =>
 iteP v10
 (K (.tup [.int .i64 0, .int .i64 0, .int .i64 100]) h)
 (lnsP a0 fun v11 =>
 binP .sub .other v11 a1 fun v12 =>
 binP .sub .other v12 (.int .i64 1) fun v13 =>
 binP .gtr .other v9 v13 fun v14 =>
 iteP v14
 (K (.tup [.int .i64 0, .int .i64 0, .int .i64 101]) h)
 (loopP G (fun v36 h k17 =>
 (fun v15 v16 =>
 binP .leq .other v16 v9 fun v18 =>
 iteP v18
 (binP .shl .other v15 (.int .u64 8) fun v19 =>
 binP .add .other a1 v16 fun v20 =>
 sixP a0 v20 fun v21 =>
 cviP .i64 v21 fun v22 =>
 binP .or .other v19 v22 fun v23 =>
 binP .add .other v16 (.int .i64 1) fun v24 =>
 k17 [v23, v24] h)
 (binP .gtr .other v9 (.int .i64 0) fun v25 =>
 condP v25 true (fun k26 =>
 binP .add .other a1 (.int .i64 1) fun v27 =>
 sixP a0 v27 fun v28 =>
 binP .eql .other v28 (.int .u8 0) fun v29 =>
 k26 v29 h)
 (.bool false) h fun v30 h =>
 condP v30 false (fun k31 =>
 binP .gtr .other v15 (.int .i64 1073741823) fun v32 =>
 k31 v32 h)
 (.bool true) h fun v33 h =>
 iteP v33
 (K (.tup [.int .i64 0, .int .i64 0, .int .i64 100]) h)
 (binP .add .other a1 v9 fun v34 =>
 binP .add .other v34 (.int .i64 1) fun v35 =>
 K (.tup [v15, v35, .int .i64 0]) h))) (v36.getD 0 .any) (v36.getD 1 .any)) [.int .i64 0, .int .i64 1] h))))
theorem q_ref1_GetNum (S : FuncId → List AVal → AHeap A → (AVal → AHeap A → Prop) → Prop) (G : Nat → AHeap A → List AVal → (List AVal → AHeap A → Prop) → Prop) (a0 a1 : AVal) (h : AHeap A) (K : AVal → AHeap A → Prop) : funP Try.prog S G Try.f59 (.two none .leaf (.two none .leaf (.two none .leaf (.two none .leaf (.two none .leaf (.two none .leaf (.two none .leaf (.two none (.two none .leaf (.one [] (.one [8, 9] .leaf))) .leaf)))))))) [a0, a1] h K = p_ref1_GetNum S G a0 a1 h K := by kernel_rfl
theorem c_ref1_GetNum {R : Adts A} {h : AHeap A} {K : AVal → AHeap A → Prop} {a0 a1 : AVal} (hk : p_ref1_GetNum (Tri Pr R) (Gives Pr R) a0 a1 h K) : Tri Pr R n_ref1_GetNum [a0, a1] h K :=
  tri_of_funP (by kernel_rfl) (fun _ _ _ _ h => h) (fun _ _ _ _ h => h) Try.func59 (by rw [q_ref1_GetNum]; exact hk)
/-- internal/stringslite.HasPrefix -/
def p_internal_stringslite_HasPrefix (S : FuncId → List AVal → AHeap A → (AVal → AHeap A → Prop) → Prop) (G : Nat → AHeap A → List AVal → (List AVal → AHeap A → Prop) → Prop) (a0 a1 : AVal) (h : AHeap A) (K : AVal → AHeap A → Prop) : Prop :=
 lnsP a0 fun v1 =>
 lnsP a1 fun v2 =>
 binP .geq .other v1 v2 fun v3 =>
 condP v3 true (fun k4 =>
 lnsP a1 fun v5 =>
 subP a0 none (some v5) fun v6 =>
 binP .eql .other v6 a1 fun v7 =>
 k4 v7 h)
 (.bool false) h fun v8 h =>
 K v8 h
theorem q_internal_stringslite_HasPrefix (S : FuncId → List AVal → AHeap A → (AVal → AHeap A → Prop) → Prop) (G : Nat → AHeap A → List AVal → (List AVal → AHeap A → Prop) → Prop) (a0 a1 : AVal) (h : AHeap A) (K : AVal → AHeap A → Prop) : funP Try.prog S G Try.f60 .leaf [a0, a1] h K = p_internal_stringslite_HasPrefix S G a0 a1 h K := by kernel_rfl
theorem c_internal_stringslite_HasPrefix {R : Adts A} {h : AHeap A} {K : AVal → AHeap A → Prop} {a0 a1 : AVal} (hk : p_internal_stringslite_HasPrefix (Tri Pr R) (Gives Pr R) a0 a1 h K) : Tri Pr R n_internal_stringslite_HasPrefix [a0, a1] h K :=
  tri_of_funP (by kernel_rfl) (fun _ _ _ _ h => h) (fun _ _ _ _ h => h) Try.func60 (by rw [q_internal_stringslite_HasPrefix]; exact hk)
/-- (*bastion/ticket.shut).Unwrap -/
def p_ticket_shut_Unwrap (S : FuncId → List AVal → AHeap A → (AVal → AHeap A → Prop) → Prop) (G : Nat → AHeap A → List AVal → (List AVal → AHeap A → Prop) → Prop) (a0 : AVal) (h : AHeap A) (K : AVal → AHeap A → Prop) : Prop :=
 nilP a0 fun v1 =>
 fadP 0 v1 fun v2 =>
 ldP 1 false v2 h fun v3 =>
 K v3 h
theorem q_ticket_shut_Unwrap (S : FuncId → List AVal → AHeap A → (AVal → AHeap A → Prop) → Prop) (G : Nat → AHeap A → List AVal → (List AVal → AHeap A → Prop) → Prop) (a0 : AVal) (h : AHeap A) (K : AVal → AHeap A → Prop) : funP Try.prog S G Try.f78 .leaf [a0] h K = p_ticket_shut_Unwrap S G a0 h K := by kernel_rfl
theorem c_ticket_shut_Unwrap {R : Adts A} {h : AHeap A} {K : AVal → AHeap A → Prop} {a0 : AVal} (hk : p_ticket_shut_Unwrap (Tri Pr R) (Gives Pr R) a0 h K) : Tri Pr R n_ticket_shut_Unwrap [a0] h K :=
  tri_of_funP (by kernel_rfl) (fun _ _ _ _ h => h) (fun _ _ _ _ h => h) Try.func78 (by rw [q_ticket_shut_Unwrap]; exact hk)
/-- (*bastion/field.Fault).Unwrap -/
def p_field_Fault_Unwrap (S : FuncId → List AVal → AHeap A → (AVal → AHeap A → Prop) → Prop) (G : Nat → AHeap A → List AVal → (List AVal → AHeap A → Prop) → Prop) (a0 : AVal) (h : AHeap A) (K : AVal → AHeap A → Prop) : Prop :=
 nilP a0 fun v1 =>
 fadP 1 v1 fun v2 =>
 ldP 1 false v2 h fun v3 =>
 K v3 h
theorem q_field_Fault_Unwrap (S : FuncId → List AVal → AHeap A → (AVal → AHeap A → Prop) → Prop) (G : Nat → AHeap A → List AVal → (List AVal → AHeap A → Prop) → Prop) (a0 : AVal) (h : AHeap A) (K : AVal → AHeap A → Prop) : funP Try.prog S G Try.f92 .leaf [a0] h K = p_field_Fault_Unwrap S G a0 h K := by kernel_rfl
theorem c_field_Fault_Unwrap {R : Adts A} {h : AHeap A} {K : AVal → AHeap A → Prop} {a0 : AVal} (hk : p_field_Fault_Unwrap (Tri Pr R) (Gives Pr R) a0 h K) : Tri Pr R n_field_Fault_Unwrap [a0] h K :=
  tri_of_funP (by kernel_rfl) (fun _ _ _ _ h => h) (fun _ _ _ _ h => h) Try.func92 (by rw [q_field_Fault_Unwrap]; exact hk)
end Go.AI
