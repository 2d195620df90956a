/- The functions as texts over the abstract heap. -/
import Derived.Test.YtjnnihaofffkfaaGreatNm
import Derived.KernelRfl
set_option linter.all false
namespace Go.AI
open Go.Proofs
set_option maxRecDepth 1000000
variable {A : Type}
/-- (*bastion/book.Book).Term -/
def p_book_Book_Term (S : FuncId → List AVal → AHeap A → (AVal → AHeap A → Prop) → Prop) (G : Nat → AHeap A → List AVal → (List AVal → AHeap A → Prop) → Prop) (a0 a1 : AVal) (h : AHeap A) (K : AVal → AHeap A → Prop) : Prop :=
 binP .eql .ptr a0 .nilp fun v1 =>
 iteP v1
 (K (.tup [.str [], .int .i64 1]) h)
 (binP .lss .other a1 (.int .i64 0) fun v2 =>
 condP v2 false (fun k3 =>
 nilP a0 fun v4 =>
 fadP 1 v4 fun v5 =>
 ldP 1 false v5 h fun v6 =>
 lenP v6 fun v7 =>
 binP .geq .other a1 v7 fun v8 =>
 k3 v8 h)
 (.bool true) h fun v9 h =>
 iteP v9
 (K (.tup [.str [], .int .i64 202]) h)
 (nilP a0 fun v10 =>
 fadP 1 v10 fun v11 =>
 ldP 1 false v11 h fun v12 =>
 idxP 1 v12 a1 fun v13 =>
 ldP 1 false v13 h fun v14 =>
 K (.tup [v14, .int .i64 0]) h))
theorem q_book_Book_Term (S : FuncId → List AVal → AHeap A → (AVal → AHeap A → Prop) → Prop) (G : Nat → AHeap A → List AVal → (List AVal → AHeap A → Prop) → Prop) (a0 a1 : AVal) (h : AHeap A) (K : AVal → AHeap A → Prop) : funP Tryz.prog S G Tryz.f45 .leaf [a0, a1] h K = p_book_Book_Term S G a0 a1 h K := by kernel_rfl
theorem c_book_Book_Term {R : Adts A} {h : AHeap A} {K : AVal → AHeap A → Prop} {a0 a1 : AVal} (hk : p_book_Book_Term (Tri Pr R) (Gives Pr R) a0 a1 h K) : Tri Pr R n_book_Book_Term [a0, a1] h K :=
  tri_of_funP (by kernel_rfl) (fun _ _ _ _ h => h) (fun _ _ _ _ h => h) Tryz.func45 (by rw [q_book_Book_Term]; exact hk)
/-- (*bastion/bastionref1.Book).Find -/
def p_ref1_Book_Find (S : FuncId → List AVal → AHeap A → (AVal → AHeap A → Prop) → Prop) (G : Nat → AHeap A → List AVal → (List AVal → AHeap A → Prop) → Prop) (a0 a1 : AVal) (h : AHeap A) (K : AVal → AHeap A → Prop) : Prop :=
 loopP G (fun v15 h k2 =>
 (fun v1 =>
 nilP a0 fun v3 =>
 fadP 1 v3 fun v4 =>
 ldP 1 false v4 h fun v5 =>
 lenP v5 fun v6 =>
 binP .lss .other v1 v6 fun v7 =>
 iteP v7
 (nilP a0 fun v8 =>
 fadP 1 v8 fun v9 =>
 ldP 1 false v9 h fun v10 =>
 idxP 1 v10 v1 fun v11 =>
 ldP 1 false v11 h fun v12 =>
 binP .eql .other v12 a1 fun v13 =>
 iteP v13
 (K (.tup [v1, .bool true]) h)
 (binP .add .other v1 (.int .i64 1) fun v14 =>
 k2 [v14] h))
 (K (.tup [.int .i64 0, .bool false]) h)) (v15.getD 0 .any)) [.int .i64 0] h
theorem q_ref1_Book_Find (S : FuncId → List AVal → AHeap A → (AVal → AHeap A → Prop) → Prop) (G : Nat → AHeap A → List AVal → (List AVal → AHeap A → Prop) → Prop) (a0 a1 : AVal) (h : AHeap A) (K : AVal → AHeap A → Prop) : funP Tryz.prog S G Tryz.f46 (.two none .leaf (.two none (.two none .leaf (.one [] (.one [6] .leaf))) .leaf)) [a0, a1] h K = p_ref1_Book_Find S G a0 a1 h K := by kernel_rfl
theorem c_ref1_Book_Find {R : Adts A} {h : AHeap A} {K : AVal → AHeap A → Prop} {a0 a1 : AVal} (hk : p_ref1_Book_Find (Tri Pr R) (Gives Pr R) a0 a1 h K) : Tri Pr R n_ref1_Book_Find [a0, a1] h K :=
  tri_of_funP (by kernel_rfl) (fun _ _ _ _ h => h) (fun _ _ _ _ h => h) Tryz.func46 (by rw [q_ref1_Book_Find]; exact hk)
/-- (*bastion/disk.Disk).Down -/
def p_disk_Disk_Down (S : FuncId → List AVal → AHeap A → (AVal → AHeap A → Prop) → Prop) (G : Nat → AHeap A → List AVal → (List AVal → AHeap A → Prop) → Prop) (a0 : AVal) (h : AHeap A) (K : AVal → AHeap A → Prop) : Prop :=
 nilP a0 fun v1 =>
 fadP 2 v1 fun v2 =>
 ldP 1 false v2 h fun v3 =>
 K v3 h
theorem q_disk_Disk_Down (S : FuncId → List AVal → AHeap A → (AVal → AHeap A → Prop) → Prop) (G : Nat → AHeap A → List AVal → (List AVal → AHeap A → Prop) → Prop) (a0 : AVal) (h : AHeap A) (K : AVal → AHeap A → Prop) : funP Tryz.prog S G Tryz.f47 .leaf [a0] h K = p_disk_Disk_Down S G a0 h K := by kernel_rfl
theorem c_disk_Disk_Down {R : Adts A} {h : AHeap A} {K : AVal → AHeap A → Prop} {a0 : AVal} (hk : p_disk_Disk_Down (Tri Pr R) (Gives Pr R) a0 h K) : Tri Pr R n_disk_Disk_Down [a0] h K :=
  tri_of_funP (by kernel_rfl) (fun _ _ _ _ h => h) (fun _ _ _ _ h => h) Tryz.func47 (by rw [q_disk_Disk_Down]; exact hk)
/-- (*bastion/journal.Journal).began -/
def p_journal_Journal_began (S : FuncId → List AVal → AHeap A → (AVal → AHeap A → Prop) → Prop) (G : Nat → AHeap A → List AVal → (List AVal → AHeap A → Prop) → Prop) (a0 : AVal) (h : AHeap A) (K : AVal → AHeap A → Prop) : Prop :=
 nilP a0 fun v1 =>
 fadP 1 v1 fun v2 =>
 ldP 1 false v2 h fun v3 =>
 S n_disk_Disk_Read [v3, .int .i64 0] h fun v4 h =>
 extP v4 0 fun v5 =>
 extP v4 1 fun v6 =>
 nilP a0 fun v7 =>
 fadP 1 v7 fun v8 =>
 ldP 1 false v8 h fun v9 =>
 S n_disk_Disk_Read [v9, .int .i64 1] h fun v10 h =>
 extP v10 0 fun v11 =>
 extP v10 1 fun v12 =>
 nilP a0 fun v13 =>
 fadP 0 v13 fun v14 =>
 ldP 1 false v14 h fun v15 =>
 S n_super_Pick [v15, v5, v11] h fun v16 h =>
 extP v16 0 fun v17 =>
 extP v16 1 fun v18 =>
 extP v16 2 fun v19 =>
 joinP G h.length (fun k20 =>
 mkiP t_api_Errno v19 fun v21 =>
 mkiP t_api_Errno (.int .i64 1001) fun v22 =>
 S n_errors_Is [v21, v22] h fun v23 h =>
 iteP v23
 (k20 [.int .i64 0, .int .i64 0] h)
 (k20 [v17, v18] h))
 (fun v49 h =>
 (fun v24 v25 =>
 nilP a0 fun v26 =>
 fadP 0 v26 fun v27 =>
 ldP 1 false v27 h fun v28 =>
 binP .add .other v24 (.int .i64 1) fun v29 =>
 S n_super_Put [v28, v29] h fun v30 h =>
 extP v30 0 fun v31 =>
 extP v30 1 fun v32 =>
 binP .neq .other v32 (.int .i64 0) fun v33 =>
 iteP v33
 (mkiP t_api_Errno (.int .i64 1101) fun v34 =>
 bldP [.int .i64 0, .nili] [(0, 1, .int .i64 0), (1, 1, v34)] fun v35 =>
 boxP t_journal_place 2 v35 h fun v36 h =>
 mkiP t_p_journal_place v36 fun v37 =>
 K v37 h)
 (binP .add .other v24 (.int .i64 1) fun v38 =>
 nilP a0 fun v39 =>
 fadP 2 v39 fun v40 =>
 stP 1 v40 v38 h fun h =>
 nilP a0 fun v41 =>
 fadP 1 v41 fun v42 =>
 ldP 1 false v42 h fun v43 =>
 S n_disk_Disk_Write [v43, v25, v31] h fun v44 h =>
 nilP a0 fun v45 =>
 fadP 1 v45 fun v46 =>
 ldP 1 false v46 h fun v47 =>
 S n_disk_Disk_Flush [v47] h fun v48 h =>
 K .nili h)) (v49.getD 0 .any) (v49.getD 1 .any))
theorem q_journal_Journal_began (S : FuncId → List AVal → AHeap A → (AVal → AHeap A → Prop) → Prop) (G : Nat → AHeap A → List AVal → (List AVal → AHeap A → Prop) → Prop) (a0 : AVal) (h : AHeap A) (K : AVal → AHeap A → Prop) : funP Tryz.prog S G Tryz.f48 (.two none .leaf (.two none .leaf (.two none .leaf (.two none .leaf (.two (some [7, 8]) .leaf .leaf))))) [a0] h K = p_journal_Journal_began S G a0 h K := by kernel_rfl
theorem c_journal_Journal_began {R : Adts A} {h : AHeap A} {K : AVal → AHeap A → Prop} {a0 : AVal} (hk : p_journal_Journal_began (Tri Pr R) (Gives Pr R) a0 h K) : Tri Pr R n_journal_Journal_began [a0] h K :=
  tri_of_funP (by kernel_rfl) (fun _ _ _ _ h => h) (fun _ _ _ _ h => h) Tryz.func48 (by rw [q_journal_Journal_began]; exact hk)
/-- (*bastion/journal.Journal).next -/
def p_journal_Journal_next (S : FuncId → List AVal → AHeap A → (AVal → AHeap A → Prop) → Prop) (G : Nat → AHeap A → List AVal → (List AVal → AHeap A → Prop) → Prop) (a0 : AVal) (h : AHeap A) (K : AVal → AHeap A → Prop) : Prop :=
 nilP a0 fun v1 =>
 fadP 4 v1 fun v2 =>
 ldP 1 false v2 h fun v3 =>
 lenP v3 fun v4 =>
 binP .add .other v4 (.int .i64 1) fun v5 =>
 nilP a0 fun v6 =>
 fadP 1 v6 fun v7 =>
 ldP 1 false v7 h fun v8 =>
 binP .add .other (.int .i64 2) v5 fun v9 =>
 binP .sub .other v9 (.int .i64 1) fun v10 =>
 S n_disk_Disk_Read [v8, v10] h fun v11 h =>
 extP v11 0 fun v12 =>
 extP v11 1 fun v13 =>
 binP .neq .other v13 (.int .i64 0) fun v14 =>
 iteP v14
 (mkiP t_api_Errno v13 fun v15 =>
 bldP [.int .i64 0, .nili] [(0, 1, v5), (1, 1, v15)] fun v16 =>
 boxP t_journal_place 2 v16 h fun v17 h =>
 mkiP t_p_journal_place v17 fun v18 =>
 K v18 h)
 (joinP G h.length (fun k19 =>
 nilP a0 fun v20 =>
 fadP 0 v20 fun v21 =>
 nilP a0 fun v22 =>
 fadP 3 v22 fun v23 =>
 ldP 1 false v21 h fun v24 =>
 ldP 1 false v23 h fun v25 =>
 (S n_record_Get [v24, v12, v5, v25] h fun v26 h =>
 extP v26 0 fun v27 =>
 extP v26 1 fun v28 =>
 extP v26 2 fun v29 =>
 newP t_api_Record (reps 11 (.int .i64 0)) h fun v30 h =>
 stP 11 v30 v27 h fun h =>
 k19 [v29, v30, v28] h) ∧
 (newP t_api_Record (reps 11 (.int .i64 0)) h fun v31 h =>
 ldV 1 false v23 h = some v25 ∧
 ldV 1 false v21 h = some v24 ∧
 S n_record_Get [v24, v12, v5, v25] h fun v32 h =>
 extP v32 0 fun v33 =>
 extP v32 1 fun v34 =>
 extP v32 2 fun v35 =>
 stP 11 v31 v33 h fun h =>
 k19 [v35, v31, v34] h))
 (fun v55 h =>
 (fun v36 v37 v38 =>
 binP .neq .other v36 (.int .i64 0) fun v39 =>
 iteP v39
 (mkiP t_api_Errno v36 fun v40 =>
 bldP [.int .i64 0, .nili] [(0, 1, v5), (1, 1, v40)] fun v41 =>
 boxP t_journal_place 2 v41 h fun v42 h =>
 mkiP t_p_journal_place v42 fun v43 =>
 K v43 h)
 (nilP a0 fun v44 =>
 fadP 4 v44 fun v45 =>
 fadP 3 v37 fun v46 =>
 ldP 1 false v45 h fun v47 =>
 ldP 8 true v46 h fun v48 =>
 ldV 1 false v45 h = some v47 ∧
 bslP t_api_Event 1 [.int .i64 0, .int .i64 0, .int .i64 0, .int .i64 0, .int .i64 0, .int .i64 0, .int .i64 0, .int .i64 0] [(0, 8, v48)] h fun v49 h =>
 ldV 1 false v45 h = some v47 ∧
 appP t_api_Event 8 64 v47 v49 h fun v50 h =>
 nilP a0 fun v51 =>
 fadP 4 v51 fun v52 =>
 stP 1 v52 v50 h fun h =>
 nilP a0 fun v53 =>
 fadP 3 v53 fun v54 =>
 stP 1 v54 v38 h fun h =>
 K .nili h)) (v55.getD 0 .any) (v55.getD 1 .any) (v55.getD 2 .any)))
theorem q_journal_Journal_next (S : FuncId → List AVal → AHeap A → (AVal → AHeap A → Prop) → Prop) (G : Nat → AHeap A → List AVal → (List AVal → AHeap A → Prop) → Prop) (a0 : AVal) (h : AHeap A) (K : AVal → AHeap A → Prop) : funP Tryz.prog S G Tryz.f50 (.two none .leaf (.two none .leaf (.two none .leaf (.two none .leaf (.two none (.draw (some [5, 6, 7]) (.take 0 (.take 1 (.take 2 (.take 4 (.take 5 (.take 6 (.take 7 (.take 8 (.load 3 (.load 9 (.alt 10 (.take 11 (.take 12 (.take 13 (.take 14 (.alt 15 (.alt 16 (.take 17 (.take 18 .stop)) .stop) .stop))))) (.alt 15 (.alt 10 (.take 11 (.take 12 (.take 13 (.take 14 (.alt 16 (.take 17 (.take 18 .stop)) .stop))))) .stop) .stop))))))))))))) (.two none .leaf (.two none (.draw none (.take 0 (.take 1 (.take 2 (.take 3 (.take 4 (.take 6 (.take 10 (.load 5 (.alt 7 (.alt 8 (.alt 9 (.take 11 (.take 12 (.alt 13 (.take 14 (.take 15 (.alt 16 .stop .stop))) .stop))) .stop) .stop) .stop)))))))))) .leaf))))))) [a0] h K = p_journal_Journal_next S G a0 h K := by kernel_rfl
theorem c_journal_Journal_next {R : Adts A} {h : AHeap A} {K : AVal → AHeap A → Prop} {a0 : AVal} (hk : p_journal_Journal_next (Tri Pr R) (Gives Pr R) a0 h K) : Tri Pr R n_journal_Journal_next [a0] h K :=
  tri_of_funP (by kernel_rfl) (fun _ _ _ _ h => h) (fun _ _ _ _ h => h) Tryz.func50 (by rw [q_journal_Journal_next]; exact hk)
/-- (*bastion/bastionref1.Disk).Read -/
def p_ref1_Disk_Read (S : FuncId → List AVal → AHeap A → (AVal → AHeap A → Prop) → Prop) (G : Nat → AHeap A → List AVal → (List AVal → AHeap A → Prop) → Prop) (a0 a1 : AVal) (h : AHeap A) (K : AVal → AHeap A → Prop) : Prop :=
 nilP a0 fun v1 =>
 fadP 2 v1 fun v2 =>
 ldP 1 false v2 h fun v3 =>
 iteP v3
 (K (.tup [.str [], .int .i64 801]) h)
 (binP .lss .other a1 (.int .i64 0) fun v4 =>
 condP v4 false (fun k5 =>
 nilP a0 fun v6 =>
 fadP 0 v6 fun v7 =>
 ldP 1 false v7 h fun v8 =>
 lenP v8 fun v9 =>
 binP .geq .other a1 v9 fun v10 =>
 k5 v10 h)
 (.bool true) h fun v11 h =>
 iteP v11
 (K (.tup [.str [], .int .i64 800]) h)
 (nilP a0 fun v12 =>
 fadP 1 v12 fun v13 =>
 ldP 1 false v13 h fun v14 =>
 lenP v14 fun v15 =>
 binP .sub .other v15 (.int .i64 1) fun v16 =>
 loopP G (fun v39 h k18 =>
 (fun v17 =>
 binP .geq .other v17 (.int .i64 0) fun v19 =>
 iteP v19
 (nilP a0 fun v20 =>
 fadP 1 v20 fun v21 =>
 ldP 1 false v21 h fun v22 =>
 idxP 2 v22 v17 fun v23 =>
 fadP 0 v23 fun v24 =>
 ldP 1 false v24 h fun v25 =>
 binP .eql .other v25 a1 fun v26 =>
 iteP v26
 (nilP a0 fun v27 =>
 fadP 1 v27 fun v28 =>
 ldP 1 false v28 h fun v29 =>
 idxP 2 v29 v17 fun v30 =>
 fadP 1 v30 fun v31 =>
 ldP 1 false v31 h fun v32 =>
 K (.tup [v32, .int .i64 0]) h)
 (binP .sub .other v17 (.int .i64 1) fun v33 =>
 k18 [v33] h))
 (nilP a0 fun v34 =>
 fadP 0 v34 fun v35 =>
 ldP 1 false v35 h fun v36 =>
 idxP 1 v36 a1 fun v37 =>
 ldP 1 false v37 h fun v38 =>
 K (.tup [v38, .int .i64 0]) h)) (v39.getD 0 .any)) [v16] h))
theorem q_ref1_Disk_Read (S : FuncId → List AVal → AHeap A → (AVal → AHeap A → Prop) → Prop) (G : Nat → AHeap A → List AVal → (List AVal → AHeap A → Prop) → Prop) (a0 a1 : AVal) (h : AHeap A) (K : AVal → AHeap A → Prop) : funP Tryz.prog S G Tryz.f51 (.two none .leaf (.two none .leaf (.two none (.two none .leaf (.one [] (.one [6] .leaf))) .leaf))) [a0, a1] h K = p_ref1_Disk_Read S G a0 a1 h K := by kernel_rfl
theorem c_ref1_Disk_Read {R : Adts A} {h : AHeap A} {K : AVal → AHeap A → Prop} {a0 a1 : AVal} (hk : p_ref1_Disk_Read (Tri Pr R) (Gives Pr R) a0 a1 h K) : Tri Pr R n_ref1_Disk_Read [a0, a1] h K :=
  tri_of_funP (by kernel_rfl) (fun _ _ _ _ h => h) (fun _ _ _ _ h => h) Tryz.func51 (by rw [q_ref1_Disk_Read]; exact hk)
/-- bastion/bastionref1.Pick -/
def p_ref1_Pick (S : FuncId → List AVal → AHeap A → (AVal → AHeap A → Prop) → Prop) (G : Nat → AHeap A → List AVal → (List AVal → AHeap A → Prop) → Prop) (a0 a1 a2 : AVal) (h : AHeap A) (K : AVal → AHeap A → Prop) : Prop :=
 S n_ref1_GetSuper [a0, a1] h fun v1 h =>
 extP v1 0 fun v2 =>
 extP v1 1 fun v3 =>
 S n_ref1_GetSuper [a0, a2] h fun v4 h =>
 extP v4 0 fun v5 =>
 extP v4 1 fun v6 =>
 binP .neq .other v3 (.int .i64 0) fun v7 =>
 condP v7 true (fun k8 =>
 binP .neq .other v6 (.int .i64 0) fun v9 =>
 k8 v9 h)
 (.bool false) h fun v10 h =>
 iteP v10
 (K (.tup [.int .i64 0, .int .i64 0, .int .i64 1001]) h)
 (binP .neq .other v6 (.int .i64 0) fun v11 =>
 condP v11 false (fun k12 =>
 binP .eql .other v3 (.int .i64 0) fun v13 =>
 condP v13 true (fun k14 =>
 binP .geq .other v2 v5 fun v15 =>
 k14 v15 h)
 (.bool false) h fun v16 h =>
 k12 v16 h)
 (.bool true) h fun v17 h =>
 iteP v17
 (K (.tup [v2, .int .i64 1, .int .i64 0]) h)
 (K (.tup [v5, .int .i64 0, .int .i64 0]) h))
theorem q_ref1_Pick (S : FuncId → List AVal → AHeap A → (AVal → AHeap A → Prop) → Prop) (G : Nat → AHeap A → List AVal → (List AVal → AHeap A → Prop) → Prop) (a0 a1 a2 : AVal) (h : AHeap A) (K : AVal → AHeap A → Prop) : funP Tryz.prog S G Tryz.f52 .leaf [a0, a1, a2] h K = p_ref1_Pick S G a0 a1 a2 h K := by kernel_rfl
theorem c_ref1_Pick {R : Adts A} {h : AHeap A} {K : AVal → AHeap A → Prop} {a0 a1 a2 : AVal} (hk : p_ref1_Pick (Tri Pr R) (Gives Pr R) a0 a1 a2 h K) : Tri Pr R n_ref1_Pick [a0, a1, a2] h K :=
  tri_of_funP (by kernel_rfl) (fun _ _ _ _ h => h) (fun _ _ _ _ h => h) Tryz.func52 (by rw [q_ref1_Pick]; exact hk)
/-- bastion/bastionref1.PutSuper -/
def p_ref1_PutSuper (S : FuncId → List AVal → AHeap A → (AVal → AHeap A → Prop) → Prop) (G : Nat → AHeap A → List AVal → (List AVal → AHeap A → Prop) → Prop) (a0 a1 : AVal) (h : AHeap A) (K : AVal → AHeap A → Prop) : Prop :=
 binP .lss .other a1 (.int .i64 1) fun v1 =>
 condP v1 false (fun k2 =>
 binP .gtr .other a1 (.int .i64 1023) fun v3 =>
 k2 v3 h)
 (.bool true) h fun v4 h =>
 iteP v4
 (K (.tup [.str [], .int .i64 1000]) h)
 (bslP t_int 1 [.int .i64 0] [(0, 1, a1)] h fun v5 h =>
 S n_ref1_Nums [v5] h fun v6 h =>
 binP .add .other (.str [115, 117, 112, 101, 114]) v6 fun v7 =>
 S n_ref1_Hash [a0, v7] h fun v8 h =>
 extP v8 0 fun v9 =>
 extP v8 1 fun v10 =>
 binP .neq .other v10 (.int .i64 0) fun v11 =>
 iteP v11
 (K (.tup [.str [], .int .i64 1000]) h)
 (bslP t_int 2 [.int .i64 0, .int .i64 0] [(0, 1, a1), (1, 1, v9)] h fun v12 h =>
 S n_ref1_Nums [v12] h fun v13 h =>
 S n_ref1_sector [v13] h fun v14 h =>
 K (.tup [v14, .int .i64 0]) h))
theorem q_ref1_PutSuper (S : FuncId → List AVal → AHeap A → (AVal → AHeap A → Prop) → Prop) (G : Nat → AHeap A → List AVal → (List AVal → AHeap A → Prop) → Prop) (a0 a1 : AVal) (h : AHeap A) (K : AVal → AHeap A → Prop) : funP Tryz.prog S G Tryz.f53 .leaf [a0, a1] h K = p_ref1_PutSuper S G a0 a1 h K := by kernel_rfl
theorem c_ref1_PutSuper {R : Adts A} {h : AHeap A} {K : AVal → AHeap A → Prop} {a0 a1 : AVal} (hk : p_ref1_PutSuper (Tri Pr R) (Gives Pr R) a0 a1 h K) : Tri Pr R n_ref1_PutSuper [a0, a1] h K :=
  tri_of_funP (by kernel_rfl) (fun _ _ _ _ h => h) (fun _ _ _ _ h => h) Tryz.func53 (by rw [q_ref1_PutSuper]; exact hk)
/-- bastion/bastionref1.GetRecord -/
def p_ref1_GetRecord (S : FuncId → List AVal → AHeap A → (AVal → AHeap A → Prop) → Prop) (G : Nat → AHeap A → List AVal → (List AVal → AHeap A → Prop) → Prop) (a0 a1 a2 a3 : AVal) (h : AHeap A) (K : AVal → AHeap A → Prop) : Prop :=
 newP t_api_Record (reps 11 (.int .i64 0)) h fun v1 h =>
 bldP [.str [], .int .i64 0, .bool false] [(0, 1, a1)] fun v2 =>
 boxP t_bastionref1_Reader 3 v2 h fun v3 h =>
 S n_ref1_Reader_Num [v3] h fun v4 h =>
 bldP [.int .i64 0, .int .i64 0, .int .i64 0, .int .i64 0, .int .i64 0, .int .i64 0, .int .i64 0, .int .i64 0, .int .i64 0, .int .i64 0, .int .i64 0] [(0, 1, v4)] fun v5 =>
 newP t_api_Record (reps 11 (.int .i64 0)) h fun v6 h =>
 stP 11 v6 v5 h fun h =>
 S n_ref1_Reader_Num [v3] h fun v7 h =>
 fadP 1 v6 fun v8 =>
 stP 1 v8 v7 h fun h =>
 S n_ref1_Reader_Num [v3] h fun v9 h =>
 fadP 2 v6 fun v10 =>
 stP 1 v10 v9 h fun h =>
 S n_ref1_Reader_Text [v3] h fun v11 h =>
 nilP v3 fun v12 =>
 fadP 1 v12 fun v13 =>
 ldP 1 false v13 h fun v14 =>
 S n_ref1_Reader_Num [v3] h fun v15 h =>
 S n_ref1_GetEvent [v11] h fun v16 h =>
 extP v16 0 fun v17 =>
 extP v16 1 fun v18 =>
 newP t_api_Event [.int .i64 0, .int .i64 0, .int .i64 0, .int .i64 0, .int .i64 0, .int .i64 0, .int .i64 0, .int .i64 0] h fun v19 h =>
 stP 8 v19 v17 h fun h =>
 joinP G h.length (fun k20 =>
 lnsP a1 fun v21 =>
 binP .neq .other v21 (.int .i64 64) fun v22 =>
 iteP v22
 (k20 [.bool true] h)
 (nilP v3 fun v23 =>
 fadP 2 v23 fun v24 =>
 ldP 1 false v24 h fun v25 =>
 iteP v25
 (k20 [.bool true] h)
 (binP .neq .other v18 (.int .i64 0) fun v26 =>
 iteP v26
 (k20 [.bool true] h)
 (lnsP v11 fun v27 =>
 binP .gtr .other v27 (.int .i64 44) fun v28 =>
 iteP v28
 (k20 [.bool true] h)
 (fadP 0 v6 fun v29 =>
 ldP 1 false v29 h fun v30 =>
 binP .lss .other v30 (.int .i64 1) fun v31 =>
 iteP v31
 (k20 [.bool true] h)
 (fadP 1 v6 fun v32 =>
 ldP 1 false v32 h fun v33 =>
 binP .lss .other v33 (.int .i64 1) fun v34 =>
 iteP v34
 (k20 [.bool true] h)
 (nilP v3 fun v35 =>
 fadP 1 v35 fun v36 =>
 nilP v3 fun v37 =>
 fadP 1 v37 fun v38 =>
 ldP 1 false v36 h fun v39 =>
 subP a1 (some v39) none fun v40 =>
 ldP 1 false v38 h fun v41 =>
 ldV 1 false v36 h = some v39 ∧
 binP .sub .other (.int .i64 64) v41 fun v42 =>
 mkslP t_uint8 1 1 [.int .u8 0] v42 v42 h fun v43 h =>
 ldV 1 false v36 h = some v39 ∧
 b2sP v43 h fun v44 =>
 ldV 1 false v36 h = some v39 ∧
 binP .neq .other v40 v44 fun v45 =>
 iteP v45
 (k20 [.bool true] h)
 (subP a1 none (some v14) fun v46 =>
 binP .add .other (.str [114, 101, 99, 111, 114, 100]) v46 fun v47 =>
 S n_ref1_IsHash [a0, v47, v15] h fun v48 h =>
 notP v48 fun v49 =>
 k20 [v49] h))))))))
 (fun v67 h =>
 (fun v50 =>
 iteP v50
 (bldP [.int .i64 0, .int .i64 0, .int .i64 0, .int .i64 0, .int .i64 0, .int .i64 0, .int .i64 0, .int .i64 0, .int .i64 0, .int .i64 0, .int .i64 0] [] fun v51 =>
 stP 11 v1 v51 h fun h =>
 ldP 11 true v1 h fun v52 =>
 K (.tup [v52, .int .i64 0, .int .i64 900]) h)
 (fadP 0 v6 fun v53 =>
 ldP 1 false v53 h fun v54 =>
 binP .neq .other v54 a2 fun v55 =>
 condP v55 false (fun k56 =>
 fadP 2 v6 fun v57 =>
 ldP 1 false v57 h fun v58 =>
 binP .neq .other v58 a3 fun v59 =>
 k56 v59 h)
 (.bool true) h fun v60 h =>
 iteP v60
 (bldP [.int .i64 0, .int .i64 0, .int .i64 0, .int .i64 0, .int .i64 0, .int .i64 0, .int .i64 0, .int .i64 0, .int .i64 0, .int .i64 0, .int .i64 0] [] fun v61 =>
 stP 11 v1 v61 h fun h =>
 ldP 11 true v1 h fun v62 =>
 K (.tup [v62, .int .i64 0, .int .i64 901]) h)
 (ldP 8 true v19 h fun v63 =>
 fadP 3 v6 fun v64 =>
 stP 8 v64 v63 h fun h =>
 ldP 11 true v6 h fun v65 =>
 stP 11 v1 v65 h fun h =>
 ldP 11 true v1 h fun v66 =>
 K (.tup [v66, v15, .int .i64 0]) h))) (v67.getD 0 .any))
theorem q_ref1_GetRecord (S : FuncId → List AVal → AHeap A → (AVal → AHeap A → Prop) → Prop) (G : Nat → AHeap A → List AVal → (List AVal → AHeap A → Prop) → Prop) (a0 a1 a2 a3 : AVal) (h : AHeap A) (K : AVal → AHeap A → Prop) : funP Tryz.prog S G Tryz.f54 (.two none .leaf (.two none .leaf (.two none .leaf (.two none .leaf (.two none .leaf (.two none .leaf (.two none .leaf (.two none .leaf (.two none .leaf (.two none (.two none (.draw (some [96]) (.take 0 (.take 1 (.take 2 (.take 3 (.split 3 (.skip 4 (.skip 5 (.skip 6 (.skip 7 (.take 8 (.take 9 (.known 9 true (.skip 10 (.skip 11 (.take 12 (.take 13 (.known 13 true (.skip 14 (.skip 15 (.skip 16 (.take 17 (.take 18 (.known 18 true (.skip 19 (.skip 20 (.skip 21 (.take 22 (.take 23 (.known 23 true (.skip 24 (.skip 25 (.skip 26 (.take 27 (.take 28 (.known 28 true (.skip 29 (.skip 30 (.skip 31 (.skip 32 (.skip 33 (.skip 34 (.skip 35 (.skip 36 (.skip 37 (.skip 38 (.skip 39 (.skip 40 (.skip 41 (.skip 42 (.take 43 (.take 44 (.known 44 true (.skip 45 (.skip 46 (.skip 47 (.skip 48 (.skip 49 (.skip 50 (.skip 51 (.skip 52 (.take 53 .stop)))))))))))))))))))))))))))))))))))))))))))))))))))))))) (.take 4 (.take 5 (.take 6 (.alt 7 (.take 8 (.take 9 (.split 9 (.skip 10 (.skip 11 (.take 12 (.take 13 (.known 13 true (.skip 14 (.skip 15 (.skip 16 (.take 17 (.take 18 (.known 18 true (.skip 19 (.skip 20 (.skip 21 (.take 22 (.take 23 (.known 23 true (.skip 24 (.skip 25 (.skip 26 (.take 27 (.take 28 (.known 28 true (.skip 29 (.skip 30 (.skip 31 (.skip 32 (.skip 33 (.skip 34 (.skip 35 (.skip 36 (.skip 37 (.skip 38 (.skip 39 (.skip 40 (.skip 41 (.skip 42 (.take 43 (.take 44 (.known 44 true (.skip 45 (.skip 46 (.skip 47 (.skip 48 (.skip 49 (.skip 50 (.skip 51 (.skip 52 (.take 53 .stop))))))))))))))))))))))))))))))))))))))))))))))))) (.take 10 (.take 11 (.take 12 (.take 13 (.split 13 (.skip 14 (.skip 15 (.skip 16 (.take 17 (.take 18 (.known 18 true (.skip 19 (.skip 20 (.skip 21 (.take 22 (.take 23 (.known 23 true (.skip 24 (.skip 25 (.skip 26 (.take 27 (.take 28 (.known 28 true (.skip 29 (.skip 30 (.skip 31 (.skip 32 (.skip 33 (.skip 34 (.skip 35 (.skip 36 (.skip 37 (.skip 38 (.skip 39 (.skip 40 (.skip 41 (.skip 42 (.take 43 (.take 44 (.known 44 true (.skip 45 (.skip 46 (.skip 47 (.skip 48 (.skip 49 (.skip 50 (.skip 51 (.skip 52 (.take 53 .stop)))))))))))))))))))))))))))))))))))))))))))) (.take 14 (.take 15 (.take 16 (.take 17 (.take 18 (.split 18 (.skip 19 (.skip 20 (.skip 21 (.take 22 (.take 23 (.known 23 true (.skip 24 (.skip 25 (.skip 26 (.take 27 (.take 28 (.known 28 true (.skip 29 (.skip 30 (.skip 31 (.skip 32 (.skip 33 (.skip 34 (.skip 35 (.skip 36 (.skip 37 (.skip 38 (.skip 39 (.skip 40 (.skip 41 (.skip 42 (.take 43 (.take 44 (.known 44 true (.skip 45 (.skip 46 (.skip 47 (.skip 48 (.skip 49 (.skip 50 (.skip 51 (.skip 52 (.take 53 .stop)))))))))))))))))))))))))))))))))))))) (.take 19 (.alt 20 (.take 21 (.take 22 (.take 23 (.split 23 (.skip 24 (.skip 25 (.skip 26 (.take 27 (.take 28 (.known 28 true (.skip 29 (.skip 30 (.skip 31 (.skip 32 (.skip 33 (.skip 34 (.skip 35 (.skip 36 (.skip 37 (.skip 38 (.skip 39 (.skip 40 (.skip 41 (.skip 42 (.take 43 (.take 44 (.known 44 true (.skip 45 (.skip 46 (.skip 47 (.skip 48 (.skip 49 (.skip 50 (.skip 51 (.skip 52 (.take 53 .stop)))))))))))))))))))))))))))))))) (.take 24 (.alt 25 (.take 26 (.take 27 (.take 28 (.split 28 (.skip 29 (.skip 30 (.skip 31 (.skip 32 (.skip 33 (.skip 34 (.skip 35 (.skip 36 (.skip 37 (.skip 38 (.skip 39 (.skip 40 (.skip 41 (.skip 42 (.take 43 (.take 44 (.known 44 true (.skip 45 (.skip 46 (.skip 47 (.skip 48 (.skip 49 (.skip 50 (.skip 51 (.skip 52 (.take 53 .stop)))))))))))))))))))))))))) (.take 29 (.take 30 (.take 31 (.take 32 (.take 35 (.take 36 (.take 37 (.load 33 (.take 34 (.alt 38 (.take 39 (.alt 40 (.alt 41 (.take 42 (.take 43 (.take 44 (.split 44 (.skip 45 (.skip 46 (.skip 47 (.skip 48 (.skip 49 (.skip 50 (.skip 51 (.skip 52 (.take 53 .stop))))))))) (.take 45 (.take 46 (.take 47 (.take 48 (.take 49 (.take 50 (.alt 51 (.take 52 (.take 53 .stop)) .stop))))))))))) .stop) .stop)) .stop)))))))))))))) .stop)))))) .stop)))))))))))))))) .stop)))))))))) .leaf) .leaf)))))))))) [a0, a1, a2, a3] h K = p_ref1_GetRecord S G a0 a1 a2 a3 h K := by kernel_rfl
theorem c_ref1_GetRecord {R : Adts A} {h : AHeap A} {K : AVal → AHeap A → Prop} {a0 a1 a2 a3 : AVal} (hk : p_ref1_GetRecord (Tri Pr R) (Gives Pr R) a0 a1 a2 a3 h K) : Tri Pr R n_ref1_GetRecord [a0, a1, a2, a3] h K :=
  tri_of_funP (by kernel_rfl) (fun _ _ _ _ h => h) (fun _ _ _ _ h => h) Tryz.func54 (by rw [q_ref1_GetRecord]; exact hk)
/-- (*bastion/journal.Journal).written$1 -/
def p_journal_Journal_written_c1 (S : FuncId → List AVal → AHeap A → (AVal → AHeap A → Prop) → Prop) (G : Nat → AHeap A → List AVal → (List AVal → AHeap A → Prop) → Prop) (a0 : AVal) (h : AHeap A) (K : AVal → AHeap A → Prop) : Prop :=
 boxP t_api_Event 8 a0 h fun v1 h =>
 ldP 8 true v1 h fun v2 =>
 S n_event_May [v2] h fun v3 h =>
 notP v3 fun v4 =>
 K v4 h
theorem q_journal_Journal_written_c1 (S : FuncId → List AVal → AHeap A → (AVal → AHeap A → Prop) → Prop) (G : Nat → AHeap A → List AVal → (List AVal → AHeap A → Prop) → Prop) (a0 : AVal) (h : AHeap A) (K : AVal → AHeap A → Prop) : funP Tryz.prog S G Tryz.f55 .leaf [a0] h K = p_journal_Journal_written_c1 S G a0 h K := by kernel_rfl
theorem c_journal_Journal_written_c1 {R : Adts A} {h : AHeap A} {K : AVal → AHeap A → Prop} {a0 : AVal} (hk : p_journal_Journal_written_c1 (Tri Pr R) (Gives Pr R) a0 h K) : Tri Pr R n_journal_Journal_written_c1 [a0] h K :=
  tri_of_funP (by kernel_rfl) (fun _ _ _ _ h => h) (fun _ _ _ _ h => h) Tryz.func55 (by rw [q_journal_Journal_written_c1]; exact hk)
/-- bastion/event.May -/
def p_event_May (S : FuncId → List AVal → AHeap A → (AVal → AHeap A → Prop) → Prop) (G : Nat → AHeap A → List AVal → (List AVal → AHeap A → Prop) → Prop) (a0 : AVal) (h : AHeap A) (K : AVal → AHeap A → Prop) : Prop :=
 boxP t_api_Event 8 a0 h fun v1 h =>
 fadP 0 v1 fun v2 =>
 ldP 1 false v2 h fun v3 =>
 binP .lss .other v3 (.int .i64 0) fun v4 =>
 condP v4 false (fun k5 =>
 fadP 0 v1 fun v6 =>
 ldP 1 false v6 h fun v7 =>
 binP .gtr .other v7 (.int .i64 9) fun v8 =>
 k5 v8 h)
 (.bool true) h fun v9 h =>
 condP v9 false (fun k10 =>
 fadP 0 v1 fun v11 =>
 ldP 1 false v11 h fun v12 =>
 binP .eql .other v12 (.int .i64 6) fun v13 =>
 condP v13 true (fun k14 =>
 fadP 5 v1 fun v15 =>
 ldP 1 false v15 h fun v16 =>
 binP .gtr .other v16 (.int .i64 4) fun v17 =>
 k14 v17 h)
 (.bool false) h fun v18 h =>
 k10 v18 h)
 (.bool true) h fun v19 h =>
 iteP v19
 (K (.bool false) h)
 (S n_event_parts [v1] h fun v20 h =>
 lenP v20 fun v21 =>
 loopP G (fun v50 h k23 =>
 (fun v22 =>
 binP .lss .other v22 v21 fun v24 =>
 iteP v24
 (idxP 1 v20 v22 fun v25 =>
 ldP 1 false v25 h fun v26 =>
 nilP v26 fun v27 =>
 ldP 1 false v27 h fun v28 =>
 S n_field_NumMay [v28] h fun v29 h =>
 notP v29 fun v30 =>
 iteP v30
 (K (.bool false) h)
 (binP .add .other v22 (.int .i64 1) fun v31 =>
 k23 [v31] h))
 (joinP G h.length (fun k32 =>
 fadP 1 v1 fun v33 =>
 ldP 1 false v33 h fun v34 =>
 binP .lss .other v34 (.int .i64 8) fun v35 =>
 iteP v35
 (fadP 3 v1 fun v36 =>
 ldP 1 false v36 h fun v37 =>
 binP .lss .other v37 (.int .i64 16) fun v38 =>
 iteP v38
 (fadP 7 v1 fun v39 =>
 ldP 1 false v39 h fun v40 =>
 binP .leq .other v40 (.int .i64 1048575) fun v41 =>
 iteP v41
 (fadP 6 v1 fun v42 =>
 ldP 1 false v42 h fun v43 =>
 binP .leq .other v43 (.int .i64 1048576) fun v44 =>
 iteP v44
 (ldP 8 true v1 h fun v45 =>
 S n_event_plain [v1] h fun v46 h =>
 ldV 8 true v1 h = some v45 ∧
 binP .eql (.shape (.st [(0, 1, .i), (1, 1, .i), (2, 1, .i), (3, 1, .i), (4, 1, .i), (5, 1, .i), (6, 1, .i), (7, 1, .i)])) v45 v46 fun v47 =>
 k32 [v47] h)
 (k32 [.bool false] h))
 (k32 [.bool false] h))
 (k32 [.bool false] h))
 (k32 [.bool false] h))
 (fun v49 h =>
 (fun v48 =>
 K v48 h) (v49.getD 0 .any)))) (v50.getD 0 .any)) [.int .i64 0] h)
theorem q_event_May (S : FuncId → List AVal → AHeap A → (AVal → AHeap A → Prop) → Prop) (G : Nat → AHeap A → List AVal → (List AVal → AHeap A → Prop) → Prop) (a0 : AVal) (h : AHeap A) (K : AVal → AHeap A → Prop) : funP Tryz.prog S G Tryz.f56 (.two none .leaf (.two none .leaf (.two none (.two none .leaf (.one [] (.one [25] .leaf))) (.two none (.draw (some [2]) (.take 0 (.alt 1 (.take 2 (.take 3 (.split 3 (.take 4 (.alt 5 (.take 6 (.take 7 (.take 8 (.split 8 (.take 9 (.alt 10 (.take 11 (.take 12 (.take 13 (.split 13 (.take 14 (.alt 15 (.take 16 (.take 17 (.take 18 (.split 18 (.load 19 (.alt 20 (.take 21 (.take 22 (.take 23 .stop))) .stop)) (.skip 19 (.skip 20 (.skip 21 (.take 22 (.take 23 .stop))))))))) .stop)) (.skip 14 (.skip 15 (.skip 16 (.take 17 (.take 18 (.known 18 false (.skip 19 (.skip 20 (.skip 21 (.take 22 (.take 23 .stop))))))))))))))) .stop)) (.skip 9 (.skip 10 (.skip 11 (.take 12 (.take 13 (.known 13 false (.skip 14 (.skip 15 (.skip 16 (.take 17 (.take 18 (.known 18 false (.skip 19 (.skip 20 (.skip 21 (.take 22 (.take 23 .stop))))))))))))))))))))) .stop)) (.skip 4 (.skip 5 (.skip 6 (.take 7 (.take 8 (.known 8 false (.skip 9 (.skip 10 (.skip 11 (.take 12 (.take 13 (.known 13 false (.skip 14 (.skip 15 (.skip 16 (.take 17 (.take 18 (.known 18 false (.skip 19 (.skip 20 (.skip 21 (.take 22 (.take 23 .stop)))))))))))))))))))))))))) .stop))) .leaf)))) [a0] h K = p_event_May S G a0 h K := by kernel_rfl
theorem c_event_May {R : Adts A} {h : AHeap A} {K : AVal → AHeap A → Prop} {a0 : AVal} (hk : p_event_May (Tri Pr R) (Gives Pr R) a0 h K) : Tri Pr R n_event_May [a0] h K :=
  tri_of_funP (by kernel_rfl) (fun _ _ _ _ h => h) (fun _ _ _ _ h => h) Tryz.func56 (by rw [q_event_May]; exact hk)
/-- slices.ContainsFunc[[]bastion/api.Event,bastion/api.Event] -/
def p_slices_ContainsFunc_api_Event (S : FuncId → List AVal → AHeap A → (AVal → AHeap A → Prop) → Prop) (G : Nat → AHeap A → List AVal → (List AVal → AHeap A → Prop) → Prop) (a0 a1 : AVal) (h : AHeap A) (K : AVal → AHeap A → Prop) : Prop :=
 S n_slices_IndexFunc_api_Event [a0, a1] h fun v1 h =>
 binP .geq .other v1 (.int .i64 0) fun v2 =>
 K v2 h
theorem q_slices_ContainsFunc_api_Event (S : FuncId → List AVal → AHeap A → (AVal → AHeap A → Prop) → Prop) (G : Nat → AHeap A → List AVal → (List AVal → AHeap A → Prop) → Prop) (a0 a1 : AVal) (h : AHeap A) (K : AVal → AHeap A → Prop) : funP Tryz.prog S G Tryz.f57 .leaf [a0, a1] h K = p_slices_ContainsFunc_api_Event S G a0 a1 h K := by kernel_rfl
theorem c_slices_ContainsFunc_api_Event {R : Adts A} {h : AHeap A} {K : AVal → AHeap A → Prop} {a0 a1 : AVal} (hk : p_slices_ContainsFunc_api_Event (Tri Pr R) (Gives Pr R) a0 a1 h K) : Tri Pr R n_slices_ContainsFunc_api_Event [a0, a1] h K :=
  tri_of_funP (by kernel_rfl) (fun _ _ _ _ h => h) (fun _ _ _ _ h => h) Tryz.func57 (by rw [q_slices_ContainsFunc_api_Event]; exact hk)
/-- bastion/record.Put -/
def p_record_Put (S : FuncId → List AVal → AHeap A → (AVal → AHeap A → Prop) → Prop) (G : Nat → AHeap A → List AVal → (List AVal → AHeap A → Prop) → Prop) (a0 a1 : AVal) (h : AHeap A) (K : AVal → AHeap A → Prop) : Prop :=
 boxP t_api_Record 11 a1 h fun v1 h =>
 binP .eql .ptr a0 .nilp fun v2 =>
 iteP v2
 (K (.tup [.str [], .int .i64 0, .int .i64 1]) h)
 (S n_record_body [v1] h fun v3 h =>
 extP v3 0 fun v4 =>
 extP v3 1 fun v5 =>
 notP v5 fun v6 =>
 iteP v6
 (K (.tup [.str [], .int .i64 0, .int .i64 900]) h)
 (binP .add .other (.str [114, 101, 99, 111, 114, 100]) v4 fun v7 =>
 S n_craft_Hash [a0, v7] h fun v8 h =>
 extP v8 0 fun v9 =>
 extP v8 1 fun v10 =>
 binP .neq .other v10 (.int .i64 0) fun v11 =>
 iteP v11
 (K (.tup [.str [], .int .i64 0, .int .i64 900]) h)
 (S n_field_Num [v9] h fun v12 h =>
 extP v12 0 fun v13 =>
 extP v12 1 fun v14 =>
 binP .add .other v4 v13 fun v15 =>
 S n_record_Fill [v15] h fun v16 h =>
 extP v16 0 fun v17 =>
 extP v16 1 fun v18 =>
 notP v18 fun v19 =>
 iteP v19
 (K (.tup [.str [], .int .i64 0, .int .i64 900]) h)
 (K (.tup [v17, v9, .int .i64 0]) h))))
theorem q_record_Put (S : FuncId → List AVal → AHeap A → (AVal → AHeap A → Prop) → Prop) (G : Nat → AHeap A → List AVal → (List AVal → AHeap A → Prop) → Prop) (a0 a1 : AVal) (h : AHeap A) (K : AVal → AHeap A → Prop) : funP Tryz.prog S G Tryz.f58 .leaf [a0, a1] h K = p_record_Put S G a0 a1 h K := by kernel_rfl
theorem c_record_Put {R : Adts A} {h : AHeap A} {K : AVal → AHeap A → Prop} {a0 a1 : AVal} (hk : p_record_Put (Tri Pr R) (Gives Pr R) a0 a1 h K) : Tri Pr R n_record_Put [a0, a1] h K :=
  tri_of_funP (by kernel_rfl) (fun _ _ _ _ h => h) (fun _ _ _ _ h => h) Tryz.func58 (by rw [q_record_Put]; exact hk)
/-- bastion/bastionref1.EventMay -/
def p_ref1_EventMay (S : FuncId → List AVal → AHeap A → (AVal → AHeap A → Prop) → Prop) (G : Nat → AHeap A → List AVal → (List AVal → AHeap A → Prop) → Prop) (a0 : AVal) (h : AHeap A) (K : AVal → AHeap A → Prop) : Prop :=
 boxP t_api_Event 8 a0 h fun v1 h =>
 ldP 8 true v1 h fun v2 =>
 S n_ref1_part [v2] h fun v3 h =>
 extP v3 0 fun v4 =>
 extP v3 1 fun v5 =>
 newP t_api_Event [.int .i64 0, .int .i64 0, .int .i64 0, .int .i64 0, .int .i64 0, .int .i64 0, .int .i64 0, .int .i64 0] h fun v6 h =>
 stP 8 v6 v4 h fun h =>
 notP v5 fun v7 =>
 condP v7 false (fun k8 =>
 ldP 8 true v6 h fun v9 =>
 ldP 8 true v1 h fun v10 =>
 binP .neq (.shape (.st [(0, 1, .i), (1, 1, .i), (2, 1, .i), (3, 1, .i), (4, 1, .i), (5, 1, .i), (6, 1, .i), (7, 1, .i)])) v9 v10 fun v11 =>
 k8 v11 h)
 (.bool true) h fun v12 h =>
 condP v12 false (fun k13 =>
 fadP 1 v1 fun v14 =>
 ldP 1 false v14 h fun v15 =>
 binP .lss .other v15 (.int .i64 0) fun v16 =>
 k13 v16 h)
 (.bool true) h fun v17 h =>
 condP v17 false (fun k18 =>
 fadP 1 v1 fun v19 =>
 ldP 1 false v19 h fun v20 =>
 binP .geq .other v20 (.int .i64 8) fun v21 =>
 k18 v21 h)
 (.bool true) h fun v22 h =>
 condP v22 false (fun k23 =>
 fadP 3 v1 fun v24 =>
 ldP 1 false v24 h fun v25 =>
 binP .lss .other v25 (.int .i64 0) fun v26 =>
 k23 v26 h)
 (.bool true) h fun v27 h =>
 condP v27 false (fun k28 =>
 fadP 3 v1 fun v29 =>
 ldP 1 false v29 h fun v30 =>
 binP .geq .other v30 (.int .i64 16) fun v31 =>
 k28 v31 h)
 (.bool true) h fun v32 h =>
 condP v32 false (fun k33 =>
 fadP 7 v1 fun v34 =>
 ldP 1 false v34 h fun v35 =>
 binP .lss .other v35 (.int .i64 0) fun v36 =>
 k33 v36 h)
 (.bool true) h fun v37 h =>
 condP v37 false (fun k38 =>
 fadP 7 v1 fun v39 =>
 ldP 1 false v39 h fun v40 =>
 binP .gtr .other v40 (.int .i64 1048575) fun v41 =>
 k38 v41 h)
 (.bool true) h fun v42 h =>
 condP v42 false (fun k43 =>
 fadP 2 v1 fun v44 =>
 ldP 1 false v44 h fun v45 =>
 S n_ref1_num [v45] h fun v46 h =>
 notP v46 fun v47 =>
 k43 v47 h)
 (.bool true) h fun v48 h =>
 condP v48 false (fun k49 =>
 fadP 4 v1 fun v50 =>
 ldP 1 false v50 h fun v51 =>
 S n_ref1_num [v51] h fun v52 h =>
 notP v52 fun v53 =>
 k49 v53 h)
 (.bool true) h fun v54 h =>
 condP v54 false (fun k55 =>
 fadP 5 v1 fun v56 =>
 ldP 1 false v56 h fun v57 =>
 S n_ref1_num [v57] h fun v58 h =>
 notP v58 fun v59 =>
 k55 v59 h)
 (.bool true) h fun v60 h =>
 condP v60 false (fun k61 =>
 fadP 6 v1 fun v62 =>
 ldP 1 false v62 h fun v63 =>
 binP .lss .other v63 (.int .i64 0) fun v64 =>
 k61 v64 h)
 (.bool true) h fun v65 h =>
 condP v65 false (fun k66 =>
 fadP 6 v1 fun v67 =>
 ldP 1 false v67 h fun v68 =>
 binP .gtr .other v68 (.int .i64 1048576) fun v69 =>
 k66 v69 h)
 (.bool true) h fun v70 h =>
 iteP v70
 (K (.bool false) h)
 (fadP 0 v1 fun v71 =>
 ldP 1 false v71 h fun v72 =>
 binP .neq .other v72 (.int .i64 6) fun v73 =>
 condP v73 false (fun k74 =>
 fadP 5 v1 fun v75 =>
 ldP 1 false v75 h fun v76 =>
 binP .leq .other v76 (.int .i64 4) fun v77 =>
 k74 v77 h)
 (.bool true) h fun v78 h =>
 K v78 h)
theorem q_ref1_EventMay (S : FuncId → List AVal → AHeap A → (AVal → AHeap A → Prop) → Prop) (G : Nat → AHeap A → List AVal → (List AVal → AHeap A → Prop) → Prop) (a0 : AVal) (h : AHeap A) (K : AVal → AHeap A → Prop) : funP Tryz.prog S G Tryz.f59 .leaf [a0] h K = p_ref1_EventMay S G a0 h K := by kernel_rfl
theorem c_ref1_EventMay {R : Adts A} {h : AHeap A} {K : AVal → AHeap A → Prop} {a0 : AVal} (hk : p_ref1_EventMay (Tri Pr R) (Gives Pr R) a0 h K) : Tri Pr R n_ref1_EventMay [a0] h K :=
  tri_of_funP (by kernel_rfl) (fun _ _ _ _ h => h) (fun _ _ _ _ h => h) Tryz.func59 (by rw [q_ref1_EventMay]; exact hk)
/-- bastion/bastionref1.PutRecord -/
def p_ref1_PutRecord (S : FuncId → List AVal → AHeap A → (AVal → AHeap A → Prop) → Prop) (G : Nat → AHeap A → List AVal → (List AVal → AHeap A → Prop) → Prop) (a0 a1 : AVal) (h : AHeap A) (K : AVal → AHeap A → Prop) : Prop :=
 boxP t_api_Record 11 a1 h fun v1 h =>
 fadP 3 v1 fun v2 =>
 ldP 8 true v2 h fun v3 =>
 S n_ref1_PutEvent [v3] h fun v4 h =>
 extP v4 0 fun v5 =>
 extP v4 1 fun v6 =>
 fadP 0 v1 fun v7 =>
 ldP 1 false v7 h fun v8 =>
 binP .lss .other v8 (.int .i64 1) fun v9 =>
 condP v9 false (fun k10 =>
 fadP 0 v1 fun v11 =>
 ldP 1 false v11 h fun v12 =>
 S n_ref1_num [v12] h fun v13 h =>
 notP v13 fun v14 =>
 k10 v14 h)
 (.bool true) h fun v15 h =>
 condP v15 false (fun k16 =>
 fadP 1 v1 fun v17 =>
 ldP 1 false v17 h fun v18 =>
 binP .lss .other v18 (.int .i64 1) fun v19 =>
 k16 v19 h)
 (.bool true) h fun v20 h =>
 condP v20 false (fun k21 =>
 fadP 1 v1 fun v22 =>
 ldP 1 false v22 h fun v23 =>
 S n_ref1_num [v23] h fun v24 h =>
 notP v24 fun v25 =>
 k21 v25 h)
 (.bool true) h fun v26 h =>
 condP v26 false (fun k27 =>
 fadP 2 v1 fun v28 =>
 ldP 1 false v28 h fun v29 =>
 S n_ref1_num [v29] h fun v30 h =>
 notP v30 fun v31 =>
 k27 v31 h)
 (.bool true) h fun v32 h =>
 condP v32 false (fun k33 =>
 binP .neq .other v6 (.int .i64 0) fun v34 =>
 k33 v34 h)
 (.bool true) h fun v35 h =>
 condP v35 false (fun k36 =>
 lnsP v5 fun v37 =>
 binP .gtr .other v37 (.int .i64 44) fun v38 =>
 k36 v38 h)
 (.bool true) h fun v39 h =>
 iteP v39
 (K (.tup [.str [], .int .i64 0, .int .i64 900]) h)
 (S n_ref1_Text [v5] h fun v40 h =>
 extP v40 0 fun v41 =>
 extP v40 1 fun v42 =>
 fadP 0 v1 fun v43 =>
 ldP 1 false v43 h fun v44 =>
 fadP 1 v1 fun v45 =>
 ldP 1 false v45 h fun v46 =>
 fadP 2 v1 fun v47 =>
 ldP 1 false v47 h fun v48 =>
 bslP t_int 3 [.int .i64 0, .int .i64 0, .int .i64 0] [(0, 1, v44), (1, 1, v46), (2, 1, v48)] h fun v49 h =>
 S n_ref1_Nums [v49] h fun v50 h =>
 binP .add .other v50 v41 fun v51 =>
 binP .add .other (.str [114, 101, 99, 111, 114, 100]) v51 fun v52 =>
 S n_ref1_Hash [a0, v52] h fun v53 h =>
 extP v53 0 fun v54 =>
 extP v53 1 fun v55 =>
 binP .neq .other v55 (.int .i64 0) fun v56 =>
 iteP v56
 (K (.tup [.str [], .int .i64 0, .int .i64 900]) h)
 (bslP t_int 1 [.int .i64 0] [(0, 1, v54)] h fun v57 h =>
 S n_ref1_Nums [v57] h fun v58 h =>
 binP .add .other v51 v58 fun v59 =>
 lnsP v59 fun v60 =>
 binP .gtr .other v60 (.int .i64 64) fun v61 =>
 iteP v61
 (K (.tup [.str [], .int .i64 0, .int .i64 900]) h)
 (S n_ref1_sector [v59] h fun v62 h =>
 K (.tup [v62, v54, .int .i64 0]) h)))
theorem q_ref1_PutRecord (S : FuncId → List AVal → AHeap A → (AVal → AHeap A → Prop) → Prop) (G : Nat → AHeap A → List AVal → (List AVal → AHeap A → Prop) → Prop) (a0 a1 : AVal) (h : AHeap A) (K : AVal → AHeap A → Prop) : funP Tryz.prog S G Tryz.f60 .leaf [a0, a1] h K = p_ref1_PutRecord S G a0 a1 h K := by kernel_rfl
theorem c_ref1_PutRecord {R : Adts A} {h : AHeap A} {K : AVal → AHeap A → Prop} {a0 a1 : AVal} (hk : p_ref1_PutRecord (Tri Pr R) (Gives Pr R) a0 a1 h K) : Tri Pr R n_ref1_PutRecord [a0, a1] h K :=
  tri_of_funP (by kernel_rfl) (fun _ _ _ _ h => h) (fun _ _ _ _ h => h) Tryz.func60 (by rw [q_ref1_PutRecord]; exact hk)
/-- (*bastion/disk.Disk).Read -/
def p_disk_Disk_Read (S : FuncId → List AVal → AHeap A → (AVal → AHeap A → Prop) → Prop) (G : Nat → AHeap A → List AVal → (List AVal → AHeap A → Prop) → Prop) (a0 a1 : AVal) (h : AHeap A) (K : AVal → AHeap A → Prop) : Prop :=
 binP .eql .ptr a0 .nilp fun v1 =>
 iteP v1
 (K (.tup [.str [], .int .i64 1]) h)
 (nilP a0 fun v2 =>
 fadP 2 v2 fun v3 =>
 ldP 1 false v3 h fun v4 =>
 iteP v4
 (K (.tup [.str [], .int .i64 801]) h)
 (S n_disk_Disk_there [a0, a1] h fun v5 h =>
 notP v5 fun v6 =>
 iteP v6
 (K (.tup [.str [], .int .i64 800]) h)
 (nilP a0 fun v7 =>
 fadP 0 v7 fun v8 =>
 ldP 1 false v8 h fun v9 =>
 idxP 1 v9 a1 fun v10 =>
 ldP 1 false v10 h fun v11 =>
 nilP a0 fun v12 =>
 fadP 1 v12 fun v13 =>
 ldP 1 false v13 h fun v14 =>
 lenP v14 fun v15 =>
 loopP G (fun v32 h k18 =>
 (fun v16 v17 =>
 binP .lss .other v17 v15 fun v19 =>
 iteP v19
 (joinP G h.length (fun k20 =>
 idxP 2 v14 v17 fun v21 =>
 ldP 2 true v21 h fun v22 =>
 newP t_disk_write [.int .i64 0, .str []] h fun v23 h =>
 stP 2 v23 v22 h fun h =>
 fadP 0 v23 fun v24 =>
 ldP 1 false v24 h fun v25 =>
 binP .eql .other v25 a1 fun v26 =>
 iteP v26
 (fadP 1 v23 fun v27 =>
 ldP 1 false v27 h fun v28 =>
 k20 [v28] h)
 (k20 [v16] h))
 (fun v31 h =>
 (fun v29 =>
 binP .add .other v17 (.int .i64 1) fun v30 =>
 k18 [v29, v30] h) (v31.getD 0 .any)))
 (K (.tup [v16, .int .i64 0]) h)) (v32.getD 0 .any) (v32.getD 1 .any)) [v11, .int .i64 0] h)))
theorem q_disk_Disk_Read (S : FuncId → List AVal → AHeap A → (AVal → AHeap A → Prop) → Prop) (G : Nat → AHeap A → List AVal → (List AVal → AHeap A → Prop) → Prop) (a0 a1 : AVal) (h : AHeap A) (K : AVal → AHeap A → Prop) : funP Tryz.prog S G Tryz.f61 (.two none .leaf (.two none .leaf (.two none .leaf (.two none (.two none .leaf (.one [] (.one [6, 34] (.two none .leaf (.two none .leaf (.two (some [6]) .leaf .leaf)))))) .leaf)))) [a0, a1] h K = p_disk_Disk_Read S G a0 a1 h K := by kernel_rfl
theorem c_disk_Disk_Read {R : Adts A} {h : AHeap A} {K : AVal → AHeap A → Prop} {a0 a1 : AVal} (hk : p_disk_Disk_Read (Tri Pr R) (Gives Pr R) a0 a1 h K) : Tri Pr R n_disk_Disk_Read [a0, a1] h K :=
  tri_of_funP (by kernel_rfl) (fun _ _ _ _ h => h) (fun _ _ _ _ h => h) Tryz.func61 (by rw [q_disk_Disk_Read]; exact hk)
/-- bastion/super.Pick -/
def p_super_Pick (S : FuncId → List AVal → AHeap A → (AVal → AHeap A → Prop) → Prop) (G : Nat → AHeap A → List AVal → (List AVal → AHeap A → Prop) → Prop) (a0 a1 a2 : AVal) (h : AHeap A) (K : AVal → AHeap A → Prop) : Prop :=
 binP .eql .ptr a0 .nilp fun v1 =>
 iteP v1
 (K (.tup [.int .i64 0, .int .i64 0, .int .i64 1]) h)
 (S n_super_Get [a0, a1] h fun v2 h =>
 extP v2 0 fun v3 =>
 extP v2 1 fun v4 =>
 S n_super_Get [a0, a2] h fun v5 h =>
 extP v5 0 fun v6 =>
 extP v5 1 fun v7 =>
 binP .neq .other v4 (.int .i64 0) fun v8 =>
 condP v8 true (fun k9 =>
 binP .neq .other v7 (.int .i64 0) fun v10 =>
 k9 v10 h)
 (.bool false) h fun v11 h =>
 iteP v11
 (K (.tup [.int .i64 0, .int .i64 0, .int .i64 1001]) h)
 (binP .eql .other v4 (.int .i64 0) fun v12 =>
 condP v12 true (fun k13 =>
 binP .geq .other v3 v6 fun v14 =>
 k13 v14 h)
 (.bool false) h fun v15 h =>
 iteP v15
 (K (.tup [v3, .int .i64 1, .int .i64 0]) h)
 (K (.tup [v6, .int .i64 0, .int .i64 0]) h)))
theorem q_super_Pick (S : FuncId → List AVal → AHeap A → (AVal → AHeap A → Prop) → Prop) (G : Nat → AHeap A → List AVal → (List AVal → AHeap A → Prop) → Prop) (a0 a1 a2 : AVal) (h : AHeap A) (K : AVal → AHeap A → Prop) : funP Tryz.prog S G Tryz.f62 .leaf [a0, a1, a2] h K = p_super_Pick S G a0 a1 a2 h K := by kernel_rfl
theorem c_super_Pick {R : Adts A} {h : AHeap A} {K : AVal → AHeap A → Prop} {a0 a1 a2 : AVal} (hk : p_super_Pick (Tri Pr R) (Gives Pr R) a0 a1 a2 h K) : Tri Pr R n_super_Pick [a0, a1, a2] h K :=
  tri_of_funP (by kernel_rfl) (fun _ _ _ _ h => h) (fun _ _ _ _ h => h) Tryz.func62 (by rw [q_super_Pick]; exact hk)
/-- bastion/super.Put -/
def p_super_Put (S : FuncId → List AVal → AHeap A → (AVal → AHeap A → Prop) → Prop) (G : Nat → AHeap A → List AVal → (List AVal → AHeap A → Prop) → Prop) (a0 a1 : AVal) (h : AHeap A) (K : AVal → AHeap A → Prop) : Prop :=
 binP .eql .ptr a0 .nilp fun v1 =>
 iteP v1
 (K (.tup [.str [], .int .i64 1]) h)
 (S n_super_may [a1] h fun v2 h =>
 notP v2 fun v3 =>
 iteP v3
 (K (.tup [.str [], .int .i64 1000]) h)
 (S n_field_Num [a1] h fun v4 h =>
 extP v4 0 fun v5 =>
 extP v4 1 fun v6 =>
 binP .add .other (.str [115, 117, 112, 101, 114]) v5 fun v7 =>
 S n_craft_Hash [a0, v7] h fun v8 h =>
 extP v8 0 fun v9 =>
 extP v8 1 fun v10 =>
 binP .neq .other v10 (.int .i64 0) fun v11 =>
 iteP v11
 (K (.tup [.str [], .int .i64 1000]) h)
 (S n_field_Num [v9] h fun v12 h =>
 extP v12 0 fun v13 =>
 extP v12 1 fun v14 =>
 binP .add .other v5 v13 fun v15 =>
 S n_record_Fill [v15] h fun v16 h =>
 extP v16 0 fun v17 =>
 extP v16 1 fun v18 =>
 K (.tup [v17, .int .i64 0]) h)))
theorem q_super_Put (S : FuncId → List AVal → AHeap A → (AVal → AHeap A → Prop) → Prop) (G : Nat → AHeap A → List AVal → (List AVal → AHeap A → Prop) → Prop) (a0 a1 : AVal) (h : AHeap A) (K : AVal → AHeap A → Prop) : funP Tryz.prog S G Tryz.f63 .leaf [a0, a1] h K = p_super_Put S G a0 a1 h K := by kernel_rfl
theorem c_super_Put {R : Adts A} {h : AHeap A} {K : AVal → AHeap A → Prop} {a0 a1 : AVal} (hk : p_super_Put (Tri Pr R) (Gives Pr R) a0 a1 h K) : Tri Pr R n_super_Put [a0, a1] h K :=
  tri_of_funP (by kernel_rfl) (fun _ _ _ _ h => h) (fun _ _ _ _ h => h) Tryz.func63 (by rw [q_super_Put]; exact hk)
/-- bastion/record.Get -/
def p_record_Get (S : FuncId → List AVal → AHeap A → (AVal → AHeap A → Prop) → Prop) (G : Nat → AHeap A → List AVal → (List AVal → AHeap A → Prop) → Prop) (a0 a1 a2 a3 : AVal) (h : AHeap A) (K : AVal → AHeap A → Prop) : Prop :=
 newP t_api_Record (reps 11 (.int .i64 0)) h fun v1 h =>
 binP .eql .ptr a0 .nilp fun v2 =>
 iteP v2
 (bldP [.int .i64 0, .int .i64 0, .int .i64 0, .int .i64 0, .int .i64 0, .int .i64 0, .int .i64 0, .int .i64 0, .int .i64 0, .int .i64 0, .int .i64 0] [] fun v3 =>
 stP 11 v1 v3 h fun h =>
 ldP 11 true v1 h fun v4 =>
 K (.tup [v4, .int .i64 0, .int .i64 1]) h)
 (S n_record_read [a0, a1] h fun v5 h =>
 extP v5 0 fun v6 =>
 extP v5 1 fun v7 =>
 extP v5 2 fun v8 =>
 newP t_api_Record (reps 11 (.int .i64 0)) h fun v9 h =>
 stP 11 v9 v6 h fun h =>
 notP v8 fun v10 =>
 iteP v10
 (bldP [.int .i64 0, .int .i64 0, .int .i64 0, .int .i64 0, .int .i64 0, .int .i64 0, .int .i64 0, .int .i64 0, .int .i64 0, .int .i64 0, .int .i64 0] [] fun v11 =>
 stP 11 v1 v11 h fun h =>
 ldP 11 true v1 h fun v12 =>
 K (.tup [v12, .int .i64 0, .int .i64 900]) h)
 (fadP 0 v9 fun v13 =>
 ldP 1 false v13 h fun v14 =>
 binP .neq .other v14 a2 fun v15 =>
 condP v15 false (fun k16 =>
 fadP 2 v9 fun v17 =>
 ldP 1 false v17 h fun v18 =>
 binP .neq .other v18 a3 fun v19 =>
 k16 v19 h)
 (.bool true) h fun v20 h =>
 iteP v20
 (bldP [.int .i64 0, .int .i64 0, .int .i64 0, .int .i64 0, .int .i64 0, .int .i64 0, .int .i64 0, .int .i64 0, .int .i64 0, .int .i64 0, .int .i64 0] [] fun v21 =>
 stP 11 v1 v21 h fun h =>
 ldP 11 true v1 h fun v22 =>
 K (.tup [v22, .int .i64 0, .int .i64 901]) h)
 (ldP 11 true v9 h fun v23 =>
 stP 11 v1 v23 h fun h =>
 ldP 11 true v1 h fun v24 =>
 K (.tup [v24, v7, .int .i64 0]) h)))
theorem q_record_Get (S : FuncId → List AVal → AHeap A → (AVal → AHeap A → Prop) → Prop) (G : Nat → AHeap A → List AVal → (List AVal → AHeap A → Prop) → Prop) (a0 a1 a2 a3 : AVal) (h : AHeap A) (K : AVal → AHeap A → Prop) : funP Tryz.prog S G Tryz.f66 .leaf [a0, a1, a2, a3] h K = p_record_Get S G a0 a1 a2 a3 h K := by kernel_rfl
theorem c_record_Get {R : Adts A} {h : AHeap A} {K : AVal → AHeap A → Prop} {a0 a1 a2 a3 : AVal} (hk : p_record_Get (Tri Pr R) (Gives Pr R) a0 a1 a2 a3 h K) : Tri Pr R n_record_Get [a0, a1, a2, a3] h K :=
  tri_of_funP (by kernel_rfl) (fun _ _ _ _ h => h) (fun _ _ _ _ h => h) Tryz.func66 (by rw [q_record_Get]; exact hk)
end Go.AI
