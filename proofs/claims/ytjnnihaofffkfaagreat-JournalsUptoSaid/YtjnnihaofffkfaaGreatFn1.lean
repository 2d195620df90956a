/- The functions as texts over the abstract heap. -/
import Derived.Test.YtjnnihaofffkfaaGreatNm
import Derived.KernelRfl
set_option linter.all false
namespace Go.AI
open Go.Proofs
set_option maxRecDepth 1000000
variable {A : Type}
/-- bastion/bastionlaw0.KeptEvents -/
def p_law0_KeptEvents (S : FuncId → List AVal → AHeap A → (AVal → AHeap A → Prop) → Prop) (G : Nat → AHeap A → List AVal → (List AVal → AHeap A → Prop) → Prop) (a0 a1 : AVal) (h : AHeap A) (K : AVal → AHeap A → Prop) : Prop :=
 lenP a0 fun v1 =>
 binP .add .other v1 (.int .i64 2) fun v2 =>
 rslP 8 a0 none (some v2) none fun v3 =>
 S n_law0_SameEvents [a0, a1] h fun v4 h =>
 condP v4 true (fun k5 =>
 lenP a1 fun v6 =>
 idxP 8 v3 v6 fun v7 =>
 ldP 8 true v7 h fun v8 =>
 bldP [.int .i64 0, .int .i64 0, .int .i64 0, .int .i64 0, .int .i64 0, .int .i64 0, .int .i64 0, .int .i64 0] [(7, 1, .int .i64 77777)] fun v9 =>
 binP .eql (.shape (.st [(0, 1, .i), (1, 1, .i), (2, 1, .i), (3, 1, .i), (4, 1, .i), (5, 1, .i), (6, 1, .i), (7, 1, .i)])) v8 v9 fun v10 =>
 k5 v10 h)
 (.bool false) h fun v11 h =>
 condP v11 true (fun k12 =>
 lenP a1 fun v13 =>
 binP .add .other v13 (.int .i64 1) fun v14 =>
 idxP 8 v3 v14 fun v15 =>
 ldP 8 true v15 h fun v16 =>
 bldP [.int .i64 0, .int .i64 0, .int .i64 0, .int .i64 0, .int .i64 0, .int .i64 0, .int .i64 0, .int .i64 0] [(7, 1, .int .i64 77777)] fun v17 =>
 binP .eql (.shape (.st [(0, 1, .i), (1, 1, .i), (2, 1, .i), (3, 1, .i), (4, 1, .i), (5, 1, .i), (6, 1, .i), (7, 1, .i)])) v16 v17 fun v18 =>
 k12 v18 h)
 (.bool false) h fun v19 h =>
 K v19 h
theorem q_law0_KeptEvents (S : FuncId → List AVal → AHeap A → (AVal → AHeap A → Prop) → Prop) (G : Nat → AHeap A → List AVal → (List AVal → AHeap A → Prop) → Prop) (a0 a1 : AVal) (h : AHeap A) (K : AVal → AHeap A → Prop) : funP Tryz.prog S G Tryz.f21 .leaf [a0, a1] h K = p_law0_KeptEvents S G a0 a1 h K := by kernel_rfl
theorem c_law0_KeptEvents {R : Adts A} {h : AHeap A} {K : AVal → AHeap A → Prop} {a0 a1 : AVal} (hk : p_law0_KeptEvents (Tri Pr R) (Gives Pr R) a0 a1 h K) : Tri Pr R n_law0_KeptEvents [a0, a1] h K :=
  tri_of_funP (by kernel_rfl) (fun _ _ _ _ h => h) (fun _ _ _ _ h => h) Tryz.func21 (by rw [q_law0_KeptEvents]; exact hk)
/-- bastion/bastionlaw0.SameEvents -/
def p_law0_SameEvents (S : FuncId → List AVal → AHeap A → (AVal → AHeap A → Prop) → Prop) (G : Nat → AHeap A → List AVal → (List AVal → AHeap A → Prop) → Prop) (a0 a1 : AVal) (h : AHeap A) (K : AVal → AHeap A → Prop) : Prop :=
 lenP a0 fun v1 =>
 lenP a1 fun v2 =>
 binP .neq .other v1 v2 fun v3 =>
 iteP v3
 (K (.bool false) h)
 (loopP G (fun v14 h k5 =>
 (fun v4 =>
 lenP a0 fun v6 =>
 binP .lss .other v4 v6 fun v7 =>
 iteP v7
 (idxP 8 a0 v4 fun v8 =>
 idxP 8 a1 v4 fun v9 =>
 ldP 8 true v8 h fun v10 =>
 ldP 8 true v9 h fun v11 =>
 ldV 8 true v8 h = some v10 ∧
 binP .neq (.shape (.st [(0, 1, .i), (1, 1, .i), (2, 1, .i), (3, 1, .i), (4, 1, .i), (5, 1, .i), (6, 1, .i), (7, 1, .i)])) v10 v11 fun v12 =>
 iteP v12
 (K (.bool false) h)
 (binP .add .other v4 (.int .i64 1) fun v13 =>
 k5 [v13] h))
 (K (.bool true) h)) (v14.getD 0 .any)) [.int .i64 0] h)
theorem q_law0_SameEvents (S : FuncId → List AVal → AHeap A → (AVal → AHeap A → Prop) → Prop) (G : Nat → AHeap A → List AVal → (List AVal → AHeap A → Prop) → Prop) (a0 a1 : AVal) (h : AHeap A) (K : AVal → AHeap A → Prop) : funP Tryz.prog S G Tryz.f22 (.two none .leaf (.two none .leaf (.two none (.two none .leaf (.one [] (.one [5] (.two none .leaf (.two none (.one [] (.two none (.draw none (.take 0 (.take 1 (.take 2 (.take 4 (.take 5 (.take 6 (.load 3 (.alt 7 (.take 8 .stop) .stop))))))))) .leaf)) .leaf))))) .leaf))) [a0, a1] h K = p_law0_SameEvents S G a0 a1 h K := by kernel_rfl
theorem c_law0_SameEvents {R : Adts A} {h : AHeap A} {K : AVal → AHeap A → Prop} {a0 a1 : AVal} (hk : p_law0_SameEvents (Tri Pr R) (Gives Pr R) a0 a1 h K) : Tri Pr R n_law0_SameEvents [a0, a1] h K :=
  tri_of_funP (by kernel_rfl) (fun _ _ _ _ h => h) (fun _ _ _ _ h => h) Tryz.func22 (by rw [q_law0_SameEvents]; exact hk)
/-- (*bastion/journal.Journal).Boot -/
def p_journal_Journal_Boot (S : FuncId → List AVal → AHeap A → (AVal → AHeap A → Prop) → Prop) (G : Nat → AHeap A → List AVal → (List AVal → AHeap A → Prop) → Prop) (a0 : AVal) (h : AHeap A) (K : AVal → AHeap A → Prop) : Prop :=
 binP .eql .ptr a0 .nilp fun v1 =>
 iteP v1
 (K (.int .i64 0) h)
 (nilP a0 fun v2 =>
 fadP 2 v2 fun v3 =>
 ldP 1 false v3 h fun v4 =>
 K v4 h)
theorem q_journal_Journal_Boot (S : FuncId → List AVal → AHeap A → (AVal → AHeap A → Prop) → Prop) (G : Nat → AHeap A → List AVal → (List AVal → AHeap A → Prop) → Prop) (a0 : AVal) (h : AHeap A) (K : AVal → AHeap A → Prop) : funP Tryz.prog S G Tryz.f23 .leaf [a0] h K = p_journal_Journal_Boot S G a0 h K := by kernel_rfl
theorem c_journal_Journal_Boot {R : Adts A} {h : AHeap A} {K : AVal → AHeap A → Prop} {a0 : AVal} (hk : p_journal_Journal_Boot (Tri Pr R) (Gives Pr R) a0 h K) : Tri Pr R n_journal_Journal_Boot [a0] h K :=
  tri_of_funP (by kernel_rfl) (fun _ _ _ _ h => h) (fun _ _ _ _ h => h) Tryz.func23 (by rw [q_journal_Journal_Boot]; exact hk)
/-- (*bastion/journal.Journal).Room -/
def p_journal_Journal_Room (S : FuncId → List AVal → AHeap A → (AVal → AHeap A → Prop) → Prop) (G : Nat → AHeap A → List AVal → (List AVal → AHeap A → Prop) → Prop) (a0 : AVal) (h : AHeap A) (K : AVal → AHeap A → Prop) : Prop :=
 binP .eql .ptr a0 .nilp fun v1 =>
 iteP v1
 (K (.int .i64 0) h)
 (nilP a0 fun v2 =>
 fadP 1 v2 fun v3 =>
 nilP a0 fun v4 =>
 fadP 4 v4 fun v5 =>
 ldP 1 false v5 h fun v6 =>
 lenP v6 fun v7 =>
 ldP 1 false v3 h fun v8 =>
 ldV 1 false v5 h = some v6 ∧
 S n_disk_Disk_Size [v8] h fun v9 h =>
 ldV 1 false v5 h = some v6 ∧
 binP .sub .other v9 (.int .i64 2) fun v10 =>
 binP .sub .other v10 v7 fun v11 =>
 K v11 h)
theorem q_journal_Journal_Room (S : FuncId → List AVal → AHeap A → (AVal → AHeap A → Prop) → Prop) (G : Nat → AHeap A → List AVal → (List AVal → AHeap A → Prop) → Prop) (a0 : AVal) (h : AHeap A) (K : AVal → AHeap A → Prop) : funP Tryz.prog S G Tryz.f24 (.two none .leaf (.two none .leaf (.two none (.draw none (.take 0 (.take 1 (.take 2 (.take 6 (.take 7 (.take 8 (.load 9 (.take 10 (.alt 3 (.alt 4 (.take 5 (.take 11 (.take 12 .stop))) .stop) .stop)))))))))) .leaf))) [a0] h K = p_journal_Journal_Room S G a0 h K := by kernel_rfl
theorem c_journal_Journal_Room {R : Adts A} {h : AHeap A} {K : AVal → AHeap A → Prop} {a0 : AVal} (hk : p_journal_Journal_Room (Tri Pr R) (Gives Pr R) a0 h K) : Tri Pr R n_journal_Journal_Room [a0] h K :=
  tri_of_funP (by kernel_rfl) (fun _ _ _ _ h => h) (fun _ _ _ _ h => h) Tryz.func24 (by rw [q_journal_Journal_Room]; exact hk)
/-- (*bastion/bastionref1.Journal).Room -/
def p_ref1_Journal_Room (S : FuncId → List AVal → AHeap A → (AVal → AHeap A → Prop) → Prop) (G : Nat → AHeap A → List AVal → (List AVal → AHeap A → Prop) → Prop) (a0 : AVal) (h : AHeap A) (K : AVal → AHeap A → Prop) : Prop :=
 nilP a0 fun v1 =>
 fadP 1 v1 fun v2 =>
 nilP a0 fun v3 =>
 fadP 5 v3 fun v4 =>
 ldP 1 false v2 h fun v5 =>
 nilP v5 fun v6 =>
 fadP 0 v6 fun v7 =>
 ldP 1 false v7 h fun v8 =>
 lenP v8 fun v9 =>
 binP .sub .other v9 (.int .i64 2) fun v10 =>
 ldP 1 false v4 h fun v11 =>
 ldV 1 false v7 h = some v8 ∧
 ldV 1 false v2 h = some v5 ∧
 lenP v11 fun v12 =>
 binP .sub .other v10 v12 fun v13 =>
 K v13 h
theorem q_ref1_Journal_Room (S : FuncId → List AVal → AHeap A → (AVal → AHeap A → Prop) → Prop) (G : Nat → AHeap A → List AVal → (List AVal → AHeap A → Prop) → Prop) (a0 : AVal) (h : AHeap A) (K : AVal → AHeap A → Prop) : funP Tryz.prog S G Tryz.f25 (.two none .leaf (.two none (.draw none (.take 0 (.take 1 (.take 2 (.take 9 (.take 10 (.take 11 (.load 3 (.take 4 (.take 5 (.load 6 (.take 7 (.take 8 (.alt 12 (.take 13 (.take 14 (.take 15 .stop))) .stop)))))))))))))) .leaf)) [a0] h K = p_ref1_Journal_Room S G a0 h K := by kernel_rfl
theorem c_ref1_Journal_Room {R : Adts A} {h : AHeap A} {K : AVal → AHeap A → Prop} {a0 : AVal} (hk : p_ref1_Journal_Room (Tri Pr R) (Gives Pr R) a0 h K) : Tri Pr R n_ref1_Journal_Room [a0] h K :=
  tri_of_funP (by kernel_rfl) (fun _ _ _ _ h => h) (fun _ _ _ _ h => h) Tryz.func25 (by rw [q_ref1_Journal_Room]; exact hk)
/-- bastion/bastionlaw0.SpoilEvents -/
def p_law0_SpoilEvents (S : FuncId → List AVal → AHeap A → (AVal → AHeap A → Prop) → Prop) (G : Nat → AHeap A → List AVal → (List AVal → AHeap A → Prop) → Prop) (a0 : AVal) (h : AHeap A) (K : AVal → AHeap A → Prop) : Prop :=
 loopP G (fun v12 h k2 =>
 (fun v1 =>
 lenP a0 fun v3 =>
 binP .lss .other v1 v3 fun v4 =>
 iteP v4
 (idxP 8 a0 v1 fun v5 =>
 fadP 7 v5 fun v6 =>
 ldP 1 false v6 h fun v7 =>
 binP .xor .other v7 (.int .i64 90) fun v8 =>
 idxP 8 a0 v1 fun v9 =>
 fadP 7 v9 fun v10 =>
 stP 1 v10 v8 h fun h =>
 binP .add .other v1 (.int .i64 1) fun v11 =>
 k2 [v11] h)
 (K (.tup []) h)) (v12.getD 0 .any)) [.int .i64 0] h
theorem q_law0_SpoilEvents (S : FuncId → List AVal → AHeap A → (AVal → AHeap A → Prop) → Prop) (G : Nat → AHeap A → List AVal → (List AVal → AHeap A → Prop) → Prop) (a0 : AVal) (h : AHeap A) (K : AVal → AHeap A → Prop) : funP Tryz.prog S G Tryz.f26 (.two none .leaf (.one [] (.one [2] .leaf))) [a0] h K = p_law0_SpoilEvents S G a0 h K := by kernel_rfl
theorem c_law0_SpoilEvents {R : Adts A} {h : AHeap A} {K : AVal → AHeap A → Prop} {a0 : AVal} (hk : p_law0_SpoilEvents (Tri Pr R) (Gives Pr R) a0 h K) : Tri Pr R n_law0_SpoilEvents [a0] h K :=
  tri_of_funP (by kernel_rfl) (fun _ _ _ _ h => h) (fun _ _ _ _ h => h) Tryz.func26 (by rw [q_law0_SpoilEvents]; exact hk)
/-- bastion/bastionlaw11.sameBooks -/
def p_law11_sameBooks (S : FuncId → List AVal → AHeap A → (AVal → AHeap A → Prop) → Prop) (G : Nat → AHeap A → List AVal → (List AVal → AHeap A → Prop) → Prop) (a0 a1 : AVal) (h : AHeap A) (K : AVal → AHeap A → Prop) : Prop :=
 nilP a1 fun v1 =>
 fadP 1 v1 fun v2 =>
 ldP 1 false v2 h fun v3 =>
 lenP v3 fun v4 =>
 S n_book_Book_Len [a0] h fun v5 h =>
 ldV 1 false v2 h = some v3 ∧
 binP .neq .other v5 v4 fun v6 =>
 iteP v6
 (K (.bool false) h)
 (nilP a1 fun v7 =>
 fadP 1 v7 fun v8 =>
 ldP 1 false v8 h fun v9 =>
 lenP v9 fun v10 =>
 binP .sub .other v10 (.int .i64 40) fun v11 =>
 maxP [.int .i64 0, v11] fun v12 =>
 loopP G (fun v34 h k14 =>
 (fun v13 =>
 nilP a1 fun v15 =>
 fadP 1 v15 fun v16 =>
 ldP 1 false v16 h fun v17 =>
 lenP v17 fun v18 =>
 binP .lss .other v13 v18 fun v19 =>
 iteP v19
 (S n_book_Book_Term [a0, v13] h fun v20 h =>
 extP v20 0 fun v21 =>
 extP v20 1 fun v22 =>
 S n_law0_Num [v22] h fun v23 h =>
 binP .neq .other v23 (.int .i64 0) fun v24 =>
 condP v24 false (fun k25 =>
 nilP a1 fun v26 =>
 fadP 1 v26 fun v27 =>
 ldP 1 false v27 h fun v28 =>
 idxP 1 v28 v13 fun v29 =>
 ldP 1 false v29 h fun v30 =>
 binP .neq .other v21 v30 fun v31 =>
 k25 v31 h)
 (.bool true) h fun v32 h =>
 iteP v32
 (K (.bool false) h)
 (binP .add .other v13 (.int .i64 1) fun v33 =>
 k14 [v33] h))
 (K (.bool true) h)) (v34.getD 0 .any)) [v12] h)
theorem q_law11_sameBooks (S : FuncId → List AVal → AHeap A → (AVal → AHeap A → Prop) → Prop) (G : Nat → AHeap A → List AVal → (List AVal → AHeap A → Prop) → Prop) (a0 a1 : AVal) (h : AHeap A) (K : AVal → AHeap A → Prop) : funP Tryz.prog S G Tryz.f27 (.two none .leaf (.two none (.two none (.draw none (.take 0 (.take 2 (.take 3 (.take 4 (.load 5 (.take 6 (.alt 1 (.take 7 .stop) .stop)))))))) .leaf) (.two none (.two none .leaf (.one [] (.one [5] .leaf))) .leaf))) [a0, a1] h K = p_law11_sameBooks S G a0 a1 h K := by kernel_rfl
theorem c_law11_sameBooks {R : Adts A} {h : AHeap A} {K : AVal → AHeap A → Prop} {a0 a1 : AVal} (hk : p_law11_sameBooks (Tri Pr R) (Gives Pr R) a0 a1 h K) : Tri Pr R n_law11_sameBooks [a0, a1] h K :=
  tri_of_funP (by kernel_rfl) (fun _ _ _ _ h => h) (fun _ _ _ _ h => h) Tryz.func27 (by rw [q_law11_sameBooks]; exact hk)
/-- bastion/book.New -/
def p_book_New (S : FuncId → List AVal → AHeap A → (AVal → AHeap A → Prop) → Prop) (G : Nat → AHeap A → List AVal → (List AVal → AHeap A → Prop) → Prop) (a0 : AVal) (h : AHeap A) (K : AVal → AHeap A → Prop) : Prop :=
 binP .lss .other a0 (.int .i64 1) fun v1 =>
 condP v1 false (fun k2 =>
 binP .gtr .other a0 (.int .i64 65536) fun v3 =>
 k2 v3 h)
 (.bool true) h fun v4 h =>
 iteP v4
 (K (.tup [.nilp, .int .i64 200]) h)
 (mkmP h fun v5 h =>
 bldP [.int .i64 0, .nils, .nilm] [(0, 1, a0), (2, 1, v5)] fun v6 =>
 boxP t_book_Book 3 v6 h fun v7 h =>
 K (.tup [v7, .int .i64 0]) h)
theorem q_book_New (S : FuncId → List AVal → AHeap A → (AVal → AHeap A → Prop) → Prop) (G : Nat → AHeap A → List AVal → (List AVal → AHeap A → Prop) → Prop) (a0 : AVal) (h : AHeap A) (K : AVal → AHeap A → Prop) : funP Tryz.prog S G Tryz.f28 .leaf [a0] h K = p_book_New S G a0 h K := by kernel_rfl
theorem c_book_New {R : Adts A} {h : AHeap A} {K : AVal → AHeap A → Prop} {a0 : AVal} (hk : p_book_New (Tri Pr R) (Gives Pr R) a0 h K) : Tri Pr R n_book_New [a0] h K :=
  tri_of_funP (by kernel_rfl) (fun _ _ _ _ h => h) (fun _ _ _ _ h => h) Tryz.func28 (by rw [q_book_New]; exact hk)
/-- bastion/bastionref1.NewBook -/
def p_ref1_NewBook (S : FuncId → List AVal → AHeap A → (AVal → AHeap A → Prop) → Prop) (G : Nat → AHeap A → List AVal → (List AVal → AHeap A → Prop) → Prop) (a0 : AVal) (h : AHeap A) (K : AVal → AHeap A → Prop) : Prop :=
 binP .lss .other a0 (.int .i64 1) fun v1 =>
 condP v1 false (fun k2 =>
 binP .gtr .other a0 (.int .i64 65536) fun v3 =>
 k2 v3 h)
 (.bool true) h fun v4 h =>
 iteP v4
 (K (.tup [.nilp, .int .i64 200]) h)
 (bldP [.int .i64 0, .nils] [(0, 1, a0)] fun v5 =>
 boxP t_bastionref1_Book 2 v5 h fun v6 h =>
 K (.tup [v6, .int .i64 0]) h)
theorem q_ref1_NewBook (S : FuncId → List AVal → AHeap A → (AVal → AHeap A → Prop) → Prop) (G : Nat → AHeap A → List AVal → (List AVal → AHeap A → Prop) → Prop) (a0 : AVal) (h : AHeap A) (K : AVal → AHeap A → Prop) : funP Tryz.prog S G Tryz.f29 .leaf [a0] h K = p_ref1_NewBook S G a0 h K := by kernel_rfl
theorem c_ref1_NewBook {R : Adts A} {h : AHeap A} {K : AVal → AHeap A → Prop} {a0 : AVal} (hk : p_ref1_NewBook (Tri Pr R) (Gives Pr R) a0 h K) : Tri Pr R n_ref1_NewBook [a0] h K :=
  tri_of_funP (by kernel_rfl) (fun _ _ _ _ h => h) (fun _ _ _ _ h => h) Tryz.func29 (by rw [q_ref1_NewBook]; exact hk)
/-- (*bastion/book.Book).Name -/
def p_book_Book_Name (S : FuncId → List AVal → AHeap A → (AVal → AHeap A → Prop) → Prop) (G : Nat → AHeap A → List AVal → (List AVal → AHeap A → Prop) → Prop) (a0 a1 : AVal) (h : AHeap A) (K : AVal → AHeap A → Prop) : Prop :=
 binP .eql .ptr a0 .nilp fun v1 =>
 iteP v1
 (K (.tup [.int .i64 0, .int .i64 1]) h)
 (binP .eql .other a1 (.str []) fun v2 =>
 condP v2 false (fun k3 =>
 lnsP a1 fun v4 =>
 binP .gtr .other v4 (.int .i64 512) fun v5 =>
 k3 v5 h)
 (.bool true) h fun v6 h =>
 iteP v6
 (K (.tup [.int .i64 0, .int .i64 200]) h)
 (nilP a0 fun v7 =>
 fadP 2 v7 fun v8 =>
 ldP 1 false v8 h fun v9 =>
 lkP true (.int .i64 0) true v9 a1 h fun v10 =>
 extP v10 0 fun v11 =>
 extP v10 1 fun v12 =>
 iteP v12
 (K (.tup [v11, .int .i64 0]) h)
 (nilP a0 fun v13 =>
 fadP 1 v13 fun v14 =>
 nilP a0 fun v15 =>
 fadP 0 v15 fun v16 =>
 ldP 1 false v14 h fun v17 =>
 lenP v17 fun v18 =>
 ldP 1 false v16 h fun v19 =>
 ldV 1 false v14 h = some v17 ∧
 binP .geq .other v18 v19 fun v20 =>
 iteP v20
 (K (.tup [.int .i64 0, .int .i64 201]) h)
 (nilP a0 fun v21 =>
 fadP 1 v21 fun v22 =>
 ldP 1 false v22 h fun v23 =>
 lenP v23 fun v24 =>
 nilP a0 fun v25 =>
 fadP 2 v25 fun v26 =>
 nilP a0 fun v27 =>
 fadP 1 v27 fun v28 =>
 ldP 1 false v26 h fun v29 =>
 ldP 1 false v28 h fun v30 =>
 bslP t_string 1 [.str []] [(0, 1, a1)] h fun v31 h =>
 ldV 1 false v28 h = some v30 ∧
 ldV 1 false v26 h = some v29 ∧
 appP t_string 1 16 v30 v31 h fun v32 h =>
 ldV 1 false v26 h = some v29 ∧
 nilP a0 fun v33 =>
 fadP 1 v33 fun v34 =>
 stP 1 v34 v32 h fun h =>
 mentP true (.int .i64 0) v29 a1 h fun v35 h =>
 extP v35 1 fun v36 =>
 estP v29 v36 v24 h fun h =>
 K (.tup [v24, .int .i64 0]) h))))
theorem q_book_Book_Name (S : FuncId → List AVal → AHeap A → (AVal → AHeap A → Prop) → Prop) (G : Nat → AHeap A → List AVal → (List AVal → AHeap A → Prop) → Prop) (a0 a1 : AVal) (h : AHeap A) (K : AVal → AHeap A → Prop) : funP Tryz.prog S G Tryz.f30 (.two none .leaf (.two none .leaf (.two none .leaf (.two none (.two none (.draw none (.take 0 (.take 1 (.take 2 (.take 5 (.take 6 (.take 7 (.load 3 (.take 4 (.alt 8 (.take 9 .stop) .stop)))))))))) .leaf) (.two none .leaf (.two none (.draw none (.take 0 (.take 1 (.take 2 (.take 3 (.take 5 (.take 6 (.take 7 (.take 8 (.take 10 (.take 13 (.load 4 (.load 9 (.alt 11 (.alt 12 (.take 14 (.take 15 (.alt 16 (.alt 17 (.take 18 (.alt 19 .stop .stop)) .stop) .stop))) .stop) .stop)))))))))))))) .leaf)))))) [a0, a1] h K = p_book_Book_Name S G a0 a1 h K := by kernel_rfl
theorem c_book_Book_Name {R : Adts A} {h : AHeap A} {K : AVal → AHeap A → Prop} {a0 a1 : AVal} (hk : p_book_Book_Name (Tri Pr R) (Gives Pr R) a0 a1 h K) : Tri Pr R n_book_Book_Name [a0, a1] h K :=
  tri_of_funP (by kernel_rfl) (fun _ _ _ _ h => h) (fun _ _ _ _ h => h) Tryz.func30 (by rw [q_book_Book_Name]; exact hk)
/-- (*bastion/bastionref1.Book).Name -/
def p_ref1_Book_Name (S : FuncId → List AVal → AHeap A → (AVal → AHeap A → Prop) → Prop) (G : Nat → AHeap A → List AVal → (List AVal → AHeap A → Prop) → Prop) (a0 a1 : AVal) (h : AHeap A) (K : AVal → AHeap A → Prop) : Prop :=
 lnsP a1 fun v1 =>
 binP .lss .other v1 (.int .i64 1) fun v2 =>
 condP v2 false (fun k3 =>
 lnsP a1 fun v4 =>
 binP .gtr .other v4 (.int .i64 512) fun v5 =>
 k3 v5 h)
 (.bool true) h fun v6 h =>
 iteP v6
 (K (.tup [.int .i64 0, .int .i64 200]) h)
 (S n_ref1_Book_Find [a0, a1] h fun v7 h =>
 extP v7 0 fun v8 =>
 extP v7 1 fun v9 =>
 iteP v9
 (K (.tup [v8, .int .i64 0]) h)
 (nilP a0 fun v10 =>
 fadP 1 v10 fun v11 =>
 nilP a0 fun v12 =>
 fadP 0 v12 fun v13 =>
 ldP 1 false v11 h fun v14 =>
 lenP v14 fun v15 =>
 ldP 1 false v13 h fun v16 =>
 ldV 1 false v11 h = some v14 ∧
 binP .geq .other v15 v16 fun v17 =>
 iteP v17
 (K (.tup [.int .i64 0, .int .i64 201]) h)
 (nilP a0 fun v18 =>
 fadP 1 v18 fun v19 =>
 ldP 1 false v19 h fun v20 =>
 bslP t_string 1 [.str []] [(0, 1, a1)] h fun v21 h =>
 appP t_string 1 16 v20 v21 h fun v22 h =>
 nilP a0 fun v23 =>
 fadP 1 v23 fun v24 =>
 stP 1 v24 v22 h fun h =>
 nilP a0 fun v25 =>
 fadP 1 v25 fun v26 =>
 ldP 1 false v26 h fun v27 =>
 lenP v27 fun v28 =>
 binP .sub .other v28 (.int .i64 1) fun v29 =>
 K (.tup [v29, .int .i64 0]) h)))
theorem q_ref1_Book_Name (S : FuncId → List AVal → AHeap A → (AVal → AHeap A → Prop) → Prop) (G : Nat → AHeap A → List AVal → (List AVal → AHeap A → Prop) → Prop) (a0 a1 : AVal) (h : AHeap A) (K : AVal → AHeap A → Prop) : funP Tryz.prog S G Tryz.f31 (.two none .leaf (.two none .leaf (.two none .leaf (.two none .leaf (.two none (.two none (.draw none (.take 0 (.take 1 (.take 2 (.take 5 (.take 6 (.take 7 (.load 3 (.take 4 (.alt 8 (.take 9 .stop) .stop)))))))))) .leaf) .leaf))))) [a0, a1] h K = p_ref1_Book_Name S G a0 a1 h K := by kernel_rfl
theorem c_ref1_Book_Name {R : Adts A} {h : AHeap A} {K : AVal → AHeap A → Prop} {a0 a1 : AVal} (hk : p_ref1_Book_Name (Tri Pr R) (Gives Pr R) a0 a1 h K) : Tri Pr R n_ref1_Book_Name [a0, a1] h K :=
  tri_of_funP (by kernel_rfl) (fun _ _ _ _ h => h) (fun _ _ _ _ h => h) Tryz.func31 (by rw [q_ref1_Book_Name]; exact hk)
/-- bastion/disk.New -/
def p_disk_New (S : FuncId → List AVal → AHeap A → (AVal → AHeap A → Prop) → Prop) (G : Nat → AHeap A → List AVal → (List AVal → AHeap A → Prop) → Prop) (a0 : AVal) (h : AHeap A) (K : AVal → AHeap A → Prop) : Prop :=
 binP .lss .other a0 (.int .i64 1) fun v1 =>
 condP v1 false (fun k2 =>
 binP .gtr .other a0 (.int .i64 256) fun v3 =>
 k2 v3 h)
 (.bool true) h fun v4 h =>
 iteP v4
 (K (.tup [.nilp, .int .i64 800]) h)
 (mkslP t_string 1 16 [.str []] a0 a0 h fun v5 h =>
 bldP [.nils, .nils, .bool false] [(0, 1, v5)] fun v6 =>
 boxP t_disk_Disk 3 v6 h fun v7 h =>
 nilP v7 fun v8 =>
 fadP 0 v8 fun v9 =>
 ldP 1 false v9 h fun v10 =>
 lenP v10 fun v11 =>
 loopP G (fun v22 h k13 =>
 (fun v12 =>
 binP .lss .other v12 v11 fun v14 =>
 iteP v14
 (nilP v7 fun v15 =>
 fadP 0 v15 fun v16 =>
 ldP 1 false v16 h fun v17 =>
 mkslP t_uint8 1 1 [.int .u8 0] (.int .i64 64) (.int .i64 64) h fun v18 h =>
 ldV 1 false v16 h = some v17 ∧
 b2sP v18 h fun v19 =>
 ldV 1 false v16 h = some v17 ∧
 idxP 1 v17 v12 fun v20 =>
 stP 1 v20 v19 h fun h =>
 binP .add .other v12 (.int .i64 1) fun v21 =>
 k13 [v21] h)
 (K (.tup [v7, .int .i64 0]) h)) (v22.getD 0 .any)) [.int .i64 0] h)
theorem q_disk_New (S : FuncId → List AVal → AHeap A → (AVal → AHeap A → Prop) → Prop) (G : Nat → AHeap A → List AVal → (List AVal → AHeap A → Prop) → Prop) (a0 : AVal) (h : AHeap A) (K : AVal → AHeap A → Prop) : funP Tryz.prog S G Tryz.f32 (.two none .leaf (.two none .leaf (.two none .leaf (.two none (.two none .leaf (.one [] (.one [21] (.two none .leaf (.two none .leaf (.two none (.one [] (.two none .leaf (.draw none (.take 0 (.take 1 (.take 2 (.take 4 (.load 3 (.alt 5 (.alt 6 (.take 7 (.alt 8 .stop .stop)) .stop) .stop))))))))) .leaf)))))) .leaf)))) [a0] h K = p_disk_New S G a0 h K := by kernel_rfl
theorem c_disk_New {R : Adts A} {h : AHeap A} {K : AVal → AHeap A → Prop} {a0 : AVal} (hk : p_disk_New (Tri Pr R) (Gives Pr R) a0 h K) : Tri Pr R n_disk_New [a0] h K :=
  tri_of_funP (by kernel_rfl) (fun _ _ _ _ h => h) (fun _ _ _ _ h => h) Tryz.func32 (by rw [q_disk_New]; exact hk)
/-- bastion/bastionref1.NewDisk -/
def p_ref1_NewDisk (S : FuncId → List AVal → AHeap A → (AVal → AHeap A → Prop) → Prop) (G : Nat → AHeap A → List AVal → (List AVal → AHeap A → Prop) → Prop) (a0 : AVal) (h : AHeap A) (K : AVal → AHeap A → Prop) : Prop :=
 binP .lss .other a0 (.int .i64 1) fun v1 =>
 condP v1 false (fun k2 =>
 binP .gtr .other a0 (.int .i64 256) fun v3 =>
 k2 v3 h)
 (.bool true) h fun v4 h =>
 iteP v4
 (K (.tup [.nilp, .int .i64 800]) h)
 (bldP [.nils, .nils, .bool false] [] fun v5 =>
 boxP t_bastionref1_Disk 3 v5 h fun v6 h =>
 loopP G (fun v20 h k8 =>
 (fun v7 =>
 binP .lss .other v7 a0 fun v9 =>
 iteP v9
 (nilP v6 fun v10 =>
 fadP 0 v10 fun v11 =>
 ldP 1 false v11 h fun v12 =>
 mkslP t_uint8 1 1 [.int .u8 0] (.int .i64 64) (.int .i64 64) h fun v13 h =>
 ldV 1 false v11 h = some v12 ∧
 b2sP v13 h fun v14 =>
 ldV 1 false v11 h = some v12 ∧
 bslP t_string 1 [.str []] [(0, 1, v14)] h fun v15 h =>
 ldV 1 false v11 h = some v12 ∧
 appP t_string 1 16 v12 v15 h fun v16 h =>
 nilP v6 fun v17 =>
 fadP 0 v17 fun v18 =>
 stP 1 v18 v16 h fun h =>
 binP .add .other v7 (.int .i64 1) fun v19 =>
 k8 [v19] h)
 (K (.tup [v6, .int .i64 0]) h)) (v20.getD 0 .any)) [.int .i64 0] h)
theorem q_ref1_NewDisk (S : FuncId → List AVal → AHeap A → (AVal → AHeap A → Prop) → Prop) (G : Nat → AHeap A → List AVal → (List AVal → AHeap A → Prop) → Prop) (a0 : AVal) (h : AHeap A) (K : AVal → AHeap A → Prop) : funP Tryz.prog S G Tryz.f33 (.two none .leaf (.two none .leaf (.two none .leaf (.two none (.two none .leaf (.one [] (.one [5] (.two none .leaf (.two none (.one [] (.draw none (.take 0 (.take 1 (.take 2 (.take 3 (.load 4 (.alt 5 (.alt 6 (.alt 7 (.alt 8 (.take 9 (.take 10 (.alt 11 .stop .stop))) .stop) .stop) .stop) .stop)))))))) .leaf))))) .leaf)))) [a0] h K = p_ref1_NewDisk S G a0 h K := by kernel_rfl
theorem c_ref1_NewDisk {R : Adts A} {h : AHeap A} {K : AVal → AHeap A → Prop} {a0 : AVal} (hk : p_ref1_NewDisk (Tri Pr R) (Gives Pr R) a0 h K) : Tri Pr R n_ref1_NewDisk [a0] h K :=
  tri_of_funP (by kernel_rfl) (fun _ _ _ _ h => h) (fun _ _ _ _ h => h) Tryz.func33 (by rw [q_ref1_NewDisk]; exact hk)
/-- bastion/journal.Open -/
def p_journal_Open (S : FuncId → List AVal → AHeap A → (AVal → AHeap A → Prop) → Prop) (G : Nat → AHeap A → List AVal → (List AVal → AHeap A → Prop) → Prop) (a0 a1 : AVal) (h : AHeap A) (K : AVal → AHeap A → Prop) : Prop :=
 binP .eql .ptr a0 .nilp fun v1 =>
 condP v1 false (fun k2 =>
 binP .eql .ptr a1 .nilp fun v3 =>
 k2 v3 h)
 (.bool true) h fun v4 h =>
 iteP v4
 (K (.tup [.nilp, .int .i64 1]) h)
 (S n_disk_Disk_Down [a1] h fun v5 h =>
 iteP v5
 (K (.tup [.nilp, .int .i64 1102]) h)
 (S n_disk_Disk_Size [a1] h fun v6 h =>
 binP .leq .other v6 (.int .i64 2) fun v7 =>
 iteP v7
 (K (.tup [.nilp, .int .i64 1100]) h)
 (bldP [.nilp, .nilp, .int .i64 0, .int .i64 0, .nils, .bool false] [(0, 1, a0), (1, 1, a1)] fun v8 =>
 boxP t_journal_Journal 6 v8 h fun v9 h =>
 S n_journal_Journal_began [v9] h fun v10 h =>
 mkiP t_api_Errno (.int .i64 1101) fun v11 =>
 S n_errors_Is [v10, v11] h fun v12 h =>
 iteP v12
 (K (.tup [.nilp, .int .i64 1101]) h)
 (loopP G (fun _ h k13 =>
 S n_journal_Journal_next [v9] h fun v14 h =>
 binP .eql .ifc v14 .nili fun v15 =>
 iteP v15
 (k13 [] h)
 (K (.tup [v9, .int .i64 0]) h)) [] h))))
theorem q_journal_Open (S : FuncId → List AVal → AHeap A → (AVal → AHeap A → Prop) → Prop) (G : Nat → AHeap A → List AVal → (List AVal → AHeap A → Prop) → Prop) (a0 a1 : AVal) (h : AHeap A) (K : AVal → AHeap A → Prop) : funP Tryz.prog S G Tryz.f34 (.two none .leaf (.two none .leaf (.two none .leaf (.two none .leaf (.two none (.one [] (.one [] .leaf)) .leaf))))) [a0, a1] h K = p_journal_Open S G a0 a1 h K := by kernel_rfl
theorem c_journal_Open {R : Adts A} {h : AHeap A} {K : AVal → AHeap A → Prop} {a0 a1 : AVal} (hk : p_journal_Open (Tri Pr R) (Gives Pr R) a0 a1 h K) : Tri Pr R n_journal_Open [a0, a1] h K :=
  tri_of_funP (by kernel_rfl) (fun _ _ _ _ h => h) (fun _ _ _ _ h => h) Tryz.func34 (by rw [q_journal_Open]; exact hk)
/-- bastion/bastionref1.OpenJournal -/
def p_ref1_OpenJournal (S : FuncId → List AVal → AHeap A → (AVal → AHeap A → Prop) → Prop) (G : Nat → AHeap A → List AVal → (List AVal → AHeap A → Prop) → Prop) (a0 a1 : AVal) (h : AHeap A) (K : AVal → AHeap A → Prop) : Prop :=
 S n_ref1_Disk_Read [a1, .int .i64 0] h fun v1 h =>
 extP v1 0 fun v2 =>
 extP v1 1 fun v3 =>
 S n_ref1_Disk_Read [a1, .int .i64 1] h fun v4 h =>
 extP v4 0 fun v5 =>
 extP v4 1 fun v6 =>
 S n_ref1_Disk_Read [a1, .int .i64 2] h fun v7 h =>
 extP v7 0 fun v8 =>
 extP v7 1 fun v9 =>
 binP .eql .other v3 (.int .i64 801) fun v10 =>
 iteP v10
 (K (.tup [.nilp, .int .i64 1102]) h)
 (binP .neq .other v3 (.int .i64 0) fun v11 =>
 condP v11 false (fun k12 =>
 binP .neq .other v6 (.int .i64 0) fun v13 =>
 k12 v13 h)
 (.bool true) h fun v14 h =>
 condP v14 false (fun k15 =>
 binP .neq .other v9 (.int .i64 0) fun v16 =>
 k15 v16 h)
 (.bool true) h fun v17 h =>
 iteP v17
 (K (.tup [.nilp, .int .i64 1100]) h)
 (S n_ref1_Pick [a0, v2, v5] h fun v18 h =>
 extP v18 0 fun v19 =>
 extP v18 1 fun v20 =>
 extP v18 2 fun v21 =>
 joinP G h.length (fun k22 =>
 binP .neq .other v21 (.int .i64 0) fun v23 =>
 iteP v23
 (k22 [.int .i64 0, .int .i64 0] h)
 (k22 [v19, v20] h))
 (fun v84 h =>
 (fun v24 v25 =>
 binP .add .other v24 (.int .i64 1) fun v26 =>
 S n_ref1_PutSuper [a0, v26] h fun v27 h =>
 extP v27 0 fun v28 =>
 extP v27 1 fun v29 =>
 binP .neq .other v29 (.int .i64 0) fun v30 =>
 iteP v30
 (K (.tup [.nilp, .int .i64 1101]) h)
 (S n_ref1_Disk_Write [a1, v25, v28] h fun v31 h =>
 S n_ref1_Disk_Flush [a1] h fun v32 h =>
 binP .add .other v24 (.int .i64 1) fun v33 =>
 bldP [.nilp, .nilp, .bool false, .int .i64 0, .int .i64 0, .nils] [(0, 1, a0), (1, 1, a1), (4, 1, v33)] fun v34 =>
 boxP t_bastionref1_Journal 6 v34 h fun v35 h =>
 joinP G h.length (fun k36 =>
 loopP G (fun _ h k37 =>
 nilP v35 fun v38 =>
 fadP 5 v38 fun v39 =>
 ldP 1 false v39 h fun v40 =>
 lenP v40 fun v41 =>
 binP .add .other (.int .i64 2) v41 fun v42 =>
 S n_ref1_Disk_Read [a1, v42] h fun v43 h =>
 extP v43 0 fun v44 =>
 extP v43 1 fun v45 =>
 binP .neq .other v45 (.int .i64 0) fun v46 =>
 iteP v46
 (k36 [] h)
 (joinP G h.length (fun k47 =>
 nilP v35 fun v48 =>
 fadP 5 v48 fun v49 =>
 nilP v35 fun v50 =>
 fadP 3 v50 fun v51 =>
 ldP 1 false v49 h fun v52 =>
 lenP v52 fun v53 =>
 binP .add .other v53 (.int .i64 1) fun v54 =>
 ldP 1 false v51 h fun v55 =>
 (S n_ref1_GetRecord [a0, v44, v54, v55] h fun v56 h =>
 extP v56 0 fun v57 =>
 extP v56 1 fun v58 =>
 extP v56 2 fun v59 =>
 newP t_api_Record (reps 11 (.int .i64 0)) h fun v60 h =>
 stP 11 v60 v57 h fun h =>
 k47 [v60, v58, v59] h) ∧
 (newP t_api_Record (reps 11 (.int .i64 0)) h fun v61 h =>
 ldV 1 false v51 h = some v55 ∧
 ldV 1 false v49 h = some v52 ∧
 S n_ref1_GetRecord [a0, v44, v54, v55] h fun v62 h =>
 extP v62 0 fun v63 =>
 extP v62 1 fun v64 =>
 extP v62 2 fun v65 =>
 stP 11 v61 v63 h fun h =>
 k47 [v61, v64, v65] h))
 (fun v81 h =>
 (fun v66 v67 v68 =>
 binP .neq .other v68 (.int .i64 0) fun v69 =>
 iteP v69
 (k36 [] h)
 (nilP v35 fun v70 =>
 fadP 5 v70 fun v71 =>
 fadP 3 v66 fun v72 =>
 ldP 1 false v71 h fun v73 =>
 ldP 8 true v72 h fun v74 =>
 ldV 1 false v71 h = some v73 ∧
 bslP t_api_Event 1 [.int .i64 0, .int .i64 0, .int .i64 0, .int .i64 0, .int .i64 0, .int .i64 0, .int .i64 0, .int .i64 0] [(0, 8, v74)] h fun v75 h =>
 ldV 1 false v71 h = some v73 ∧
 appP t_api_Event 8 64 v73 v75 h fun v76 h =>
 nilP v35 fun v77 =>
 fadP 5 v77 fun v78 =>
 stP 1 v78 v76 h fun h =>
 nilP v35 fun v79 =>
 fadP 3 v79 fun v80 =>
 stP 1 v80 v67 h fun h =>
 k37 [] h)) (v81.getD 0 .any) (v81.getD 1 .any) (v81.getD 2 .any)))) [] h)
 (fun _ h =>
 K (.tup [v35, .int .i64 0]) h))) (v84.getD 0 .any) (v84.getD 1 .any))))
theorem q_ref1_OpenJournal (S : FuncId → List AVal → AHeap A → (AVal → AHeap A → Prop) → Prop) (G : Nat → AHeap A → List AVal → (List AVal → AHeap A → Prop) → Prop) (a0 a1 : AVal) (h : AHeap A) (K : AVal → AHeap A → Prop) : funP Tryz.prog S G Tryz.f35 (.two none .leaf (.two none .leaf (.two none .leaf (.two none .leaf (.two none .leaf (.two none .leaf (.two (some [12, 13]) .leaf (.two none .leaf (.two none .leaf (.two none .leaf (.two none .leaf (.two none .leaf (.two (some []) (.one [] (.one [] (.one [] (.two none .leaf (.two none .leaf (.two none (.draw (some [20, 21, 22]) (.take 0 (.take 1 (.take 2 (.take 3 (.take 4 (.take 8 (.take 9 (.take 10 (.load 5 (.take 6 (.take 7 (.load 11 (.alt 12 (.take 13 (.take 14 (.take 15 (.take 16 (.alt 17 (.alt 18 (.take 19 (.take 20 .stop)) .stop) .stop))))) (.alt 17 (.alt 12 (.take 13 (.take 14 (.take 15 (.take 16 (.alt 18 (.take 19 (.take 20 .stop)) .stop))))) .stop) .stop))))))))))))))) (.two none .leaf (.two none (.draw none (.take 0 (.take 1 (.take 2 (.take 3 (.take 5 (.load 4 (.alt 6 (.alt 7 (.alt 8 (.take 9 (.take 10 (.alt 11 .stop .stop))) .stop) .stop) .stop)))))))) .leaf)))))))) .leaf))))))))))))) [a0, a1] h K = p_ref1_OpenJournal S G a0 a1 h K := by kernel_rfl
theorem c_ref1_OpenJournal {R : Adts A} {h : AHeap A} {K : AVal → AHeap A → Prop} {a0 a1 : AVal} (hk : p_ref1_OpenJournal (Tri Pr R) (Gives Pr R) a0 a1 h K) : Tri Pr R n_ref1_OpenJournal [a0, a1] h K :=
  tri_of_funP (by kernel_rfl) (fun _ _ _ _ h => h) (fun _ _ _ _ h => h) Tryz.func35 (by rw [q_ref1_OpenJournal]; exact hk)
/-- bastion/bastionlaw0.CopyEvents -/
def p_law0_CopyEvents (S : FuncId → List AVal → AHeap A → (AVal → AHeap A → Prop) → Prop) (G : Nat → AHeap A → List AVal → (List AVal → AHeap A → Prop) → Prop) (a0 : AVal) (h : AHeap A) (K : AVal → AHeap A → Prop) : Prop :=
 bslP t_api_Event 0 [] [] h fun v1 h =>
 appP t_api_Event 8 64 v1 a0 h fun v2 h =>
 K v2 h
theorem q_law0_CopyEvents (S : FuncId → List AVal → AHeap A → (AVal → AHeap A → Prop) → Prop) (G : Nat → AHeap A → List AVal → (List AVal → AHeap A → Prop) → Prop) (a0 : AVal) (h : AHeap A) (K : AVal → AHeap A → Prop) : funP Tryz.prog S G Tryz.f36 .leaf [a0] h K = p_law0_CopyEvents S G a0 h K := by kernel_rfl
theorem c_law0_CopyEvents {R : Adts A} {h : AHeap A} {K : AVal → AHeap A → Prop} {a0 : AVal} (hk : p_law0_CopyEvents (Tri Pr R) (Gives Pr R) a0 h K) : Tri Pr R n_law0_CopyEvents [a0] h K :=
  tri_of_funP (by kernel_rfl) (fun _ _ _ _ h => h) (fun _ _ _ _ h => h) Tryz.func36 (by rw [q_law0_CopyEvents]; exact hk)
/-- (*bastion/journal.Journal).written -/
def p_journal_Journal_written (S : FuncId → List AVal → AHeap A → (AVal → AHeap A → Prop) → Prop) (G : Nat → AHeap A → List AVal → (List AVal → AHeap A → Prop) → Prop) (a0 a1 : AVal) (h : AHeap A) (K : AVal → AHeap A → Prop) : Prop :=
 binP .eql .ptr a0 .nilp fun v1 =>
 iteP v1
 (K (.tup [.int .i64 0, .int .i64 1]) h)
 (nilP a0 fun v2 =>
 fadP 5 v2 fun v3 =>
 ldP 1 false v3 h fun v4 =>
 condP v4 false (fun k5 =>
 nilP a0 fun v6 =>
 fadP 1 v6 fun v7 =>
 ldP 1 false v7 h fun v8 =>
 S n_disk_Disk_Down [v8] h fun v9 h =>
 k5 v9 h)
 (.bool true) h fun v10 h =>
 iteP v10
 (K (.tup [.int .i64 0, .int .i64 1102]) h)
 (S n_slices_ContainsFunc_api_Event [a1, .fn (.func n_journal_Journal_written_c1) [] []] h fun v11 h =>
 iteP v11
 (K (.tup [.int .i64 0, .int .i64 1100]) h)
 (lenP a1 fun v12 =>
 S n_journal_Journal_Room [a0] h fun v13 h =>
 binP .gtr .other v12 v13 fun v14 =>
 iteP v14
 (K (.tup [.int .i64 0, .int .i64 1101]) h)
 (nilP a0 fun v15 =>
 fadP 3 v15 fun v16 =>
 ldP 1 false v16 h fun v17 =>
 lenP a1 fun v18 =>
 loopP G (fun v67 h k22 =>
 (fun v19 v20 v21 =>
 binP .lss .other v21 v18 fun v23 =>
 iteP v23
 (idxP 8 a1 v21 fun v24 =>
 ldP 8 true v24 h fun v25 =>
 newP t_api_Event [.int .i64 0, .int .i64 0, .int .i64 0, .int .i64 0, .int .i64 0, .int .i64 0, .int .i64 0, .int .i64 0] h fun v26 h =>
 stP 8 v26 v25 h fun h =>
 nilP a0 fun v27 =>
 fadP 0 v27 fun v28 =>
 nilP a0 fun v29 =>
 fadP 4 v29 fun v30 =>
 nilP a0 fun v31 =>
 fadP 2 v31 fun v32 =>
 ldP 1 false v28 h fun v33 =>
 ldP 1 false v30 h fun v34 =>
 lenP v34 fun v35 =>
 binP .add .other v35 v21 fun v36 =>
 binP .add .other v36 (.int .i64 1) fun v37 =>
 ldP 1 false v32 h fun v38 =>
 ldP 8 true v26 h fun v39 =>
 ldV 1 false v32 h = some v38 ∧
 ldV 1 false v30 h = some v34 ∧
 ldV 1 false v28 h = some v33 ∧
 bldP [.int .i64 0, .int .i64 0, .int .i64 0, .int .i64 0, .int .i64 0, .int .i64 0, .int .i64 0, .int .i64 0, .int .i64 0, .int .i64 0, .int .i64 0] [(0, 1, v37), (1, 1, v38), (2, 1, v20), (3, 8, v39)] fun v40 =>
 S n_record_Put [v33, v40] h fun v41 h =>
 extP v41 0 fun v42 =>
 extP v41 1 fun v43 =>
 extP v41 2 fun v44 =>
 binP .neq .other v44 (.int .i64 0) fun v45 =>
 iteP v45
 (K (.tup [.int .i64 0, .int .i64 1101]) h)
 (bslP t_string 1 [.str []] [(0, 1, v42)] h fun v46 h =>
 appP t_string 1 16 v19 v46 h fun v47 h =>
 binP .add .other v21 (.int .i64 1) fun v48 =>
 k22 [v47, v43, v48] h))
 (lenP v19 fun v49 =>
 loopP G (fun v66 h k51 =>
 (fun v50 =>
 binP .lss .other v50 v49 fun v52 =>
 iteP v52
 (idxP 1 v19 v50 fun v53 =>
 ldP 1 false v53 h fun v54 =>
 nilP a0 fun v55 =>
 fadP 1 v55 fun v56 =>
 nilP a0 fun v57 =>
 fadP 4 v57 fun v58 =>
 ldP 1 false v56 h fun v59 =>
 ldP 1 false v58 h fun v60 =>
 ldV 1 false v56 h = some v59 ∧
 lenP v60 fun v61 =>
 binP .add .other (.int .i64 2) v61 fun v62 =>
 binP .add .other v62 v50 fun v63 =>
 S n_disk_Disk_Write [v59, v63, v54] h fun v64 h =>
 binP .add .other v50 (.int .i64 1) fun v65 =>
 k51 [v65] h)
 (K (.tup [v20, .int .i64 0]) h)) (v66.getD 0 .any)) [.int .i64 0] h)) (v67.getD 0 .any) (v67.getD 1 .any) (v67.getD 2 .any)) [.nils, v17, .int .i64 0] h))))
theorem q_journal_Journal_written (S : FuncId → List AVal → AHeap A → (AVal → AHeap A → Prop) → Prop) (G : Nat → AHeap A → List AVal → (List AVal → AHeap A → Prop) → Prop) (a0 a1 : AVal) (h : AHeap A) (K : AVal → AHeap A → Prop) : funP Tryz.prog S G Tryz.f37 (.two none .leaf (.two none .leaf (.two none .leaf (.two none .leaf (.two none .leaf (.two none (.two none .leaf (.one [] (.one [7, 8, 47] (.two none .leaf (.two none .leaf (.two none (.one [] (.two none .leaf (.two none (.draw none (.take 0 (.take 1 (.take 2 (.take 4 (.take 5 (.take 6 (.take 9 (.take 12 (.take 13 (.take 14 (.take 16 (.load 3 (.load 7 (.take 8 (.take 10 (.take 11 (.load 15 (.alt 17 (.take 18 (.alt 19 (.take 20 (.take 21 (.take 22 (.take 23 (.take 24 (.take 25 (.take 26 .stop))))))) .stop)) .stop))))))))))))))))))) .leaf))) .leaf)))))) (.two none (.two none .leaf (.one [] (.one [86] (.two none .leaf (.two none .leaf (.two none (.one [] (.two none .leaf (.draw none (.take 0 (.take 1 (.take 2 (.take 4 (.take 5 (.take 6 (.take 10 (.take 12 (.load 3 (.alt 7 (.take 8 (.take 9 (.take 11 (.alt 13 .stop .stop)))) .stop))))))))))))) .leaf)))))) .leaf))))))) [a0, a1] h K = p_journal_Journal_written S G a0 a1 h K := by kernel_rfl
theorem c_journal_Journal_written {R : Adts A} {h : AHeap A} {K : AVal → AHeap A → Prop} {a0 a1 : AVal} (hk : p_journal_Journal_written (Tri Pr R) (Gives Pr R) a0 a1 h K) : Tri Pr R n_journal_Journal_written [a0, a1] h K :=
  tri_of_funP (by kernel_rfl) (fun _ _ _ _ h => h) (fun _ _ _ _ h => h) Tryz.func37 (by rw [q_journal_Journal_written]; exact hk)
/-- (*bastion/disk.Disk).Flush -/
def p_disk_Disk_Flush (S : FuncId → List AVal → AHeap A → (AVal → AHeap A → Prop) → Prop) (G : Nat → AHeap A → List AVal → (List AVal → AHeap A → Prop) → Prop) (a0 : AVal) (h : AHeap A) (K : AVal → AHeap A → Prop) : Prop :=
 binP .eql .ptr a0 .nilp fun v1 =>
 iteP v1
 (K (.int .i64 1) h)
 (nilP a0 fun v2 =>
 fadP 2 v2 fun v3 =>
 ldP 1 false v3 h fun v4 =>
 iteP v4
 (K (.int .i64 801) h)
 (nilP a0 fun v5 =>
 fadP 1 v5 fun v6 =>
 ldP 1 false v6 h fun v7 =>
 lenP v7 fun v8 =>
 loopP G (fun v26 h k10 =>
 (fun v9 =>
 binP .lss .other v9 v8 fun v11 =>
 iteP v11
 (idxP 2 v7 v9 fun v12 =>
 ldP 2 true v12 h fun v13 =>
 newP t_disk_write [.int .i64 0, .str []] h fun v14 h =>
 stP 2 v14 v13 h fun h =>
 nilP a0 fun v15 =>
 fadP 0 v15 fun v16 =>
 fadP 0 v14 fun v17 =>
 fadP 1 v14 fun v18 =>
 ldP 1 false v16 h fun v19 =>
 ldP 1 false v17 h fun v20 =>
 ldP 1 false v18 h fun v21 =>
 ldV 1 false v17 h = some v20 ∧
 ldV 1 false v16 h = some v19 ∧
 idxP 1 v19 v20 fun v22 =>
 stP 1 v22 v21 h fun h =>
 binP .add .other v9 (.int .i64 1) fun v23 =>
 k10 [v23] h)
 (nilP a0 fun v24 =>
 fadP 1 v24 fun v25 =>
 stP 1 v25 .nils h fun h =>
 K (.int .i64 0) h)) (v26.getD 0 .any)) [.int .i64 0] h))
theorem q_disk_Disk_Flush (S : FuncId → List AVal → AHeap A → (AVal → AHeap A → Prop) → Prop) (G : Nat → AHeap A → List AVal → (List AVal → AHeap A → Prop) → Prop) (a0 : AVal) (h : AHeap A) (K : AVal → AHeap A → Prop) : funP Tryz.prog S G Tryz.f38 (.two none .leaf (.two none .leaf (.two none (.two none .leaf (.one [] (.one [18] (.two none .leaf (.two none .leaf (.two none (.one [] (.two none .leaf (.draw none (.take 0 (.take 1 (.take 2 (.take 4 (.take 6 (.load 3 (.load 5 (.alt 7 (.take 8 (.alt 9 .stop .stop)) .stop))))))))))) .leaf)))))) .leaf))) [a0] h K = p_disk_Disk_Flush S G a0 h K := by kernel_rfl
theorem c_disk_Disk_Flush {R : Adts A} {h : AHeap A} {K : AVal → AHeap A → Prop} {a0 : AVal} (hk : p_disk_Disk_Flush (Tri Pr R) (Gives Pr R) a0 h K) : Tri Pr R n_disk_Disk_Flush [a0] h K :=
  tri_of_funP (by kernel_rfl) (fun _ _ _ _ h => h) (fun _ _ _ _ h => h) Tryz.func38 (by rw [q_disk_Disk_Flush]; exact hk)
/-- (*bastion/bastionref1.Journal).put -/
def p_ref1_Journal_put (S : FuncId → List AVal → AHeap A → (AVal → AHeap A → Prop) → Prop) (G : Nat → AHeap A → List AVal → (List AVal → AHeap A → Prop) → Prop) (a0 a1 : AVal) (h : AHeap A) (K : AVal → AHeap A → Prop) : Prop :=
 nilP a0 fun v1 =>
 fadP 2 v1 fun v2 =>
 ldP 1 false v2 h fun v3 =>
 condP v3 false (fun k4 =>
 nilP a0 fun v5 =>
 fadP 1 v5 fun v6 =>
 ldP 1 false v6 h fun v7 =>
 nilP v7 fun v8 =>
 fadP 2 v8 fun v9 =>
 ldP 1 false v9 h fun v10 =>
 k4 v10 h)
 (.bool true) h fun v11 h =>
 iteP v11
 (K (.tup [.nils, .int .i64 0, .int .i64 1102]) h)
 (loopP G (fun v57 h k13 =>
 (fun v12 =>
 lenP a1 fun v14 =>
 binP .lss .other v12 v14 fun v15 =>
 iteP v15
 (idxP 8 a1 v12 fun v16 =>
 ldP 8 true v16 h fun v17 =>
 S n_ref1_EventMay [v17] h fun v18 h =>
 notP v18 fun v19 =>
 iteP v19
 (K (.tup [.nils, .int .i64 0, .int .i64 1100]) h)
 (binP .add .other v12 (.int .i64 1) fun v20 =>
 k13 [v20] h))
 (lenP a1 fun v21 =>
 S n_ref1_Journal_Room [a0] h fun v22 h =>
 binP .gtr .other v21 v22 fun v23 =>
 iteP v23
 (K (.tup [.nils, .int .i64 0, .int .i64 1101]) h)
 (nilP a0 fun v24 =>
 fadP 3 v24 fun v25 =>
 ldP 1 false v25 h fun v26 =>
 loopP G (fun v56 h k30 =>
 (fun v27 v28 v29 =>
 lenP a1 fun v31 =>
 binP .lss .other v29 v31 fun v32 =>
 iteP v32
 (nilP a0 fun v33 =>
 fadP 0 v33 fun v34 =>
 nilP a0 fun v35 =>
 fadP 5 v35 fun v36 =>
 nilP a0 fun v37 =>
 fadP 4 v37 fun v38 =>
 idxP 8 a1 v29 fun v39 =>
 ldP 1 false v34 h fun v40 =>
 ldP 1 false v36 h fun v41 =>
 lenP v41 fun v42 =>
 binP .add .other v42 (.int .i64 1) fun v43 =>
 binP .add .other v43 v29 fun v44 =>
 ldP 1 false v38 h fun v45 =>
 ldP 8 true v39 h fun v46 =>
 ldV 1 false v38 h = some v45 ∧
 ldV 1 false v36 h = some v41 ∧
 ldV 1 false v34 h = some v40 ∧
 bldP [.int .i64 0, .int .i64 0, .int .i64 0, .int .i64 0, .int .i64 0, .int .i64 0, .int .i64 0, .int .i64 0, .int .i64 0, .int .i64 0, .int .i64 0] [(0, 1, v44), (1, 1, v45), (2, 1, v27), (3, 8, v46)] fun v47 =>
 S n_ref1_PutRecord [v40, v47] h fun v48 h =>
 extP v48 0 fun v49 =>
 extP v48 1 fun v50 =>
 extP v48 2 fun v51 =>
 binP .neq .other v51 (.int .i64 0) fun v52 =>
 iteP v52
 (K (.tup [.nils, .int .i64 0, .int .i64 1101]) h)
 (bslP t_string 1 [.str []] [(0, 1, v49)] h fun v53 h =>
 appP t_string 1 16 v28 v53 h fun v54 h =>
 binP .add .other v29 (.int .i64 1) fun v55 =>
 k30 [v50, v54, v55] h))
 (K (.tup [v28, v27, .int .i64 0]) h)) (v56.getD 0 .any) (v56.getD 1 .any) (v56.getD 2 .any)) [v26, .nils, .int .i64 0] h))) (v57.getD 0 .any)) [.int .i64 0] h)
theorem q_ref1_Journal_put (S : FuncId → List AVal → AHeap A → (AVal → AHeap A → Prop) → Prop) (G : Nat → AHeap A → List AVal → (List AVal → AHeap A → Prop) → Prop) (a0 a1 : AVal) (h : AHeap A) (K : AVal → AHeap A → Prop) : funP Tryz.prog S G Tryz.f39 (.two none .leaf (.two none .leaf (.two none (.two none .leaf (.one [] (.one [7] .leaf))) (.two none .leaf (.two none .leaf (.two none .leaf (.two none (.two none .leaf (.one [] (.one [8, 9, 10] (.two none .leaf (.two none (.one [] (.two none (.draw none (.take 0 (.take 1 (.take 2 (.take 4 (.take 5 (.take 6 (.take 10 (.take 12 (.take 13 (.take 14 (.take 16 (.take 17 (.take 18 (.take 19 (.load 3 (.load 7 (.take 8 (.take 9 (.take 11 (.load 15 (.alt 20 (.take 21 (.alt 22 (.take 23 (.take 24 (.take 25 (.take 26 (.take 27 (.take 28 (.take 29 .stop))))))) .stop)) .stop)))))))))))))))))))))) .leaf)) .leaf))))) .leaf))))))) [a0, a1] h K = p_ref1_Journal_put S G a0 a1 h K := by kernel_rfl
theorem c_ref1_Journal_put {R : Adts A} {h : AHeap A} {K : AVal → AHeap A → Prop} {a0 a1 : AVal} (hk : p_ref1_Journal_put (Tri Pr R) (Gives Pr R) a0 a1 h K) : Tri Pr R n_ref1_Journal_put [a0, a1] h K :=
  tri_of_funP (by kernel_rfl) (fun _ _ _ _ h => h) (fun _ _ _ _ h => h) Tryz.func39 (by rw [q_ref1_Journal_put]; exact hk)
/-- (*bastion/bastionref1.Disk).Flush -/
def p_ref1_Disk_Flush (S : FuncId → List AVal → AHeap A → (AVal → AHeap A → Prop) → Prop) (G : Nat → AHeap A → List AVal → (List AVal → AHeap A → Prop) → Prop) (a0 : AVal) (h : AHeap A) (K : AVal → AHeap A → Prop) : Prop :=
 nilP a0 fun v1 =>
 fadP 2 v1 fun v2 =>
 ldP 1 false v2 h fun v3 =>
 iteP v3
 (K (.int .i64 801) h)
 (loopP G (fun v30 h k5 =>
 (fun v4 =>
 nilP a0 fun v6 =>
 fadP 1 v6 fun v7 =>
 ldP 1 false v7 h fun v8 =>
 lenP v8 fun v9 =>
 binP .lss .other v4 v9 fun v10 =>
 iteP v10
 (nilP a0 fun v11 =>
 fadP 0 v11 fun v12 =>
 nilP a0 fun v13 =>
 fadP 1 v13 fun v14 =>
 nilP a0 fun v15 =>
 fadP 1 v15 fun v16 =>
 ldP 1 false v12 h fun v17 =>
 ldP 1 false v14 h fun v18 =>
 idxP 2 v18 v4 fun v19 =>
 fadP 0 v19 fun v20 =>
 ldP 1 false v20 h fun v21 =>
 ldP 1 false v16 h fun v22 =>
 ldV 1 false v20 h = some v21 ∧
 ldV 1 false v14 h = some v18 ∧
 ldV 1 false v12 h = some v17 ∧
 idxP 2 v22 v4 fun v23 =>
 fadP 1 v23 fun v24 =>
 ldP 1 false v24 h fun v25 =>
 ldV 1 false v20 h = some v21 ∧
 ldV 1 false v14 h = some v18 ∧
 ldV 1 false v12 h = some v17 ∧
 idxP 1 v17 v21 fun v26 =>
 stP 1 v26 v25 h fun h =>
 binP .add .other v4 (.int .i64 1) fun v27 =>
 k5 [v27] h)
 (nilP a0 fun v28 =>
 fadP 1 v28 fun v29 =>
 stP 1 v29 .nils h fun h =>
 K (.int .i64 0) h)) (v30.getD 0 .any)) [.int .i64 0] h)
theorem q_ref1_Disk_Flush (S : FuncId → List AVal → AHeap A → (AVal → AHeap A → Prop) → Prop) (G : Nat → AHeap A → List AVal → (List AVal → AHeap A → Prop) → Prop) (a0 : AVal) (h : AHeap A) (K : AVal → AHeap A → Prop) : funP Tryz.prog S G Tryz.f40 (.two none .leaf (.two none .leaf (.two none (.two none .leaf (.one [] (.one [3] (.two none .leaf (.two none (.one [] (.draw none (.take 0 (.take 1 (.take 2 (.take 4 (.take 5 (.take 6 (.take 8 (.take 12 (.take 13 (.take 14 (.take 16 (.load 3 (.load 7 (.take 9 (.take 10 (.load 11 (.alt 15 (.take 17 (.take 18 (.alt 19 (.take 20 (.alt 21 .stop .stop)) .stop))) .stop))))))))))))))))))) .leaf))))) .leaf))) [a0] h K = p_ref1_Disk_Flush S G a0 h K := by kernel_rfl
theorem c_ref1_Disk_Flush {R : Adts A} {h : AHeap A} {K : AVal → AHeap A → Prop} {a0 : AVal} (hk : p_ref1_Disk_Flush (Tri Pr R) (Gives Pr R) a0 h K) : Tri Pr R n_ref1_Disk_Flush [a0] h K :=
  tri_of_funP (by kernel_rfl) (fun _ _ _ _ h => h) (fun _ _ _ _ h => h) Tryz.func40 (by rw [q_ref1_Disk_Flush]; exact hk)
/-- (*bastion/disk.Disk).there -/
def p_disk_Disk_there (S : FuncId → List AVal → AHeap A → (AVal → AHeap A → Prop) → Prop) (G : Nat → AHeap A → List AVal → (List AVal → AHeap A → Prop) → Prop) (a0 a1 : AVal) (h : AHeap A) (K : AVal → AHeap A → Prop) : Prop :=
 binP .geq .other a1 (.int .i64 0) fun v1 =>
 condP v1 true (fun k2 =>
 nilP a0 fun v3 =>
 fadP 0 v3 fun v4 =>
 ldP 1 false v4 h fun v5 =>
 lenP v5 fun v6 =>
 binP .lss .other a1 v6 fun v7 =>
 k2 v7 h)
 (.bool false) h fun v8 h =>
 K v8 h
theorem q_disk_Disk_there (S : FuncId → List AVal → AHeap A → (AVal → AHeap A → Prop) → Prop) (G : Nat → AHeap A → List AVal → (List AVal → AHeap A → Prop) → Prop) (a0 a1 : AVal) (h : AHeap A) (K : AVal → AHeap A → Prop) : funP Tryz.prog S G Tryz.f41 .leaf [a0, a1] h K = p_disk_Disk_there S G a0 a1 h K := by kernel_rfl
theorem c_disk_Disk_there {R : Adts A} {h : AHeap A} {K : AVal → AHeap A → Prop} {a0 a1 : AVal} (hk : p_disk_Disk_there (Tri Pr R) (Gives Pr R) a0 a1 h K) : Tri Pr R n_disk_Disk_there [a0, a1] h K :=
  tri_of_funP (by kernel_rfl) (fun _ _ _ _ h => h) (fun _ _ _ _ h => h) Tryz.func41 (by rw [q_disk_Disk_there]; exact hk)
/-- slices.Clone[[]bastion/api.Event,bastion/api.Event] -/
def p_slices_Clone_api_Event (S : FuncId → List AVal → AHeap A → (AVal → AHeap A → Prop) → Prop) (G : Nat → AHeap A → List AVal → (List AVal → AHeap A → Prop) → Prop) (a0 : AVal) (h : AHeap A) (K : AVal → AHeap A → Prop) : Prop :=
 binP .eql .sl a0 .nils fun v1 =>
 iteP v1
 (K .nils h)
 (bslP t_api_Event 0 [] [] h fun v2 h =>
 appP t_api_Event 8 64 v2 a0 h fun v3 h =>
 K v3 h)
theorem q_slices_Clone_api_Event (S : FuncId → List AVal → AHeap A → (AVal → AHeap A → Prop) → Prop) (G : Nat → AHeap A → List AVal → (List AVal → AHeap A → Prop) → Prop) (a0 : AVal) (h : AHeap A) (K : AVal → AHeap A → Prop) : funP Tryz.prog S G Tryz.f42 .leaf [a0] h K = p_slices_Clone_api_Event S G a0 h K := by kernel_rfl
theorem c_slices_Clone_api_Event {R : Adts A} {h : AHeap A} {K : AVal → AHeap A → Prop} {a0 : AVal} (hk : p_slices_Clone_api_Event (Tri Pr R) (Gives Pr R) a0 h K) : Tri Pr R n_slices_Clone_api_Event [a0] h K :=
  tri_of_funP (by kernel_rfl) (fun _ _ _ _ h => h) (fun _ _ _ _ h => h) Tryz.func42 (by rw [q_slices_Clone_api_Event]; exact hk)
/-- (*bastion/disk.Disk).Size -/
def p_disk_Disk_Size (S : FuncId → List AVal → AHeap A → (AVal → AHeap A → Prop) → Prop) (G : Nat → AHeap A → List AVal → (List AVal → AHeap A → Prop) → Prop) (a0 : AVal) (h : AHeap A) (K : AVal → AHeap A → Prop) : Prop :=
 nilP a0 fun v1 =>
 fadP 0 v1 fun v2 =>
 ldP 1 false v2 h fun v3 =>
 lenP v3 fun v4 =>
 K v4 h
theorem q_disk_Disk_Size (S : FuncId → List AVal → AHeap A → (AVal → AHeap A → Prop) → Prop) (G : Nat → AHeap A → List AVal → (List AVal → AHeap A → Prop) → Prop) (a0 : AVal) (h : AHeap A) (K : AVal → AHeap A → Prop) : funP Tryz.prog S G Tryz.f43 .leaf [a0] h K = p_disk_Disk_Size S G a0 h K := by kernel_rfl
theorem c_disk_Disk_Size {R : Adts A} {h : AHeap A} {K : AVal → AHeap A → Prop} {a0 : AVal} (hk : p_disk_Disk_Size (Tri Pr R) (Gives Pr R) a0 h K) : Tri Pr R n_disk_Disk_Size [a0] h K :=
  tri_of_funP (by kernel_rfl) (fun _ _ _ _ h => h) (fun _ _ _ _ h => h) Tryz.func43 (by rw [q_disk_Disk_Size]; exact hk)
/-- (*bastion/book.Book).Len -/
def p_book_Book_Len (S : FuncId → List AVal → AHeap A → (AVal → AHeap A → Prop) → Prop) (G : Nat → AHeap A → List AVal → (List AVal → AHeap A → Prop) → Prop) (a0 : AVal) (h : AHeap A) (K : AVal → AHeap A → Prop) : Prop :=
 binP .eql .ptr a0 .nilp fun v1 =>
 iteP v1
 (K (.int .i64 0) h)
 (nilP a0 fun v2 =>
 fadP 1 v2 fun v3 =>
 ldP 1 false v3 h fun v4 =>
 lenP v4 fun v5 =>
 K v5 h)
theorem q_book_Book_Len (S : FuncId → List AVal → AHeap A → (AVal → AHeap A → Prop) → Prop) (G : Nat → AHeap A → List AVal → (List AVal → AHeap A → Prop) → Prop) (a0 : AVal) (h : AHeap A) (K : AVal → AHeap A → Prop) : funP Tryz.prog S G Tryz.f44 .leaf [a0] h K = p_book_Book_Len S G a0 h K := by kernel_rfl
theorem c_book_Book_Len {R : Adts A} {h : AHeap A} {K : AVal → AHeap A → Prop} {a0 : AVal} (hk : p_book_Book_Len (Tri Pr R) (Gives Pr R) a0 h K) : Tri Pr R n_book_Book_Len [a0] h K :=
  tri_of_funP (by kernel_rfl) (fun _ _ _ _ h => h) (fun _ _ _ _ h => h) Tryz.func44 (by rw [q_book_Book_Len]; exact hk)
end Go.AI
