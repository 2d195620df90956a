/- The functions as texts over the abstract heap. -/
import Derived.Test.YtjnnihaofffkfaaNm
import Derived.KernelRfl
set_option linter.all false
namespace Go.AI
open Go.Proofs
set_option maxRecDepth 1000000
variable {A : Type}
/-- bastion/bastionlaw0.SameEvents -/
def p_law0_SameEvents (S : FuncId → List AVal → AHeap A → (AVal → AHeap A → Prop) → Prop) (G : Nat → AHeap A → List AVal → (List AVal → AHeap A → Prop) → Prop) (a0 a1 : AVal) (h : AHeap A) (K : AVal → AHeap A → Prop) : Prop :=
 lenP a0 fun v1 =>
 lenP a1 fun v2 =>
 binP .neq .other v1 v2 fun v3 =>
 iteP v3
 (K (.bool false) h)
 (loopP G (fun v14 h k5 =>
 (fun v4 =>
 lenP a0 fun v6 =>
 binP .lss .other v4 v6 fun v7 =>
 iteP v7
 (idxP 8 a0 v4 fun v8 =>
 idxP 8 a1 v4 fun v9 =>
 ldP 8 true v8 h fun v10 =>
 ldP 8 true v9 h fun v11 =>
 ldV 8 true v8 h = some v10 ∧
 binP .neq (.shape (.st [(0, 1, .i), (1, 1, .i), (2, 1, .i), (3, 1, .i), (4, 1, .i), (5, 1, .i), (6, 1, .i), (7, 1, .i)])) v10 v11 fun v12 =>
 iteP v12
 (K (.bool false) h)
 (binP .add .other v4 (.int .i64 1) fun v13 =>
 k5 [v13] h))
 (K (.bool true) h)) (v14.getD 0 .any)) [.int .i64 0] h)
theorem q_law0_SameEvents (S : FuncId → List AVal → AHeap A → (AVal → AHeap A → Prop) → Prop) (G : Nat → AHeap A → List AVal → (List AVal → AHeap A → Prop) → Prop) (a0 a1 : AVal) (h : AHeap A) (K : AVal → AHeap A → Prop) : funP Try.prog S G Try.f18 (.two none .leaf (.two none .leaf (.two none (.two none .leaf (.one [] (.one [5] (.two none .leaf (.two none (.one [] (.two none (.draw none (.take 0 (.take 1 (.take 2 (.take 4 (.take 5 (.take 6 (.load 3 (.alt 7 (.take 8 .stop) .stop))))))))) .leaf)) .leaf))))) .leaf))) [a0, a1] h K = p_law0_SameEvents S G a0 a1 h K := by kernel_rfl
theorem c_law0_SameEvents {R : Adts A} {h : AHeap A} {K : AVal → AHeap A → Prop} {a0 a1 : AVal} (hk : p_law0_SameEvents (Tri Pr R) (Gives Pr R) a0 a1 h K) : Tri Pr R n_law0_SameEvents [a0, a1] h K :=
  tri_of_funP (by kernel_rfl) (fun _ _ _ _ h => h) (fun _ _ _ _ h => h) Try.func18 (by rw [q_law0_SameEvents]; exact hk)
/-- (*bastion/journal.Journal).Events -/
def p_journal_Journal_Events (S : FuncId → List AVal → AHeap A → (AVal → AHeap A → Prop) → Prop) (G : Nat → AHeap A → List AVal → (List AVal → AHeap A → Prop) → Prop) (a0 : AVal) (h : AHeap A) (K : AVal → AHeap A → Prop) : Prop :=
 binP .eql .ptr a0 .nilp fun v1 =>
 iteP v1
 (K .nils h)
 (nilP a0 fun v2 =>
 fadP 4 v2 fun v3 =>
 ldP 1 false v3 h fun v4 =>
 S n_slices_Clone_api_Event [v4] h fun v5 h =>
 K v5 h)
theorem q_journal_Journal_Events (S : FuncId → List AVal → AHeap A → (AVal → AHeap A → Prop) → Prop) (G : Nat → AHeap A → List AVal → (List AVal → AHeap A → Prop) → Prop) (a0 : AVal) (h : AHeap A) (K : AVal → AHeap A → Prop) : funP Try.prog S G Try.f19 .leaf [a0] h K = p_journal_Journal_Events S G a0 h K := by kernel_rfl
theorem c_journal_Journal_Events {R : Adts A} {h : AHeap A} {K : AVal → AHeap A → Prop} {a0 : AVal} (hk : p_journal_Journal_Events (Tri Pr R) (Gives Pr R) a0 h K) : Tri Pr R n_journal_Journal_Events [a0] h K :=
  tri_of_funP (by kernel_rfl) (fun _ _ _ _ h => h) (fun _ _ _ _ h => h) Try.func19 (by rw [q_journal_Journal_Events]; exact hk)
/-- (*bastion/journal.Journal).Append -/
def p_journal_Journal_Append (S : FuncId → List AVal → AHeap A → (AVal → AHeap A → Prop) → Prop) (G : Nat → AHeap A → List AVal → (List AVal → AHeap A → Prop) → Prop) (a0 a1 : AVal) (h : AHeap A) (K : AVal → AHeap A → Prop) : Prop :=
 S n_journal_Journal_written [a0, a1] h fun v1 h =>
 extP v1 0 fun v2 =>
 extP v1 1 fun v3 =>
 joinP G h.length (fun k4 =>
 binP .eql .other v3 (.int .i64 0) fun v5 =>
 iteP v5
 (nilP a0 fun v6 =>
 fadP 1 v6 fun v7 =>
 ldP 1 false v7 h fun v8 =>
 S n_disk_Disk_Flush [v8] h fun v9 h =>
 nilP a0 fun v10 =>
 fadP 4 v10 fun v11 =>
 ldP 1 false v11 h fun v12 =>
 appP t_api_Event 8 64 v12 a1 h fun v13 h =>
 nilP a0 fun v14 =>
 fadP 4 v14 fun v15 =>
 stP 1 v15 v13 h fun h =>
 nilP a0 fun v16 =>
 fadP 3 v16 fun v17 =>
 stP 1 v17 v2 h fun h =>
 k4 [] h)
 (k4 [] h))
 (fun _ h =>
 K v3 h)
theorem q_journal_Journal_Append (S : FuncId → List AVal → AHeap A → (AVal → AHeap A → Prop) → Prop) (G : Nat → AHeap A → List AVal → (List AVal → AHeap A → Prop) → Prop) (a0 a1 : AVal) (h : AHeap A) (K : AVal → AHeap A → Prop) : funP Try.prog S G Try.f20 (.two none .leaf (.two none .leaf (.two (some []) .leaf .leaf))) [a0, a1] h K = p_journal_Journal_Append S G a0 a1 h K := by kernel_rfl
theorem c_journal_Journal_Append {R : Adts A} {h : AHeap A} {K : AVal → AHeap A → Prop} {a0 a1 : AVal} (hk : p_journal_Journal_Append (Tri Pr R) (Gives Pr R) a0 a1 h K) : Tri Pr R n_journal_Journal_Append [a0, a1] h K :=
  tri_of_funP (by kernel_rfl) (fun _ _ _ _ h => h) (fun _ _ _ _ h => h) Try.func20 (by rw [q_journal_Journal_Append]; exact hk)
/-- (*bastion/journal.Journal).Boot -/
def p_journal_Journal_Boot (S : FuncId → List AVal → AHeap A → (AVal → AHeap A → Prop) → Prop) (G : Nat → AHeap A → List AVal → (List AVal → AHeap A → Prop) → Prop) (a0 : AVal) (h : AHeap A) (K : AVal → AHeap A → Prop) : Prop :=
 binP .eql .ptr a0 .nilp fun v1 =>
 iteP v1
 (K (.int .i64 0) h)
 (nilP a0 fun v2 =>
 fadP 2 v2 fun v3 =>
 ldP 1 false v3 h fun v4 =>
 K v4 h)
theorem q_journal_Journal_Boot (S : FuncId → List AVal → AHeap A → (AVal → AHeap A → Prop) → Prop) (G : Nat → AHeap A → List AVal → (List AVal → AHeap A → Prop) → Prop) (a0 : AVal) (h : AHeap A) (K : AVal → AHeap A → Prop) : funP Try.prog S G Try.f21 .leaf [a0] h K = p_journal_Journal_Boot S G a0 h K := by kernel_rfl
theorem c_journal_Journal_Boot {R : Adts A} {h : AHeap A} {K : AVal → AHeap A → Prop} {a0 : AVal} (hk : p_journal_Journal_Boot (Tri Pr R) (Gives Pr R) a0 h K) : Tri Pr R n_journal_Journal_Boot [a0] h K :=
  tri_of_funP (by kernel_rfl) (fun _ _ _ _ h => h) (fun _ _ _ _ h => h) Try.func21 (by rw [q_journal_Journal_Boot]; exact hk)
/-- (*bastion/journal.Journal).Room -/
def p_journal_Journal_Room (S : FuncId → List AVal → AHeap A → (AVal → AHeap A → Prop) → Prop) (G : Nat → AHeap A → List AVal → (List AVal → AHeap A → Prop) → Prop) (a0 : AVal) (h : AHeap A) (K : AVal → AHeap A → Prop) : Prop :=
 binP .eql .ptr a0 .nilp fun v1 =>
 iteP v1
 (K (.int .i64 0) h)
 (nilP a0 fun v2 =>
 fadP 1 v2 fun v3 =>
 nilP a0 fun v4 =>
 fadP 4 v4 fun v5 =>
 ldP 1 false v5 h fun v6 =>
 lenP v6 fun v7 =>
 ldP 1 false v3 h fun v8 =>
 ldV 1 false v5 h = some v6 ∧
 S n_disk_Disk_Size [v8] h fun v9 h =>
 ldV 1 false v5 h = some v6 ∧
 binP .sub .other v9 (.int .i64 2) fun v10 =>
 binP .sub .other v10 v7 fun v11 =>
 K v11 h)
theorem q_journal_Journal_Room (S : FuncId → List AVal → AHeap A → (AVal → AHeap A → Prop) → Prop) (G : Nat → AHeap A → List AVal → (List AVal → AHeap A → Prop) → Prop) (a0 : AVal) (h : AHeap A) (K : AVal → AHeap A → Prop) : funP Try.prog S G Try.f22 (.two none .leaf (.two none .leaf (.two none (.draw none (.take 0 (.take 1 (.take 2 (.take 6 (.take 7 (.take 8 (.load 9 (.take 10 (.alt 3 (.alt 4 (.take 5 (.take 11 (.take 12 .stop))) .stop) .stop)))))))))) .leaf))) [a0] h K = p_journal_Journal_Room S G a0 h K := by kernel_rfl
theorem c_journal_Journal_Room {R : Adts A} {h : AHeap A} {K : AVal → AHeap A → Prop} {a0 : AVal} (hk : p_journal_Journal_Room (Tri Pr R) (Gives Pr R) a0 h K) : Tri Pr R n_journal_Journal_Room [a0] h K :=
  tri_of_funP (by kernel_rfl) (fun _ _ _ _ h => h) (fun _ _ _ _ h => h) Try.func22 (by rw [q_journal_Journal_Room]; exact hk)
/-- (*bastion/disk.Disk).Read -/
def p_disk_Disk_Read (S : FuncId → List AVal → AHeap A → (AVal → AHeap A → Prop) → Prop) (G : Nat → AHeap A → List AVal → (List AVal → AHeap A → Prop) → Prop) (a0 a1 : AVal) (h : AHeap A) (K : AVal → AHeap A → Prop) : Prop :=
 binP .eql .ptr a0 .nilp fun v1 =>
 iteP v1
 (K (.tup [.str [], .int .i64 1]) h)
 (nilP a0 fun v2 =>
 fadP 2 v2 fun v3 =>
 ldP 1 false v3 h fun v4 =>
 iteP v4
 (K (.tup [.str [], .int .i64 801]) h)
 (S n_disk_Disk_there [a0, a1] h fun v5 h =>
 notP v5 fun v6 =>
 iteP v6
 (K (.tup [.str [], .int .i64 800]) h)
 (nilP a0 fun v7 =>
 fadP 0 v7 fun v8 =>
 ldP 1 false v8 h fun v9 =>
 idxP 1 v9 a1 fun v10 =>
 ldP 1 false v10 h fun v11 =>
 nilP a0 fun v12 =>
 fadP 1 v12 fun v13 =>
 ldP 1 false v13 h fun v14 =>
 lenP v14 fun v15 =>
 loopP G (fun v32 h k18 =>
 (fun v16 v17 =>
 binP .lss .other v17 v15 fun v19 =>
 iteP v19
 (joinP G h.length (fun k20 =>
 idxP 2 v14 v17 fun v21 =>
 ldP 2 true v21 h fun v22 =>
 newP t_disk_write [.int .i64 0, .str []] h fun v23 h =>
 stP 2 v23 v22 h fun h =>
 fadP 0 v23 fun v24 =>
 ldP 1 false v24 h fun v25 =>
 binP .eql .other v25 a1 fun v26 =>
 iteP v26
 (fadP 1 v23 fun v27 =>
 ldP 1 false v27 h fun v28 =>
 k20 [v28] h)
 (k20 [v16] h))
 (fun v31 h =>
 (fun v29 =>
 binP .add .other v17 (.int .i64 1) fun v30 =>
 k18 [v29, v30] h) (v31.getD 0 .any)))
 (K (.tup [v16, .int .i64 0]) h)) (v32.getD 0 .any) (v32.getD 1 .any)) [v11, .int .i64 0] h)))
theorem q_disk_Disk_Read (S : FuncId → List AVal → AHeap A → (AVal → AHeap A → Prop) → Prop) (G : Nat → AHeap A → List AVal → (List AVal → AHeap A → Prop) → Prop) (a0 a1 : AVal) (h : AHeap A) (K : AVal → AHeap A → Prop) : funP Try.prog S G Try.f23 (.two none .leaf (.two none .leaf (.two none .leaf (.two none (.two none .leaf (.one [] (.one [6, 34] (.two none .leaf (.two none .leaf (.two (some [6]) .leaf .leaf)))))) .leaf)))) [a0, a1] h K = p_disk_Disk_Read S G a0 a1 h K := by kernel_rfl
theorem c_disk_Disk_Read {R : Adts A} {h : AHeap A} {K : AVal → AHeap A → Prop} {a0 a1 : AVal} (hk : p_disk_Disk_Read (Tri Pr R) (Gives Pr R) a0 a1 h K) : Tri Pr R n_disk_Disk_Read [a0, a1] h K :=
  tri_of_funP (by kernel_rfl) (fun _ _ _ _ h => h) (fun _ _ _ _ h => h) Try.func23 (by rw [q_disk_Disk_Read]; exact hk)
/-- (*bastion/disk.Disk).Write -/
def p_disk_Disk_Write (S : FuncId → List AVal → AHeap A → (AVal → AHeap A → Prop) → Prop) (G : Nat → AHeap A → List AVal → (List AVal → AHeap A → Prop) → Prop) (a0 a1 a2 : AVal) (h : AHeap A) (K : AVal → AHeap A → Prop) : Prop :=
 binP .eql .ptr a0 .nilp fun v1 =>
 iteP v1
 (K (.int .i64 1) h)
 (nilP a0 fun v2 =>
 fadP 2 v2 fun v3 =>
 ldP 1 false v3 h fun v4 =>
 iteP v4
 (K (.int .i64 801) h)
 (S n_disk_Disk_there [a0, a1] h fun v5 h =>
 notP v5 fun v6 =>
 condP v6 false (fun k7 =>
 lnsP a2 fun v8 =>
 binP .neq .other v8 (.int .i64 64) fun v9 =>
 k7 v9 h)
 (.bool true) h fun v10 h =>
 iteP v10
 (K (.int .i64 800) h)
 (nilP a0 fun v11 =>
 fadP 1 v11 fun v12 =>
 ldP 1 false v12 h fun v13 =>
 bldP [.int .i64 0, .str []] [(0, 1, a1), (1, 1, a2)] fun v14 =>
 bslP t_disk_write 1 [.int .i64 0, .str []] [(0, 2, v14)] h fun v15 h =>
 appP t_disk_write 2 24 v13 v15 h fun v16 h =>
 nilP a0 fun v17 =>
 fadP 1 v17 fun v18 =>
 stP 1 v18 v16 h fun h =>
 K (.int .i64 0) h)))
theorem q_disk_Disk_Write (S : FuncId → List AVal → AHeap A → (AVal → AHeap A → Prop) → Prop) (G : Nat → AHeap A → List AVal → (List AVal → AHeap A → Prop) → Prop) (a0 a1 a2 : AVal) (h : AHeap A) (K : AVal → AHeap A → Prop) : funP Try.prog S G Try.f24 .leaf [a0, a1, a2] h K = p_disk_Disk_Write S G a0 a1 a2 h K := by kernel_rfl
theorem c_disk_Disk_Write {R : Adts A} {h : AHeap A} {K : AVal → AHeap A → Prop} {a0 a1 a2 : AVal} (hk : p_disk_Disk_Write (Tri Pr R) (Gives Pr R) a0 a1 a2 h K) : Tri Pr R n_disk_Disk_Write [a0, a1, a2] h K :=
  tri_of_funP (by kernel_rfl) (fun _ _ _ _ h => h) (fun _ _ _ _ h => h) Try.func24 (by rw [q_disk_Disk_Write]; exact hk)
/-- bastion/bastionref1.NewBook -/
def p_ref1_NewBook (S : FuncId → List AVal → AHeap A → (AVal → AHeap A → Prop) → Prop) (G : Nat → AHeap A → List AVal → (List AVal → AHeap A → Prop) → Prop) (a0 : AVal) (h : AHeap A) (K : AVal → AHeap A → Prop) : Prop :=
 binP .lss .other a0 (.int .i64 1) fun v1 =>
 condP v1 false (fun k2 =>
 binP .gtr .other a0 (.int .i64 65536) fun v3 =>
 k2 v3 h)
 (.bool true) h fun v4 h =>
 iteP v4
 (K (.tup [.nilp, .int .i64 200]) h)
 (bldP [.int .i64 0, .nils] [(0, 1, a0)] fun v5 =>
 boxP t_bastionref1_Book 2 v5 h fun v6 h =>
 K (.tup [v6, .int .i64 0]) h)
theorem q_ref1_NewBook (S : FuncId → List AVal → AHeap A → (AVal → AHeap A → Prop) → Prop) (G : Nat → AHeap A → List AVal → (List AVal → AHeap A → Prop) → Prop) (a0 : AVal) (h : AHeap A) (K : AVal → AHeap A → Prop) : funP Try.prog S G Try.f25 .leaf [a0] h K = p_ref1_NewBook S G a0 h K := by kernel_rfl
theorem c_ref1_NewBook {R : Adts A} {h : AHeap A} {K : AVal → AHeap A → Prop} {a0 : AVal} (hk : p_ref1_NewBook (Tri Pr R) (Gives Pr R) a0 h K) : Tri Pr R n_ref1_NewBook [a0] h K :=
  tri_of_funP (by kernel_rfl) (fun _ _ _ _ h => h) (fun _ _ _ _ h => h) Try.func25 (by rw [q_ref1_NewBook]; exact hk)
/-- (*bastion/book.Book).Len -/
def p_book_Book_Len (S : FuncId → List AVal → AHeap A → (AVal → AHeap A → Prop) → Prop) (G : Nat → AHeap A → List AVal → (List AVal → AHeap A → Prop) → Prop) (a0 : AVal) (h : AHeap A) (K : AVal → AHeap A → Prop) : Prop :=
 binP .eql .ptr a0 .nilp fun v1 =>
 iteP v1
 (K (.int .i64 0) h)
 (nilP a0 fun v2 =>
 fadP 1 v2 fun v3 =>
 ldP 1 false v3 h fun v4 =>
 lenP v4 fun v5 =>
 K v5 h)
theorem q_book_Book_Len (S : FuncId → List AVal → AHeap A → (AVal → AHeap A → Prop) → Prop) (G : Nat → AHeap A → List AVal → (List AVal → AHeap A → Prop) → Prop) (a0 : AVal) (h : AHeap A) (K : AVal → AHeap A → Prop) : funP Try.prog S G Try.f26 .leaf [a0] h K = p_book_Book_Len S G a0 h K := by kernel_rfl
theorem c_book_Book_Len {R : Adts A} {h : AHeap A} {K : AVal → AHeap A → Prop} {a0 : AVal} (hk : p_book_Book_Len (Tri Pr R) (Gives Pr R) a0 h K) : Tri Pr R n_book_Book_Len [a0] h K :=
  tri_of_funP (by kernel_rfl) (fun _ _ _ _ h => h) (fun _ _ _ _ h => h) Try.func26 (by rw [q_book_Book_Len]; exact hk)
/-- (*bastion/book.Book).Term -/
def p_book_Book_Term (S : FuncId → List AVal → AHeap A → (AVal → AHeap A → Prop) → Prop) (G : Nat → AHeap A → List AVal → (List AVal → AHeap A → Prop) → Prop) (a0 a1 : AVal) (h : AHeap A) (K : AVal → AHeap A → Prop) : Prop :=
 binP .eql .ptr a0 .nilp fun v1 =>
 iteP v1
 (K (.tup [.str [], .int .i64 1]) h)
 (binP .lss .other a1 (.int .i64 0) fun v2 =>
 condP v2 false (fun k3 =>
 nilP a0 fun v4 =>
 fadP 1 v4 fun v5 =>
 ldP 1 false v5 h fun v6 =>
 lenP v6 fun v7 =>
 binP .geq .other a1 v7 fun v8 =>
 k3 v8 h)
 (.bool true) h fun v9 h =>
 iteP v9
 (K (.tup [.str [], .int .i64 202]) h)
 (nilP a0 fun v10 =>
 fadP 1 v10 fun v11 =>
 ldP 1 false v11 h fun v12 =>
 idxP 1 v12 a1 fun v13 =>
 ldP 1 false v13 h fun v14 =>
 K (.tup [v14, .int .i64 0]) h))
theorem q_book_Book_Term (S : FuncId → List AVal → AHeap A → (AVal → AHeap A → Prop) → Prop) (G : Nat → AHeap A → List AVal → (List AVal → AHeap A → Prop) → Prop) (a0 a1 : AVal) (h : AHeap A) (K : AVal → AHeap A → Prop) : funP Try.prog S G Try.f27 .leaf [a0, a1] h K = p_book_Book_Term S G a0 a1 h K := by kernel_rfl
theorem c_book_Book_Term {R : Adts A} {h : AHeap A} {K : AVal → AHeap A → Prop} {a0 a1 : AVal} (hk : p_book_Book_Term (Tri Pr R) (Gives Pr R) a0 a1 h K) : Tri Pr R n_book_Book_Term [a0, a1] h K :=
  tri_of_funP (by kernel_rfl) (fun _ _ _ _ h => h) (fun _ _ _ _ h => h) Try.func27 (by rw [q_book_Book_Term]; exact hk)
/-- (*bastion/bastionref1.Book).Name -/
def p_ref1_Book_Name (S : FuncId → List AVal → AHeap A → (AVal → AHeap A → Prop) → Prop) (G : Nat → AHeap A → List AVal → (List AVal → AHeap A → Prop) → Prop) (a0 a1 : AVal) (h : AHeap A) (K : AVal → AHeap A → Prop) : Prop :=
 lnsP a1 fun v1 =>
 binP .lss .other v1 (.int .i64 1) fun v2 =>
 condP v2 false (fun k3 =>
 lnsP a1 fun v4 =>
 binP .gtr .other v4 (.int .i64 512) fun v5 =>
 k3 v5 h)
 (.bool true) h fun v6 h =>
 iteP v6
 (K (.tup [.int .i64 0, .int .i64 200]) h)
 (S n_ref1_Book_Find [a0, a1] h fun v7 h =>
 extP v7 0 fun v8 =>
 extP v7 1 fun v9 =>
 iteP v9
 (K (.tup [v8, .int .i64 0]) h)
 (nilP a0 fun v10 =>
 fadP 1 v10 fun v11 =>
 nilP a0 fun v12 =>
 fadP 0 v12 fun v13 =>
 ldP 1 false v11 h fun v14 =>
 lenP v14 fun v15 =>
 ldP 1 false v13 h fun v16 =>
 ldV 1 false v11 h = some v14 ∧
 binP .geq .other v15 v16 fun v17 =>
 iteP v17
 (K (.tup [.int .i64 0, .int .i64 201]) h)
 (nilP a0 fun v18 =>
 fadP 1 v18 fun v19 =>
 ldP 1 false v19 h fun v20 =>
 bslP t_string 1 [.str []] [(0, 1, a1)] h fun v21 h =>
 appP t_string 1 16 v20 v21 h fun v22 h =>
 nilP a0 fun v23 =>
 fadP 1 v23 fun v24 =>
 stP 1 v24 v22 h fun h =>
 nilP a0 fun v25 =>
 fadP 1 v25 fun v26 =>
 ldP 1 false v26 h fun v27 =>
 lenP v27 fun v28 =>
 binP .sub .other v28 (.int .i64 1) fun v29 =>
 K (.tup [v29, .int .i64 0]) h)))
theorem q_ref1_Book_Name (S : FuncId → List AVal → AHeap A → (AVal → AHeap A → Prop) → Prop) (G : Nat → AHeap A → List AVal → (List AVal → AHeap A → Prop) → Prop) (a0 a1 : AVal) (h : AHeap A) (K : AVal → AHeap A → Prop) : funP Try.prog S G Try.f28 (.two none .leaf (.two none .leaf (.two none .leaf (.two none .leaf (.two none (.two none (.draw none (.take 0 (.take 1 (.take 2 (.take 5 (.take 6 (.take 7 (.load 3 (.take 4 (.alt 8 (.take 9 .stop) .stop)))))))))) .leaf) .leaf))))) [a0, a1] h K = p_ref1_Book_Name S G a0 a1 h K := by kernel_rfl
theorem c_ref1_Book_Name {R : Adts A} {h : AHeap A} {K : AVal → AHeap A → Prop} {a0 a1 : AVal} (hk : p_ref1_Book_Name (Tri Pr R) (Gives Pr R) a0 a1 h K) : Tri Pr R n_ref1_Book_Name [a0, a1] h K :=
  tri_of_funP (by kernel_rfl) (fun _ _ _ _ h => h) (fun _ _ _ _ h => h) Try.func28 (by rw [q_ref1_Book_Name]; exact hk)
/-- bastion/bastionref1.GetRecord -/
def p_ref1_GetRecord (S : FuncId → List AVal → AHeap A → (AVal → AHeap A → Prop) → Prop) (G : Nat → AHeap A → List AVal → (List AVal → AHeap A → Prop) → Prop) (a0 a1 a2 a3 : AVal) (h : AHeap A) (K : AVal → AHeap A → Prop) : Prop :=
 newP t_api_Record (reps 11 (.int .i64 0)) h fun v1 h =>
 bldP [.str [], .int .i64 0, .bool false] [(0, 1, a1)] fun v2 =>
 boxP t_bastionref1_Reader 3 v2 h fun v3 h =>
 S n_ref1_Reader_Num [v3] h fun v4 h =>
 bldP [.int .i64 0, .int .i64 0, .int .i64 0, .int .i64 0, .int .i64 0, .int .i64 0, .int .i64 0, .int .i64 0, .int .i64 0, .int .i64 0, .int .i64 0] [(0, 1, v4)] fun v5 =>
 newP t_api_Record (reps 11 (.int .i64 0)) h fun v6 h =>
 stP 11 v6 v5 h fun h =>
 S n_ref1_Reader_Num [v3] h fun v7 h =>
 fadP 1 v6 fun v8 =>
 stP 1 v8 v7 h fun h =>
 S n_ref1_Reader_Num [v3] h fun v9 h =>
 fadP 2 v6 fun v10 =>
 stP 1 v10 v9 h fun h =>
 S n_ref1_Reader_Text [v3] h fun v11 h =>
 nilP v3 fun v12 =>
 fadP 1 v12 fun v13 =>
 ldP 1 false v13 h fun v14 =>
 S n_ref1_Reader_Num [v3] h fun v15 h =>
 S n_ref1_GetEvent [v11] h fun v16 h =>
 extP v16 0 fun v17 =>
 extP v16 1 fun v18 =>
 newP t_api_Event [.int .i64 0, .int .i64 0, .int .i64 0, .int .i64 0, .int .i64 0, .int .i64 0, .int .i64 0, .int .i64 0] h fun v19 h =>
 stP 8 v19 v17 h fun h =>
 joinP G h.length (fun k20 =>
 lnsP a1 fun v21 =>
 binP .neq .other v21 (.int .i64 64) fun v22 =>
 iteP v22
 (k20 [.bool true] h)
 (nilP v3 fun v23 =>
 fadP 2 v23 fun v24 =>
 ldP 1 false v24 h fun v25 =>
 iteP v25
 (k20 [.bool true] h)
 (binP .neq .other v18 (.int .i64 0) fun v26 =>
 iteP v26
 (k20 [.bool true] h)
 (lnsP v11 fun v27 =>
 binP .gtr .other v27 (.int .i64 44) fun v28 =>
 iteP v28
 (k20 [.bool true] h)
 (fadP 0 v6 fun v29 =>
 ldP 1 false v29 h fun v30 =>
 binP .lss .other v30 (.int .i64 1) fun v31 =>
 iteP v31
 (k20 [.bool true] h)
 (fadP 1 v6 fun v32 =>
 ldP 1 false v32 h fun v33 =>
 binP .lss .other v33 (.int .i64 1) fun v34 =>
 iteP v34
 (k20 [.bool true] h)
 (nilP v3 fun v35 =>
 fadP 1 v35 fun v36 =>
 nilP v3 fun v37 =>
 fadP 1 v37 fun v38 =>
 ldP 1 false v36 h fun v39 =>
 subP a1 (some v39) none fun v40 =>
 ldP 1 false v38 h fun v41 =>
 ldV 1 false v36 h = some v39 ∧
 binP .sub .other (.int .i64 64) v41 fun v42 =>
 mkslP t_uint8 1 1 [.int .u8 0] v42 v42 h fun v43 h =>
 ldV 1 false v36 h = some v39 ∧
 b2sP v43 h fun v44 =>
 ldV 1 false v36 h = some v39 ∧
 binP .neq .other v40 v44 fun v45 =>
 iteP v45
 (k20 [.bool true] h)
 (subP a1 none (some v14) fun v46 =>
 binP .add .other (.str [114, 101, 99, 111, 114, 100]) v46 fun v47 =>
 S n_ref1_IsHash [a0, v47, v15] h fun v48 h =>
 notP v48 fun v49 =>
 k20 [v49] h))))))))
 (fun v67 h =>
 (fun v50 =>
 iteP v50
 (bldP [.int .i64 0, .int .i64 0, .int .i64 0, .int .i64 0, .int .i64 0, .int .i64 0, .int .i64 0, .int .i64 0, .int .i64 0, .int .i64 0, .int .i64 0] [] fun v51 =>
 stP 11 v1 v51 h fun h =>
 ldP 11 true v1 h fun v52 =>
 K (.tup [v52, .int .i64 0, .int .i64 900]) h)
 (fadP 0 v6 fun v53 =>
 ldP 1 false v53 h fun v54 =>
 binP .neq .other v54 a2 fun v55 =>
 condP v55 false (fun k56 =>
 fadP 2 v6 fun v57 =>
 ldP 1 false v57 h fun v58 =>
 binP .neq .other v58 a3 fun v59 =>
 k56 v59 h)
 (.bool true) h fun v60 h =>
 iteP v60
 (bldP [.int .i64 0, .int .i64 0, .int .i64 0, .int .i64 0, .int .i64 0, .int .i64 0, .int .i64 0, .int .i64 0, .int .i64 0, .int .i64 0, .int .i64 0] [] fun v61 =>
 stP 11 v1 v61 h fun h =>
 ldP 11 true v1 h fun v62 =>
 K (.tup [v62, .int .i64 0, .int .i64 901]) h)
 (ldP 8 true v19 h fun v63 =>
 fadP 3 v6 fun v64 =>
 stP 8 v64 v63 h fun h =>
 ldP 11 true v6 h fun v65 =>
 stP 11 v1 v65 h fun h =>
 ldP 11 true v1 h fun v66 =>
 K (.tup [v66, v15, .int .i64 0]) h))) (v67.getD 0 .any))
theorem q_ref1_GetRecord (S : FuncId → List AVal → AHeap A → (AVal → AHeap A → Prop) → Prop) (G : Nat → AHeap A → List AVal → (List AVal → AHeap A → Prop) → Prop) (a0 a1 a2 a3 : AVal) (h : AHeap A) (K : AVal → AHeap A → Prop) : funP Try.prog S G Try.f29 (.two none .leaf (.two none .leaf (.two none .leaf (.two none .leaf (.two none .leaf (.two none .leaf (.two none .leaf (.two none .leaf (.two none .leaf (.two none (.two none (.draw (some [96]) (.take 0 (.take 1 (.take 2 (.take 3 (.split 3 (.skip 4 (.skip 5 (.skip 6 (.skip 7 (.take 8 (.take 9 (.known 9 true (.skip 10 (.skip 11 (.take 12 (.take 13 (.known 13 true (.skip 14 (.skip 15 (.skip 16 (.take 17 (.take 18 (.known 18 true (.skip 19 (.skip 20 (.skip 21 (.take 22 (.take 23 (.known 23 true (.skip 24 (.skip 25 (.skip 26 (.take 27 (.take 28 (.known 28 true (.skip 29 (.skip 30 (.skip 31 (.skip 32 (.skip 33 (.skip 34 (.skip 35 (.skip 36 (.skip 37 (.skip 38 (.skip 39 (.skip 40 (.skip 41 (.skip 42 (.take 43 (.take 44 (.known 44 true (.skip 45 (.skip 46 (.skip 47 (.skip 48 (.skip 49 (.skip 50 (.skip 51 (.skip 52 (.take 53 .stop)))))))))))))))))))))))))))))))))))))))))))))))))))))))) (.take 4 (.take 5 (.take 6 (.alt 7 (.take 8 (.take 9 (.split 9 (.skip 10 (.skip 11 (.take 12 (.take 13 (.known 13 true (.skip 14 (.skip 15 (.skip 16 (.take 17 (.take 18 (.known 18 true (.skip 19 (.skip 20 (.skip 21 (.take 22 (.take 23 (.known 23 true (.skip 24 (.skip 25 (.skip 26 (.take 27 (.take 28 (.known 28 true (.skip 29 (.skip 30 (.skip 31 (.skip 32 (.skip 33 (.skip 34 (.skip 35 (.skip 36 (.skip 37 (.skip 38 (.skip 39 (.skip 40 (.skip 41 (.skip 42 (.take 43 (.take 44 (.known 44 true (.skip 45 (.skip 46 (.skip 47 (.skip 48 (.skip 49 (.skip 50 (.skip 51 (.skip 52 (.take 53 .stop))))))))))))))))))))))))))))))))))))))))))))))))) (.take 10 (.take 11 (.take 12 (.take 13 (.split 13 (.skip 14 (.skip 15 (.skip 16 (.take 17 (.take 18 (.known 18 true (.skip 19 (.skip 20 (.skip 21 (.take 22 (.take 23 (.known 23 true (.skip 24 (.skip 25 (.skip 26 (.take 27 (.take 28 (.known 28 true (.skip 29 (.skip 30 (.skip 31 (.skip 32 (.skip 33 (.skip 34 (.skip 35 (.skip 36 (.skip 37 (.skip 38 (.skip 39 (.skip 40 (.skip 41 (.skip 42 (.take 43 (.take 44 (.known 44 true (.skip 45 (.skip 46 (.skip 47 (.skip 48 (.skip 49 (.skip 50 (.skip 51 (.skip 52 (.take 53 .stop)))))))))))))))))))))))))))))))))))))))))))) (.take 14 (.take 15 (.take 16 (.take 17 (.take 18 (.split 18 (.skip 19 (.skip 20 (.skip 21 (.take 22 (.take 23 (.known 23 true (.skip 24 (.skip 25 (.skip 26 (.take 27 (.take 28 (.known 28 true (.skip 29 (.skip 30 (.skip 31 (.skip 32 (.skip 33 (.skip 34 (.skip 35 (.skip 36 (.skip 37 (.skip 38 (.skip 39 (.skip 40 (.skip 41 (.skip 42 (.take 43 (.take 44 (.known 44 true (.skip 45 (.skip 46 (.skip 47 (.skip 48 (.skip 49 (.skip 50 (.skip 51 (.skip 52 (.take 53 .stop)))))))))))))))))))))))))))))))))))))) (.take 19 (.alt 20 (.take 21 (.take 22 (.take 23 (.split 23 (.skip 24 (.skip 25 (.skip 26 (.take 27 (.take 28 (.known 28 true (.skip 29 (.skip 30 (.skip 31 (.skip 32 (.skip 33 (.skip 34 (.skip 35 (.skip 36 (.skip 37 (.skip 38 (.skip 39 (.skip 40 (.skip 41 (.skip 42 (.take 43 (.take 44 (.known 44 true (.skip 45 (.skip 46 (.skip 47 (.skip 48 (.skip 49 (.skip 50 (.skip 51 (.skip 52 (.take 53 .stop)))))))))))))))))))))))))))))))) (.take 24 (.alt 25 (.take 26 (.take 27 (.take 28 (.split 28 (.skip 29 (.skip 30 (.skip 31 (.skip 32 (.skip 33 (.skip 34 (.skip 35 (.skip 36 (.skip 37 (.skip 38 (.skip 39 (.skip 40 (.skip 41 (.skip 42 (.take 43 (.take 44 (.known 44 true (.skip 45 (.skip 46 (.skip 47 (.skip 48 (.skip 49 (.skip 50 (.skip 51 (.skip 52 (.take 53 .stop)))))))))))))))))))))))))) (.take 29 (.take 30 (.take 31 (.take 32 (.take 35 (.take 36 (.take 37 (.load 33 (.take 34 (.alt 38 (.take 39 (.alt 40 (.alt 41 (.take 42 (.take 43 (.take 44 (.split 44 (.skip 45 (.skip 46 (.skip 47 (.skip 48 (.skip 49 (.skip 50 (.skip 51 (.skip 52 (.take 53 .stop))))))))) (.take 45 (.take 46 (.take 47 (.take 48 (.take 49 (.take 50 (.alt 51 (.take 52 (.take 53 .stop)) .stop))))))))))) .stop) .stop)) .stop)))))))))))))) .stop)))))) .stop)))))))))))))))) .stop)))))))))) .leaf) .leaf)))))))))) [a0, a1, a2, a3] h K = p_ref1_GetRecord S G a0 a1 a2 a3 h K := by kernel_rfl
theorem c_ref1_GetRecord {R : Adts A} {h : AHeap A} {K : AVal → AHeap A → Prop} {a0 a1 a2 a3 : AVal} (hk : p_ref1_GetRecord (Tri Pr R) (Gives Pr R) a0 a1 a2 a3 h K) : Tri Pr R n_ref1_GetRecord [a0, a1, a2, a3] h K :=
  tri_of_funP (by kernel_rfl) (fun _ _ _ _ h => h) (fun _ _ _ _ h => h) Try.func29 (by rw [q_ref1_GetRecord]; exact hk)
/-- bastion/book.New -/
def p_book_New (S : FuncId → List AVal → AHeap A → (AVal → AHeap A → Prop) → Prop) (G : Nat → AHeap A → List AVal → (List AVal → AHeap A → Prop) → Prop) (a0 : AVal) (h : AHeap A) (K : AVal → AHeap A → Prop) : Prop :=
 binP .lss .other a0 (.int .i64 1) fun v1 =>
 condP v1 false (fun k2 =>
 binP .gtr .other a0 (.int .i64 65536) fun v3 =>
 k2 v3 h)
 (.bool true) h fun v4 h =>
 iteP v4
 (K (.tup [.nilp, .int .i64 200]) h)
 (mkmP h fun v5 h =>
 bldP [.int .i64 0, .nils, .nilm] [(0, 1, a0), (2, 1, v5)] fun v6 =>
 boxP t_book_Book 3 v6 h fun v7 h =>
 K (.tup [v7, .int .i64 0]) h)
theorem q_book_New (S : FuncId → List AVal → AHeap A → (AVal → AHeap A → Prop) → Prop) (G : Nat → AHeap A → List AVal → (List AVal → AHeap A → Prop) → Prop) (a0 : AVal) (h : AHeap A) (K : AVal → AHeap A → Prop) : funP Try.prog S G Try.f30 .leaf [a0] h K = p_book_New S G a0 h K := by kernel_rfl
theorem c_book_New {R : Adts A} {h : AHeap A} {K : AVal → AHeap A → Prop} {a0 : AVal} (hk : p_book_New (Tri Pr R) (Gives Pr R) a0 h K) : Tri Pr R n_book_New [a0] h K :=
  tri_of_funP (by kernel_rfl) (fun _ _ _ _ h => h) (fun _ _ _ _ h => h) Try.func30 (by rw [q_book_New]; exact hk)
/-- (*bastion/book.Book).Name -/
def p_book_Book_Name (S : FuncId → List AVal → AHeap A → (AVal → AHeap A → Prop) → Prop) (G : Nat → AHeap A → List AVal → (List AVal → AHeap A → Prop) → Prop) (a0 a1 : AVal) (h : AHeap A) (K : AVal → AHeap A → Prop) : Prop :=
 binP .eql .ptr a0 .nilp fun v1 =>
 iteP v1
 (K (.tup [.int .i64 0, .int .i64 1]) h)
 (binP .eql .other a1 (.str []) fun v2 =>
 condP v2 false (fun k3 =>
 lnsP a1 fun v4 =>
 binP .gtr .other v4 (.int .i64 512) fun v5 =>
 k3 v5 h)
 (.bool true) h fun v6 h =>
 iteP v6
 (K (.tup [.int .i64 0, .int .i64 200]) h)
 (nilP a0 fun v7 =>
 fadP 2 v7 fun v8 =>
 ldP 1 false v8 h fun v9 =>
 lkP true (.int .i64 0) true v9 a1 h fun v10 =>
 extP v10 0 fun v11 =>
 extP v10 1 fun v12 =>
 iteP v12
 (K (.tup [v11, .int .i64 0]) h)
 (nilP a0 fun v13 =>
 fadP 1 v13 fun v14 =>
 nilP a0 fun v15 =>
 fadP 0 v15 fun v16 =>
 ldP 1 false v14 h fun v17 =>
 lenP v17 fun v18 =>
 ldP 1 false v16 h fun v19 =>
 ldV 1 false v14 h = some v17 ∧
 binP .geq .other v18 v19 fun v20 =>
 iteP v20
 (K (.tup [.int .i64 0, .int .i64 201]) h)
 (nilP a0 fun v21 =>
 fadP 1 v21 fun v22 =>
 ldP 1 false v22 h fun v23 =>
 lenP v23 fun v24 =>
 nilP a0 fun v25 =>
 fadP 2 v25 fun v26 =>
 nilP a0 fun v27 =>
 fadP 1 v27 fun v28 =>
 ldP 1 false v26 h fun v29 =>
 ldP 1 false v28 h fun v30 =>
 bslP t_string 1 [.str []] [(0, 1, a1)] h fun v31 h =>
 ldV 1 false v28 h = some v30 ∧
 ldV 1 false v26 h = some v29 ∧
 appP t_string 1 16 v30 v31 h fun v32 h =>
 ldV 1 false v26 h = some v29 ∧
 nilP a0 fun v33 =>
 fadP 1 v33 fun v34 =>
 stP 1 v34 v32 h fun h =>
 mentP true (.int .i64 0) v29 a1 h fun v35 h =>
 extP v35 1 fun v36 =>
 estP v29 v36 v24 h fun h =>
 K (.tup [v24, .int .i64 0]) h))))
theorem q_book_Book_Name (S : FuncId → List AVal → AHeap A → (AVal → AHeap A → Prop) → Prop) (G : Nat → AHeap A → List AVal → (List AVal → AHeap A → Prop) → Prop) (a0 a1 : AVal) (h : AHeap A) (K : AVal → AHeap A → Prop) : funP Try.prog S G Try.f31 (.two none .leaf (.two none .leaf (.two none .leaf (.two none (.two none (.draw none (.take 0 (.take 1 (.take 2 (.take 5 (.take 6 (.take 7 (.load 3 (.take 4 (.alt 8 (.take 9 .stop) .stop)))))))))) .leaf) (.two none .leaf (.two none (.draw none (.take 0 (.take 1 (.take 2 (.take 3 (.take 5 (.take 6 (.take 7 (.take 8 (.take 10 (.take 13 (.load 4 (.load 9 (.alt 11 (.alt 12 (.take 14 (.take 15 (.alt 16 (.alt 17 (.take 18 (.alt 19 .stop .stop)) .stop) .stop))) .stop) .stop)))))))))))))) .leaf)))))) [a0, a1] h K = p_book_Book_Name S G a0 a1 h K := by kernel_rfl
theorem c_book_Book_Name {R : Adts A} {h : AHeap A} {K : AVal → AHeap A → Prop} {a0 a1 : AVal} (hk : p_book_Book_Name (Tri Pr R) (Gives Pr R) a0 a1 h K) : Tri Pr R n_book_Book_Name [a0, a1] h K :=
  tri_of_funP (by kernel_rfl) (fun _ _ _ _ h => h) (fun _ _ _ _ h => h) Try.func31 (by rw [q_book_Book_Name]; exact hk)
/-- bastion/disk.New -/
def p_disk_New (S : FuncId → List AVal → AHeap A → (AVal → AHeap A → Prop) → Prop) (G : Nat → AHeap A → List AVal → (List AVal → AHeap A → Prop) → Prop) (a0 : AVal) (h : AHeap A) (K : AVal → AHeap A → Prop) : Prop :=
 binP .lss .other a0 (.int .i64 1) fun v1 =>
 condP v1 false (fun k2 =>
 binP .gtr .other a0 (.int .i64 256) fun v3 =>
 k2 v3 h)
 (.bool true) h fun v4 h =>
 iteP v4
 (K (.tup [.nilp, .int .i64 800]) h)
 (mkslP t_string 1 16 [.str []] a0 a0 h fun v5 h =>
 bldP [.nils, .nils, .bool false] [(0, 1, v5)] fun v6 =>
 boxP t_disk_Disk 3 v6 h fun v7 h =>
 nilP v7 fun v8 =>
 fadP 0 v8 fun v9 =>
 ldP 1 false v9 h fun v10 =>
 lenP v10 fun v11 =>
 loopP G (fun v22 h k13 =>
 (fun v12 =>
 binP .lss .other v12 v11 fun v14 =>
 iteP v14
 (nilP v7 fun v15 =>
 fadP 0 v15 fun v16 =>
 ldP 1 false v16 h fun v17 =>
 mkslP t_uint8 1 1 [.int .u8 0] (.int .i64 64) (.int .i64 64) h fun v18 h =>
 ldV 1 false v16 h = some v17 ∧
 b2sP v18 h fun v19 =>
 ldV 1 false v16 h = some v17 ∧
 idxP 1 v17 v12 fun v20 =>
 stP 1 v20 v19 h fun h =>
 binP .add .other v12 (.int .i64 1) fun v21 =>
 k13 [v21] h)
 (K (.tup [v7, .int .i64 0]) h)) (v22.getD 0 .any)) [.int .i64 0] h)
theorem q_disk_New (S : FuncId → List AVal → AHeap A → (AVal → AHeap A → Prop) → Prop) (G : Nat → AHeap A → List AVal → (List AVal → AHeap A → Prop) → Prop) (a0 : AVal) (h : AHeap A) (K : AVal → AHeap A → Prop) : funP Try.prog S G Try.f32 (.two none .leaf (.two none .leaf (.two none .leaf (.two none (.two none .leaf (.one [] (.one [21] (.two none .leaf (.two none .leaf (.two none (.one [] (.two none .leaf (.draw none (.take 0 (.take 1 (.take 2 (.take 4 (.load 3 (.alt 5 (.alt 6 (.take 7 (.alt 8 .stop .stop)) .stop) .stop))))))))) .leaf)))))) .leaf)))) [a0] h K = p_disk_New S G a0 h K := by kernel_rfl
theorem c_disk_New {R : Adts A} {h : AHeap A} {K : AVal → AHeap A → Prop} {a0 : AVal} (hk : p_disk_New (Tri Pr R) (Gives Pr R) a0 h K) : Tri Pr R n_disk_New [a0] h K :=
  tri_of_funP (by kernel_rfl) (fun _ _ _ _ h => h) (fun _ _ _ _ h => h) Try.func32 (by rw [q_disk_New]; exact hk)
/-- bastion/bastionref1.NewDisk -/
def p_ref1_NewDisk (S : FuncId → List AVal → AHeap A → (AVal → AHeap A → Prop) → Prop) (G : Nat → AHeap A → List AVal → (List AVal → AHeap A → Prop) → Prop) (a0 : AVal) (h : AHeap A) (K : AVal → AHeap A → Prop) : Prop :=
 binP .lss .other a0 (.int .i64 1) fun v1 =>
 condP v1 false (fun k2 =>
 binP .gtr .other a0 (.int .i64 256) fun v3 =>
 k2 v3 h)
 (.bool true) h fun v4 h =>
 iteP v4
 (K (.tup [.nilp, .int .i64 800]) h)
 (bldP [.nils, .nils, .bool false] [] fun v5 =>
 boxP t_bastionref1_Disk 3 v5 h fun v6 h =>
 loopP G (fun v20 h k8 =>
 (fun v7 =>
 binP .lss .other v7 a0 fun v9 =>
 iteP v9
 (nilP v6 fun v10 =>
 fadP 0 v10 fun v11 =>
 ldP 1 false v11 h fun v12 =>
 mkslP t_uint8 1 1 [.int .u8 0] (.int .i64 64) (.int .i64 64) h fun v13 h =>
 ldV 1 false v11 h = some v12 ∧
 b2sP v13 h fun v14 =>
 ldV 1 false v11 h = some v12 ∧
 bslP t_string 1 [.str []] [(0, 1, v14)] h fun v15 h =>
 ldV 1 false v11 h = some v12 ∧
 appP t_string 1 16 v12 v15 h fun v16 h =>
 nilP v6 fun v17 =>
 fadP 0 v17 fun v18 =>
 stP 1 v18 v16 h fun h =>
 binP .add .other v7 (.int .i64 1) fun v19 =>
 k8 [v19] h)
 (K (.tup [v6, .int .i64 0]) h)) (v20.getD 0 .any)) [.int .i64 0] h)
theorem q_ref1_NewDisk (S : FuncId → List AVal → AHeap A → (AVal → AHeap A → Prop) → Prop) (G : Nat → AHeap A → List AVal → (List AVal → AHeap A → Prop) → Prop) (a0 : AVal) (h : AHeap A) (K : AVal → AHeap A → Prop) : funP Try.prog S G Try.f33 (.two none .leaf (.two none .leaf (.two none .leaf (.two none (.two none .leaf (.one [] (.one [5] (.two none .leaf (.two none (.one [] (.draw none (.take 0 (.take 1 (.take 2 (.take 3 (.load 4 (.alt 5 (.alt 6 (.alt 7 (.alt 8 (.take 9 (.take 10 (.alt 11 .stop .stop))) .stop) .stop) .stop) .stop)))))))) .leaf))))) .leaf)))) [a0] h K = p_ref1_NewDisk S G a0 h K := by kernel_rfl
theorem c_ref1_NewDisk {R : Adts A} {h : AHeap A} {K : AVal → AHeap A → Prop} {a0 : AVal} (hk : p_ref1_NewDisk (Tri Pr R) (Gives Pr R) a0 h K) : Tri Pr R n_ref1_NewDisk [a0] h K :=
  tri_of_funP (by kernel_rfl) (fun _ _ _ _ h => h) (fun _ _ _ _ h => h) Try.func33 (by rw [q_ref1_NewDisk]; exact hk)
/-- (*bastion/disk.Disk).Down -/
def p_disk_Disk_Down (S : FuncId → List AVal → AHeap A → (AVal → AHeap A → Prop) → Prop) (G : Nat → AHeap A → List AVal → (List AVal → AHeap A → Prop) → Prop) (a0 : AVal) (h : AHeap A) (K : AVal → AHeap A → Prop) : Prop :=
 nilP a0 fun v1 =>
 fadP 2 v1 fun v2 =>
 ldP 1 false v2 h fun v3 =>
 K v3 h
theorem q_disk_Disk_Down (S : FuncId → List AVal → AHeap A → (AVal → AHeap A → Prop) → Prop) (G : Nat → AHeap A → List AVal → (List AVal → AHeap A → Prop) → Prop) (a0 : AVal) (h : AHeap A) (K : AVal → AHeap A → Prop) : funP Try.prog S G Try.f34 .leaf [a0] h K = p_disk_Disk_Down S G a0 h K := by kernel_rfl
theorem c_disk_Disk_Down {R : Adts A} {h : AHeap A} {K : AVal → AHeap A → Prop} {a0 : AVal} (hk : p_disk_Disk_Down (Tri Pr R) (Gives Pr R) a0 h K) : Tri Pr R n_disk_Disk_Down [a0] h K :=
  tri_of_funP (by kernel_rfl) (fun _ _ _ _ h => h) (fun _ _ _ _ h => h) Try.func34 (by rw [q_disk_Disk_Down]; exact hk)
/-- (*bastion/disk.Disk).Size -/
def p_disk_Disk_Size (S : FuncId → List AVal → AHeap A → (AVal → AHeap A → Prop) → Prop) (G : Nat → AHeap A → List AVal → (List AVal → AHeap A → Prop) → Prop) (a0 : AVal) (h : AHeap A) (K : AVal → AHeap A → Prop) : Prop :=
 nilP a0 fun v1 =>
 fadP 0 v1 fun v2 =>
 ldP 1 false v2 h fun v3 =>
 lenP v3 fun v4 =>
 K v4 h
theorem q_disk_Disk_Size (S : FuncId → List AVal → AHeap A → (AVal → AHeap A → Prop) → Prop) (G : Nat → AHeap A → List AVal → (List AVal → AHeap A → Prop) → Prop) (a0 : AVal) (h : AHeap A) (K : AVal → AHeap A → Prop) : funP Try.prog S G Try.f35 .leaf [a0] h K = p_disk_Disk_Size S G a0 h K := by kernel_rfl
theorem c_disk_Disk_Size {R : Adts A} {h : AHeap A} {K : AVal → AHeap A → Prop} {a0 : AVal} (hk : p_disk_Disk_Size (Tri Pr R) (Gives Pr R) a0 h K) : Tri Pr R n_disk_Disk_Size [a0] h K :=
  tri_of_funP (by kernel_rfl) (fun _ _ _ _ h => h) (fun _ _ _ _ h => h) Try.func35 (by rw [q_disk_Disk_Size]; exact hk)
/-- (*bastion/journal.Journal).began -/
def p_journal_Journal_began (S : FuncId → List AVal → AHeap A → (AVal → AHeap A → Prop) → Prop) (G : Nat → AHeap A → List AVal → (List AVal → AHeap A → Prop) → Prop) (a0 : AVal) (h : AHeap A) (K : AVal → AHeap A → Prop) : Prop :=
 nilP a0 fun v1 =>
 fadP 1 v1 fun v2 =>
 ldP 1 false v2 h fun v3 =>
 S n_disk_Disk_Read [v3, .int .i64 0] h fun v4 h =>
 extP v4 0 fun v5 =>
 extP v4 1 fun v6 =>
 nilP a0 fun v7 =>
 fadP 1 v7 fun v8 =>
 ldP 1 false v8 h fun v9 =>
 S n_disk_Disk_Read [v9, .int .i64 1] h fun v10 h =>
 extP v10 0 fun v11 =>
 extP v10 1 fun v12 =>
 nilP a0 fun v13 =>
 fadP 0 v13 fun v14 =>
 ldP 1 false v14 h fun v15 =>
 S n_super_Pick [v15, v5, v11] h fun v16 h =>
 extP v16 0 fun v17 =>
 extP v16 1 fun v18 =>
 extP v16 2 fun v19 =>
 joinP G h.length (fun k20 =>
 mkiP t_api_Errno v19 fun v21 =>
 mkiP t_api_Errno (.int .i64 1001) fun v22 =>
 S n_errors_Is [v21, v22] h fun v23 h =>
 iteP v23
 (k20 [.int .i64 0, .int .i64 0] h)
 (k20 [v17, v18] h))
 (fun v49 h =>
 (fun v24 v25 =>
 nilP a0 fun v26 =>
 fadP 0 v26 fun v27 =>
 ldP 1 false v27 h fun v28 =>
 binP .add .other v24 (.int .i64 1) fun v29 =>
 S n_super_Put [v28, v29] h fun v30 h =>
 extP v30 0 fun v31 =>
 extP v30 1 fun v32 =>
 binP .neq .other v32 (.int .i64 0) fun v33 =>
 iteP v33
 (mkiP t_api_Errno (.int .i64 1101) fun v34 =>
 bldP [.int .i64 0, .nili] [(0, 1, .int .i64 0), (1, 1, v34)] fun v35 =>
 boxP t_journal_place 2 v35 h fun v36 h =>
 mkiP t_p_journal_place v36 fun v37 =>
 K v37 h)
 (binP .add .other v24 (.int .i64 1) fun v38 =>
 nilP a0 fun v39 =>
 fadP 2 v39 fun v40 =>
 stP 1 v40 v38 h fun h =>
 nilP a0 fun v41 =>
 fadP 1 v41 fun v42 =>
 ldP 1 false v42 h fun v43 =>
 S n_disk_Disk_Write [v43, v25, v31] h fun v44 h =>
 nilP a0 fun v45 =>
 fadP 1 v45 fun v46 =>
 ldP 1 false v46 h fun v47 =>
 S n_disk_Disk_Flush [v47] h fun v48 h =>
 K .nili h)) (v49.getD 0 .any) (v49.getD 1 .any))
theorem q_journal_Journal_began (S : FuncId → List AVal → AHeap A → (AVal → AHeap A → Prop) → Prop) (G : Nat → AHeap A → List AVal → (List AVal → AHeap A → Prop) → Prop) (a0 : AVal) (h : AHeap A) (K : AVal → AHeap A → Prop) : funP Try.prog S G Try.f36 (.two none .leaf (.two none .leaf (.two none .leaf (.two none .leaf (.two (some [7, 8]) .leaf .leaf))))) [a0] h K = p_journal_Journal_began S G a0 h K := by kernel_rfl
theorem c_journal_Journal_began {R : Adts A} {h : AHeap A} {K : AVal → AHeap A → Prop} {a0 : AVal} (hk : p_journal_Journal_began (Tri Pr R) (Gives Pr R) a0 h K) : Tri Pr R n_journal_Journal_began [a0] h K :=
  tri_of_funP (by kernel_rfl) (fun _ _ _ _ h => h) (fun _ _ _ _ h => h) Try.func36 (by rw [q_journal_Journal_began]; exact hk)
/-- (*bastion/journal.Journal).next -/
def p_journal_Journal_next (S : FuncId → List AVal → AHeap A → (AVal → AHeap A → Prop) → Prop) (G : Nat → AHeap A → List AVal → (List AVal → AHeap A → Prop) → Prop) (a0 : AVal) (h : AHeap A) (K : AVal → AHeap A → Prop) : Prop :=
 nilP a0 fun v1 =>
 fadP 4 v1 fun v2 =>
 ldP 1 false v2 h fun v3 =>
 lenP v3 fun v4 =>
 binP .add .other v4 (.int .i64 1) fun v5 =>
 nilP a0 fun v6 =>
 fadP 1 v6 fun v7 =>
 ldP 1 false v7 h fun v8 =>
 binP .add .other (.int .i64 2) v5 fun v9 =>
 binP .sub .other v9 (.int .i64 1) fun v10 =>
 S n_disk_Disk_Read [v8, v10] h fun v11 h =>
 extP v11 0 fun v12 =>
 extP v11 1 fun v13 =>
 binP .neq .other v13 (.int .i64 0) fun v14 =>
 iteP v14
 (mkiP t_api_Errno v13 fun v15 =>
 bldP [.int .i64 0, .nili] [(0, 1, v5), (1, 1, v15)] fun v16 =>
 boxP t_journal_place 2 v16 h fun v17 h =>
 mkiP t_p_journal_place v17 fun v18 =>
 K v18 h)
 (joinP G h.length (fun k19 =>
 nilP a0 fun v20 =>
 fadP 0 v20 fun v21 =>
 nilP a0 fun v22 =>
 fadP 3 v22 fun v23 =>
 ldP 1 false v21 h fun v24 =>
 ldP 1 false v23 h fun v25 =>
 (S n_record_Get [v24, v12, v5, v25] h fun v26 h =>
 extP v26 0 fun v27 =>
 extP v26 1 fun v28 =>
 extP v26 2 fun v29 =>
 newP t_api_Record (reps 11 (.int .i64 0)) h fun v30 h =>
 stP 11 v30 v27 h fun h =>
 k19 [v29, v30, v28] h) ∧
 (newP t_api_Record (reps 11 (.int .i64 0)) h fun v31 h =>
 ldV 1 false v23 h = some v25 ∧
 ldV 1 false v21 h = some v24 ∧
 S n_record_Get [v24, v12, v5, v25] h fun v32 h =>
 extP v32 0 fun v33 =>
 extP v32 1 fun v34 =>
 extP v32 2 fun v35 =>
 stP 11 v31 v33 h fun h =>
 k19 [v35, v31, v34] h))
 (fun v55 h =>
 (fun v36 v37 v38 =>
 binP .neq .other v36 (.int .i64 0) fun v39 =>
 iteP v39
 (mkiP t_api_Errno v36 fun v40 =>
 bldP [.int .i64 0, .nili] [(0, 1, v5), (1, 1, v40)] fun v41 =>
 boxP t_journal_place 2 v41 h fun v42 h =>
 mkiP t_p_journal_place v42 fun v43 =>
 K v43 h)
 (nilP a0 fun v44 =>
 fadP 4 v44 fun v45 =>
 fadP 3 v37 fun v46 =>
 ldP 1 false v45 h fun v47 =>
 ldP 8 true v46 h fun v48 =>
 ldV 1 false v45 h = some v47 ∧
 bslP t_api_Event 1 [.int .i64 0, .int .i64 0, .int .i64 0, .int .i64 0, .int .i64 0, .int .i64 0, .int .i64 0, .int .i64 0] [(0, 8, v48)] h fun v49 h =>
 ldV 1 false v45 h = some v47 ∧
 appP t_api_Event 8 64 v47 v49 h fun v50 h =>
 nilP a0 fun v51 =>
 fadP 4 v51 fun v52 =>
 stP 1 v52 v50 h fun h =>
 nilP a0 fun v53 =>
 fadP 3 v53 fun v54 =>
 stP 1 v54 v38 h fun h =>
 K .nili h)) (v55.getD 0 .any) (v55.getD 1 .any) (v55.getD 2 .any)))
theorem q_journal_Journal_next (S : FuncId → List AVal → AHeap A → (AVal → AHeap A → Prop) → Prop) (G : Nat → AHeap A → List AVal → (List AVal → AHeap A → Prop) → Prop) (a0 : AVal) (h : AHeap A) (K : AVal → AHeap A → Prop) : funP Try.prog S G Try.f38 (.two none .leaf (.two none .leaf (.two none .leaf (.two none .leaf (.two none (.draw (some [5, 6, 7]) (.take 0 (.take 1 (.take 2 (.take 4 (.take 5 (.take 6 (.take 7 (.take 8 (.load 3 (.load 9 (.alt 10 (.take 11 (.take 12 (.take 13 (.take 14 (.alt 15 (.alt 16 (.take 17 (.take 18 .stop)) .stop) .stop))))) (.alt 15 (.alt 10 (.take 11 (.take 12 (.take 13 (.take 14 (.alt 16 (.take 17 (.take 18 .stop)) .stop))))) .stop) .stop))))))))))))) (.two none .leaf (.two none (.draw none (.take 0 (.take 1 (.take 2 (.take 3 (.take 4 (.take 6 (.take 10 (.load 5 (.alt 7 (.alt 8 (.alt 9 (.take 11 (.take 12 (.alt 13 (.take 14 (.take 15 (.alt 16 .stop .stop))) .stop))) .stop) .stop) .stop)))))))))) .leaf))))))) [a0] h K = p_journal_Journal_next S G a0 h K := by kernel_rfl
theorem c_journal_Journal_next {R : Adts A} {h : AHeap A} {K : AVal → AHeap A → Prop} {a0 : AVal} (hk : p_journal_Journal_next (Tri Pr R) (Gives Pr R) a0 h K) : Tri Pr R n_journal_Journal_next [a0] h K :=
  tri_of_funP (by kernel_rfl) (fun _ _ _ _ h => h) (fun _ _ _ _ h => h) Try.func38 (by rw [q_journal_Journal_next]; exact hk)
/-- (*bastion/journal.Journal).written -/
def p_journal_Journal_written (S : FuncId → List AVal → AHeap A → (AVal → AHeap A → Prop) → Prop) (G : Nat → AHeap A → List AVal → (List AVal → AHeap A → Prop) → Prop) (a0 a1 : AVal) (h : AHeap A) (K : AVal → AHeap A → Prop) : Prop :=
 binP .eql .ptr a0 .nilp fun v1 =>
 iteP v1
 (K (.tup [.int .i64 0, .int .i64 1]) h)
 (nilP a0 fun v2 =>
 fadP 5 v2 fun v3 =>
 ldP 1 false v3 h fun v4 =>
 condP v4 false (fun k5 =>
 nilP a0 fun v6 =>
 fadP 1 v6 fun v7 =>
 ldP 1 false v7 h fun v8 =>
 S n_disk_Disk_Down [v8] h fun v9 h =>
 k5 v9 h)
 (.bool true) h fun v10 h =>
 iteP v10
 (K (.tup [.int .i64 0, .int .i64 1102]) h)
 (S n_slices_ContainsFunc_api_Event [a1, .fn (.func n_journal_Journal_written_c1) [] []] h fun v11 h =>
 iteP v11
 (K (.tup [.int .i64 0, .int .i64 1100]) h)
 (lenP a1 fun v12 =>
 S n_journal_Journal_Room [a0] h fun v13 h =>
 binP .gtr .other v12 v13 fun v14 =>
 iteP v14
 (K (.tup [.int .i64 0, .int .i64 1101]) h)
 (nilP a0 fun v15 =>
 fadP 3 v15 fun v16 =>
 ldP 1 false v16 h fun v17 =>
 lenP a1 fun v18 =>
 loopP G (fun v67 h k22 =>
 (fun v19 v20 v21 =>
 binP .lss .other v21 v18 fun v23 =>
 iteP v23
 (idxP 8 a1 v21 fun v24 =>
 ldP 8 true v24 h fun v25 =>
 newP t_api_Event [.int .i64 0, .int .i64 0, .int .i64 0, .int .i64 0, .int .i64 0, .int .i64 0, .int .i64 0, .int .i64 0] h fun v26 h =>
 stP 8 v26 v25 h fun h =>
 nilP a0 fun v27 =>
 fadP 0 v27 fun v28 =>
 nilP a0 fun v29 =>
 fadP 4 v29 fun v30 =>
 nilP a0 fun v31 =>
 fadP 2 v31 fun v32 =>
 ldP 1 false v28 h fun v33 =>
 ldP 1 false v30 h fun v34 =>
 lenP v34 fun v35 =>
 binP .add .other v35 v21 fun v36 =>
 binP .add .other v36 (.int .i64 1) fun v37 =>
 ldP 1 false v32 h fun v38 =>
 ldP 8 true v26 h fun v39 =>
 ldV 1 false v32 h = some v38 ∧
 ldV 1 false v30 h = some v34 ∧
 ldV 1 false v28 h = some v33 ∧
 bldP [.int .i64 0, .int .i64 0, .int .i64 0, .int .i64 0, .int .i64 0, .int .i64 0, .int .i64 0, .int .i64 0, .int .i64 0, .int .i64 0, .int .i64 0] [(0, 1, v37), (1, 1, v38), (2, 1, v20), (3, 8, v39)] fun v40 =>
 S n_record_Put [v33, v40] h fun v41 h =>
 extP v41 0 fun v42 =>
 extP v41 1 fun v43 =>
 extP v41 2 fun v44 =>
 binP .neq .other v44 (.int .i64 0) fun v45 =>
 iteP v45
 (K (.tup [.int .i64 0, .int .i64 1101]) h)
 (bslP t_string 1 [.str []] [(0, 1, v42)] h fun v46 h =>
 appP t_string 1 16 v19 v46 h fun v47 h =>
 binP .add .other v21 (.int .i64 1) fun v48 =>
 k22 [v47, v43, v48] h))
 (lenP v19 fun v49 =>
 loopP G (fun v66 h k51 =>
 (fun v50 =>
 binP .lss .other v50 v49 fun v52 =>
 iteP v52
 (idxP 1 v19 v50 fun v53 =>
 ldP 1 false v53 h fun v54 =>
 nilP a0 fun v55 =>
 fadP 1 v55 fun v56 =>
 nilP a0 fun v57 =>
 fadP 4 v57 fun v58 =>
 ldP 1 false v56 h fun v59 =>
 ldP 1 false v58 h fun v60 =>
 ldV 1 false v56 h = some v59 ∧
 lenP v60 fun v61 =>
 binP .add .other (.int .i64 2) v61 fun v62 =>
 binP .add .other v62 v50 fun v63 =>
 S n_disk_Disk_Write [v59, v63, v54] h fun v64 h =>
 binP .add .other v50 (.int .i64 1) fun v65 =>
 k51 [v65] h)
 (K (.tup [v20, .int .i64 0]) h)) (v66.getD 0 .any)) [.int .i64 0] h)) (v67.getD 0 .any) (v67.getD 1 .any) (v67.getD 2 .any)) [.nils, v17, .int .i64 0] h))))
theorem q_journal_Journal_written (S : FuncId → List AVal → AHeap A → (AVal → AHeap A → Prop) → Prop) (G : Nat → AHeap A → List AVal → (List AVal → AHeap A → Prop) → Prop) (a0 a1 : AVal) (h : AHeap A) (K : AVal → AHeap A → Prop) : funP Try.prog S G Try.f39 (.two none .leaf (.two none .leaf (.two none .leaf (.two none .leaf (.two none .leaf (.two none (.two none .leaf (.one [] (.one [7, 8, 47] (.two none .leaf (.two none .leaf (.two none (.one [] (.two none .leaf (.two none (.draw none (.take 0 (.take 1 (.take 2 (.take 4 (.take 5 (.take 6 (.take 9 (.take 12 (.take 13 (.take 14 (.take 16 (.load 3 (.load 7 (.take 8 (.take 10 (.take 11 (.load 15 (.alt 17 (.take 18 (.alt 19 (.take 20 (.take 21 (.take 22 (.take 23 (.take 24 (.take 25 (.take 26 .stop))))))) .stop)) .stop))))))))))))))))))) .leaf))) .leaf)))))) (.two none (.two none .leaf (.one [] (.one [86] (.two none .leaf (.two none .leaf (.two none (.one [] (.two none .leaf (.draw none (.take 0 (.take 1 (.take 2 (.take 4 (.take 5 (.take 6 (.take 10 (.take 12 (.load 3 (.alt 7 (.take 8 (.take 9 (.take 11 (.alt 13 .stop .stop)))) .stop))))))))))))) .leaf)))))) .leaf))))))) [a0, a1] h K = p_journal_Journal_written S G a0 a1 h K := by kernel_rfl
theorem c_journal_Journal_written {R : Adts A} {h : AHeap A} {K : AVal → AHeap A → Prop} {a0 a1 : AVal} (hk : p_journal_Journal_written (Tri Pr R) (Gives Pr R) a0 a1 h K) : Tri Pr R n_journal_Journal_written [a0, a1] h K :=
  tri_of_funP (by kernel_rfl) (fun _ _ _ _ h => h) (fun _ _ _ _ h => h) Try.func39 (by rw [q_journal_Journal_written]; exact hk)
/-- slices.Clone[[]bastion/api.Event,bastion/api.Event] -/
def p_slices_Clone_api_Event (S : FuncId → List AVal → AHeap A → (AVal → AHeap A → Prop) → Prop) (G : Nat → AHeap A → List AVal → (List AVal → AHeap A → Prop) → Prop) (a0 : AVal) (h : AHeap A) (K : AVal → AHeap A → Prop) : Prop :=
 binP .eql .sl a0 .nils fun v1 =>
 iteP v1
 (K .nils h)
 (bslP t_api_Event 0 [] [] h fun v2 h =>
 appP t_api_Event 8 64 v2 a0 h fun v3 h =>
 K v3 h)
theorem q_slices_Clone_api_Event (S : FuncId → List AVal → AHeap A → (AVal → AHeap A → Prop) → Prop) (G : Nat → AHeap A → List AVal → (List AVal → AHeap A → Prop) → Prop) (a0 : AVal) (h : AHeap A) (K : AVal → AHeap A → Prop) : funP Try.prog S G Try.f40 .leaf [a0] h K = p_slices_Clone_api_Event S G a0 h K := by kernel_rfl
theorem c_slices_Clone_api_Event {R : Adts A} {h : AHeap A} {K : AVal → AHeap A → Prop} {a0 : AVal} (hk : p_slices_Clone_api_Event (Tri Pr R) (Gives Pr R) a0 h K) : Tri Pr R n_slices_Clone_api_Event [a0] h K :=
  tri_of_funP (by kernel_rfl) (fun _ _ _ _ h => h) (fun _ _ _ _ h => h) Try.func40 (by rw [q_slices_Clone_api_Event]; exact hk)
/-- (*bastion/disk.Disk).Flush -/
def p_disk_Disk_Flush (S : FuncId → List AVal → AHeap A → (AVal → AHeap A → Prop) → Prop) (G : Nat → AHeap A → List AVal → (List AVal → AHeap A → Prop) → Prop) (a0 : AVal) (h : AHeap A) (K : AVal → AHeap A → Prop) : Prop :=
 binP .eql .ptr a0 .nilp fun v1 =>
 iteP v1
 (K (.int .i64 1) h)
 (nilP a0 fun v2 =>
 fadP 2 v2 fun v3 =>
 ldP 1 false v3 h fun v4 =>
 iteP v4
 (K (.int .i64 801) h)
 (nilP a0 fun v5 =>
 fadP 1 v5 fun v6 =>
 ldP 1 false v6 h fun v7 =>
 lenP v7 fun v8 =>
 loopP G (fun v26 h k10 =>
 (fun v9 =>
 binP .lss .other v9 v8 fun v11 =>
 iteP v11
 (idxP 2 v7 v9 fun v12 =>
 ldP 2 true v12 h fun v13 =>
 newP t_disk_write [.int .i64 0, .str []] h fun v14 h =>
 stP 2 v14 v13 h fun h =>
 nilP a0 fun v15 =>
 fadP 0 v15 fun v16 =>
 fadP 0 v14 fun v17 =>
 fadP 1 v14 fun v18 =>
 ldP 1 false v16 h fun v19 =>
 ldP 1 false v17 h fun v20 =>
 ldP 1 false v18 h fun v21 =>
 ldV 1 false v17 h = some v20 ∧
 ldV 1 false v16 h = some v19 ∧
 idxP 1 v19 v20 fun v22 =>
 stP 1 v22 v21 h fun h =>
 binP .add .other v9 (.int .i64 1) fun v23 =>
 k10 [v23] h)
 (nilP a0 fun v24 =>
 fadP 1 v24 fun v25 =>
 stP 1 v25 .nils h fun h =>
 K (.int .i64 0) h)) (v26.getD 0 .any)) [.int .i64 0] h))
theorem q_disk_Disk_Flush (S : FuncId → List AVal → AHeap A → (AVal → AHeap A → Prop) → Prop) (G : Nat → AHeap A → List AVal → (List AVal → AHeap A → Prop) → Prop) (a0 : AVal) (h : AHeap A) (K : AVal → AHeap A → Prop) : funP Try.prog S G Try.f41 (.two none .leaf (.two none .leaf (.two none (.two none .leaf (.one [] (.one [18] (.two none .leaf (.two none .leaf (.two none (.one [] (.two none .leaf (.draw none (.take 0 (.take 1 (.take 2 (.take 4 (.take 6 (.load 3 (.load 5 (.alt 7 (.take 8 (.alt 9 .stop .stop)) .stop))))))))))) .leaf)))))) .leaf))) [a0] h K = p_disk_Disk_Flush S G a0 h K := by kernel_rfl
theorem c_disk_Disk_Flush {R : Adts A} {h : AHeap A} {K : AVal → AHeap A → Prop} {a0 : AVal} (hk : p_disk_Disk_Flush (Tri Pr R) (Gives Pr R) a0 h K) : Tri Pr R n_disk_Disk_Flush [a0] h K :=
  tri_of_funP (by kernel_rfl) (fun _ _ _ _ h => h) (fun _ _ _ _ h => h) Try.func41 (by rw [q_disk_Disk_Flush]; exact hk)
/-- (*bastion/disk.Disk).there -/
def p_disk_Disk_there (S : FuncId → List AVal → AHeap A → (AVal → AHeap A → Prop) → Prop) (G : Nat → AHeap A → List AVal → (List AVal → AHeap A → Prop) → Prop) (a0 a1 : AVal) (h : AHeap A) (K : AVal → AHeap A → Prop) : Prop :=
 binP .geq .other a1 (.int .i64 0) fun v1 =>
 condP v1 true (fun k2 =>
 nilP a0 fun v3 =>
 fadP 0 v3 fun v4 =>
 ldP 1 false v4 h fun v5 =>
 lenP v5 fun v6 =>
 binP .lss .other a1 v6 fun v7 =>
 k2 v7 h)
 (.bool false) h fun v8 h =>
 K v8 h
theorem q_disk_Disk_there (S : FuncId → List AVal → AHeap A → (AVal → AHeap A → Prop) → Prop) (G : Nat → AHeap A → List AVal → (List AVal → AHeap A → Prop) → Prop) (a0 a1 : AVal) (h : AHeap A) (K : AVal → AHeap A → Prop) : funP Try.prog S G Try.f42 .leaf [a0, a1] h K = p_disk_Disk_there S G a0 a1 h K := by kernel_rfl
theorem c_disk_Disk_there {R : Adts A} {h : AHeap A} {K : AVal → AHeap A → Prop} {a0 a1 : AVal} (hk : p_disk_Disk_there (Tri Pr R) (Gives Pr R) a0 a1 h K) : Tri Pr R n_disk_Disk_there [a0, a1] h K :=
  tri_of_funP (by kernel_rfl) (fun _ _ _ _ h => h) (fun _ _ _ _ h => h) Try.func42 (by rw [q_disk_Disk_there]; exact hk)
end Go.AI
