/- The functions as texts over the abstract heap. -/
import Derived.Test.YtnhclbecbagmfaaNm
import Derived.KernelRfl
set_option linter.all false
namespace Go.AI
open Go.Proofs
set_option maxRecDepth 1000000
variable {A : Type}
/-- bastion/bastionlaw15.TicketMany -/
def p_law15_TicketMany (S : FuncId → List AVal → AHeap A → (AVal → AHeap A → Prop) → Prop) (G : Nat → AHeap A → List AVal → (List AVal → AHeap A → Prop) → Prop) (a0 a1 a2 : AVal) (h : AHeap A) (K : AVal → AHeap A → Prop) : Prop :=
 S n_law15_awake [] h fun v1 h =>
 notP v1 fun v2 =>
 iteP v2
 (K (.bool false) h)
 (S n_law15_twin [.int .i64 99, .nils] h fun v3 h =>
 extP v3 0 fun v4 =>
 extP v3 1 fun v5 =>
 binP .eql .ptr v4 .nilp fun v6 =>
 iteP v6
 (K (.bool false) h)
 (lenP a0 fun v7 =>
 minP [v7, .int .i64 12] fun v8 =>
 loopP G (fun v63 h k11 =>
 (fun v9 v10 =>
 binP .lss .other v10 v8 fun v12 =>
 iteP v12
 (idxP 1 a0 v10 fun v13 =>
 ldP 1 false v13 h fun v14 =>
 binP .and .other v14 (.int .i64 7) fun v15 =>
 binP .and .other v10 (.int .i64 7) fun v16 =>
 bldP [.int .i64 0, .int .i64 0, .int .i64 0, .int .i64 0, .int .i64 0] [(0, 1, v16), (3, 1, v10), (4, 1, .int .i64 5)] fun v17 =>
 S n_ticket_Put [v4, v15, v17] h fun v18 h =>
 extP v18 0 fun v19 =>
 extP v18 1 fun v20 =>
 S n_law0_Num [v20] h fun v21 h =>
 binP .neq .other v21 (.int .i64 0) fun v22 =>
 iteP v22
 (K (.bool false) h)
 (bslP t_int 1 [.int .i64 0] [(0, 1, v19)] h fun v23 h =>
 appP t_int 1 8 v9 v23 h fun v24 h =>
 binP .add .other v10 (.int .i64 1) fun v25 =>
 k11 [v24, v25] h))
 (binP .and .other a1 (.int .i64 15) fun v26 =>
 cviP .u64 a2 fun v27 =>
 binP .rem .other v27 (.int .u64 5) fun v28 =>
 cviP .i64 v28 fun v29 =>
 S n_book_Book_Len [v4] h fun v30 h =>
 loopP G (fun v62 h k32 =>
 (fun v31 =>
 binP .lss .other v31 v8 fun v33 =>
 iteP v33
 (idxP 1 v9 v31 fun v34 =>
 ldP 1 false v34 h fun v35 =>
 S n_ticket_Get [v4, v26, v29, v35] h fun v36 h =>
 extP v36 0 fun v37 =>
 extP v36 1 fun v38 =>
 newP t_api_Body [.int .i64 0, .int .i64 0, .int .i64 0, .int .i64 0, .int .i64 0] h fun v39 h =>
 stP 5 v39 v37 h fun h =>
 idxP 1 a0 v31 fun v40 =>
 ldP 1 false v40 h fun v41 =>
 binP .and .other v41 (.int .i64 7) fun v42 =>
 binP .leq .other v42 v26 fun v43 =>
 condP v43 true (fun k44 =>
 binP .sub .other v26 v42 fun v45 =>
 binP .leq .other v45 v29 fun v46 =>
 k44 v46 h)
 (.bool false) h fun v47 h =>
 S n_law0_Num [v38] h fun v48 h =>
 binP .eql .other v48 (.int .i64 0) fun v49 =>
 binP .neq .bl v49 v47 fun v50 =>
 condP v50 false (fun k51 =>
 condP v47 true (fun k52 =>
 ldP 5 true v39 h fun v53 =>
 binP .and .other v31 (.int .i64 7) fun v54 =>
 bldP [.int .i64 0, .int .i64 0, .int .i64 0, .int .i64 0, .int .i64 0] [(0, 1, v54), (3, 1, v31), (4, 1, .int .i64 5)] fun v55 =>
 binP .neq (.shape (.st [(0, 1, .i), (1, 1, .i), (2, 1, .i), (3, 1, .i), (4, 1, .i)])) v53 v55 fun v56 =>
 k52 v56 h)
 (.bool false) h fun v57 h =>
 k51 v57 h)
 (.bool true) h fun v58 h =>
 iteP v58
 (K (.bool false) h)
 (binP .add .other v31 (.int .i64 1) fun v59 =>
 k32 [v59] h))
 (S n_book_Book_Len [v4] h fun v60 h =>
 binP .eql .other v60 v30 fun v61 =>
 K v61 h)) (v62.getD 0 .any)) [.int .i64 0] h)) (v63.getD 0 .any) (v63.getD 1 .any)) [.nils, .int .i64 0] h))
theorem q_law15_TicketMany (S : FuncId → List AVal → AHeap A → (AVal → AHeap A → Prop) → Prop) (G : Nat → AHeap A → List AVal → (List AVal → AHeap A → Prop) → Prop) (a0 a1 a2 : AVal) (h : AHeap A) (K : AVal → AHeap A → Prop) : funP Try.prog S G Try.f3 (.two none .leaf (.two none .leaf (.two none .leaf (.two none .leaf (.two none .leaf (.two none .leaf (.two none (.two none .leaf (.one [] (.one [9, 11] .leaf))) (.two none .leaf (.two none .leaf (.two none (.two none .leaf (.one [] (.one [17] .leaf))) .leaf)))))))))) [a0, a1, a2] h K = p_law15_TicketMany S G a0 a1 a2 h K := by kernel_rfl
theorem c_law15_TicketMany {R : Adts A} {h : AHeap A} {K : AVal → AHeap A → Prop} {a0 a1 a2 : AVal} (hk : p_law15_TicketMany (Tri Pr R) (Gives Pr R) a0 a1 a2 h K) : Tri Pr R n_law15_TicketMany [a0, a1, a2] h K :=
  tri_of_funP (by kernel_rfl) (fun _ _ _ _ h => h) (fun _ _ _ _ h => h) Try.func3 (by rw [q_law15_TicketMany]; exact hk)
end Go.AI
