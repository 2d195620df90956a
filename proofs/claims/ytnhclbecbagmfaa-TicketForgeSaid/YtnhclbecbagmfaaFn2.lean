/- The functions as texts over the abstract heap. -/
import Derived.Test.YtnhclbecbagmfaaNm
import Derived.KernelRfl
set_option linter.all false
namespace Go.AI
open Go.Proofs
set_option maxRecDepth 1000000
variable {A : Type}
/-- bastion/bastionlaw15.TicketForms -/
def p_law15_TicketForms (S : FuncId → List AVal → AHeap A → (AVal → AHeap A → Prop) → Prop) (G : Nat → AHeap A → List AVal → (List AVal → AHeap A → Prop) → Prop) (a0 a1 : AVal) (h : AHeap A) (K : AVal → AHeap A → Prop) : Prop :=
 S n_law15_awake [] h fun v1 h =>
 notP v1 fun v2 =>
 iteP v2
 (K (.bool false) h)
 (binP .and .other a1 (.int .i64 1023) fun v3 =>
 binP .add .other (.int .i64 1) v3 fun v4 =>
 S n_law15_twin [.int .i64 2, .nils] h fun v5 h =>
 extP v5 0 fun v6 =>
 extP v5 1 fun v7 =>
 binP .eql .ptr v6 .nilp fun v8 =>
 iteP v8
 (K (.bool false) h)
 (bldP [.int .i64 0, .int .i64 0, .int .i64 0, .int .i64 0, .int .i64 0] [(0, 1, .int .i64 7), (1, 1, .int .i64 1073741823), (2, 1, .int .i64 1073741823), (3, 1, .int .i64 1073741823), (4, 1, .int .i64 1073741823)] fun v9 =>
 newP t_api_Body [.int .i64 0, .int .i64 0, .int .i64 0, .int .i64 0, .int .i64 0] h fun v10 h =>
 stP 5 v10 v9 h fun h =>
 ldP 5 true v10 h fun v11 =>
 S n_ticket_Put [v6, .int .i64 3, v11] h fun v12 h =>
 extP v12 0 fun v13 =>
 extP v12 1 fun v14 =>
 ldP 5 true v10 h fun v15 =>
 newP t_api_Body [.int .i64 0, .int .i64 0, .int .i64 0, .int .i64 0, .int .i64 0] h fun v16 h =>
 stP 5 v16 v15 h fun h =>
 joinP G h.length (fun k17 =>
 cviP .u64 a0 fun v18 =>
 binP .rem .other v18 (.int .u64 9) fun v19 =>
 binP .eql .other v19 (.int .u64 0) fun v20 =>
 iteP v20
 (binP .add .other (.int .i64 7) v4 fun v21 =>
 fadP 0 v16 fun v22 =>
 stP 1 v22 v21 h fun h =>
 k17 [.int .i64 3] h)
 (binP .eql .other v19 (.int .u64 1) fun v23 =>
 iteP v23
 (negP v4 fun v24 =>
 fadP 0 v16 fun v25 =>
 stP 1 v25 v24 h fun h =>
 k17 [.int .i64 3] h)
 (binP .eql .other v19 (.int .u64 2) fun v26 =>
 iteP v26
 (negP v4 fun v27 =>
 fadP 1 v16 fun v28 =>
 stP 1 v28 v27 h fun h =>
 k17 [.int .i64 3] h)
 (binP .eql .other v19 (.int .u64 3) fun v29 =>
 iteP v29
 (binP .add .other (.int .i64 1073741823) v4 fun v30 =>
 fadP 2 v16 fun v31 =>
 stP 1 v31 v30 h fun h =>
 k17 [.int .i64 3] h)
 (binP .eql .other v19 (.int .u64 4) fun v32 =>
 iteP v32
 (negP v4 fun v33 =>
 fadP 3 v16 fun v34 =>
 stP 1 v34 v33 h fun h =>
 k17 [.int .i64 3] h)
 (binP .eql .other v19 (.int .u64 5) fun v35 =>
 iteP v35
 (binP .add .other (.int .i64 1073741823) v4 fun v36 =>
 fadP 4 v16 fun v37 =>
 stP 1 v37 v36 h fun h =>
 k17 [.int .i64 3] h)
 (binP .eql .other v19 (.int .u64 6) fun v38 =>
 iteP v38
 (negP v4 fun v39 =>
 k17 [v39] h)
 (binP .eql .other v19 (.int .u64 7) fun v40 =>
 iteP v40
 (binP .add .other (.int .i64 3) v4 fun v41 =>
 k17 [v41] h)
 (binP .sub .other (.int .i64 1073741823) v4 fun v42 =>
 fadP 1 v16 fun v43 =>
 stP 1 v43 v42 h fun h =>
 k17 [.int .i64 3] h)))))))))
 (fun v107 h =>
 (fun v44 =>
 ldP 5 true v16 h fun v45 =>
 S n_ticket_Put [v6, v44, v45] h fun v46 h =>
 extP v46 0 fun v47 =>
 extP v46 1 fun v48 =>
 negP v4 fun v49 =>
 S n_ticket_Get [v6, v49, .int .i64 1, v13] h fun v50 h =>
 extP v50 0 fun v51 =>
 extP v50 1 fun v52 =>
 newP t_api_Body [.int .i64 0, .int .i64 0, .int .i64 0, .int .i64 0, .int .i64 0] h fun v53 h =>
 stP 5 v53 v51 h fun h =>
 negP v4 fun v54 =>
 S n_ticket_Get [v6, .int .i64 3, v54, v13] h fun v55 h =>
 extP v55 0 fun v56 =>
 extP v55 1 fun v57 =>
 newP t_api_Body [.int .i64 0, .int .i64 0, .int .i64 0, .int .i64 0, .int .i64 0] h fun v58 h =>
 stP 5 v58 v56 h fun h =>
 binP .add .other (.int .i64 4) v4 fun v59 =>
 S n_ticket_Get [v6, .int .i64 3, v59, v13] h fun v60 h =>
 extP v60 0 fun v61 =>
 extP v60 1 fun v62 =>
 newP t_api_Body [.int .i64 0, .int .i64 0, .int .i64 0, .int .i64 0, .int .i64 0] h fun v63 h =>
 stP 5 v63 v61 h fun h =>
 S n_ticket_Get [.nilp, .int .i64 3, .int .i64 1, v13] h fun v64 h =>
 extP v64 0 fun v65 =>
 extP v64 1 fun v66 =>
 newP t_api_Body [.int .i64 0, .int .i64 0, .int .i64 0, .int .i64 0, .int .i64 0] h fun v67 h =>
 stP 5 v67 v65 h fun h =>
 S n_ticket_Get [v6, .int .i64 3, .int .i64 0, v13] h fun v68 h =>
 extP v68 0 fun v69 =>
 extP v68 1 fun v70 =>
 newP t_api_Body [.int .i64 0, .int .i64 0, .int .i64 0, .int .i64 0, .int .i64 0] h fun v71 h =>
 stP 5 v71 v69 h fun h =>
 S n_law0_Num [v14] h fun v72 h =>
 binP .eql .other v72 (.int .i64 0) fun v73 =>
 condP v73 true (fun k74 =>
 S n_law0_Num [v48] h fun v75 h =>
 binP .eql .other v75 (.int .i64 1500) fun v76 =>
 k74 v76 h)
 (.bool false) h fun v77 h =>
 condP v77 true (fun k78 =>
 S n_law0_Num [v52] h fun v79 h =>
 binP .eql .other v79 (.int .i64 1500) fun v80 =>
 k78 v80 h)
 (.bool false) h fun v81 h =>
 condP v81 true (fun k82 =>
 S n_law0_Num [v57] h fun v83 h =>
 binP .eql .other v83 (.int .i64 1500) fun v84 =>
 k82 v84 h)
 (.bool false) h fun v85 h =>
 condP v85 true (fun k86 =>
 S n_law0_Num [v62] h fun v87 h =>
 binP .eql .other v87 (.int .i64 1500) fun v88 =>
 k86 v88 h)
 (.bool false) h fun v89 h =>
 condP v89 true (fun k90 =>
 S n_law0_Num [v66] h fun v91 h =>
 binP .eql .other v91 (.int .i64 1) fun v92 =>
 k90 v92 h)
 (.bool false) h fun v93 h =>
 condP v93 true (fun k94 =>
 ldP 5 true v71 h fun v95 =>
 ldP 5 true v10 h fun v96 =>
 binP .eql (.shape (.st [(0, 1, .i), (1, 1, .i), (2, 1, .i), (3, 1, .i), (4, 1, .i)])) v95 v96 fun v97 =>
 k94 v97 h)
 (.bool false) h fun v98 h =>
 condP v98 true (fun k99 =>
 S n_law0_Num [v70] h fun v100 h =>
 binP .eql .other v100 (.int .i64 0) fun v101 =>
 k99 v101 h)
 (.bool false) h fun v102 h =>
 condP v102 true (fun k103 =>
 S n_book_Book_Len [v6] h fun v104 h =>
 binP .eql .other v104 (.int .i64 2) fun v105 =>
 k103 v105 h)
 (.bool false) h fun v106 h =>
 K v106 h) (v107.getD 0 .any))))
theorem q_law15_TicketForms (S : FuncId → List AVal → AHeap A → (AVal → AHeap A → Prop) → Prop) (G : Nat → AHeap A → List AVal → (List AVal → AHeap A → Prop) → Prop) (a0 a1 : AVal) (h : AHeap A) (K : AVal → AHeap A → Prop) : funP Try.prog S G Try.f5 (.two none .leaf (.two none .leaf (.two none .leaf (.two none .leaf (.two none .leaf (.two none .leaf (.two none .leaf (.two none .leaf (.two (some [12]) .leaf .leaf))))))))) [a0, a1] h K = p_law15_TicketForms S G a0 a1 h K := by kernel_rfl
theorem c_law15_TicketForms {R : Adts A} {h : AHeap A} {K : AVal → AHeap A → Prop} {a0 a1 : AVal} (hk : p_law15_TicketForms (Tri Pr R) (Gives Pr R) a0 a1 h K) : Tri Pr R n_law15_TicketForms [a0, a1] h K :=
  tri_of_funP (by kernel_rfl) (fun _ _ _ _ h => h) (fun _ _ _ _ h => h) Try.func5 (by rw [q_law15_TicketForms]; exact hk)
/-- bastion/bastionlaw15.TicketBack -/
def p_law15_TicketBack (S : FuncId → List AVal → AHeap A → (AVal → AHeap A → Prop) → Prop) (G : Nat → AHeap A → List AVal → (List AVal → AHeap A → Prop) → Prop) (a0 a1 a2 a3 a4 : AVal) (h : AHeap A) (K : AVal → AHeap A → Prop) : Prop :=
 boxP t_api_Body 5 a0 h fun v1 h =>
 boxP t_api_Body 5 a1 h fun v2 h =>
 S n_law15_awake [] h fun v3 h =>
 notP v3 fun v4 =>
 iteP v4
 (K (.bool false) h)
 (S n_law15_twin [.int .i64 20, .nils] h fun v5 h =>
 extP v5 0 fun v6 =>
 extP v5 1 fun v7 =>
 binP .eql .ptr v6 .nilp fun v8 =>
 iteP v8
 (K (.bool false) h)
 (binP .and .other a2 (.int .i64 1023) fun v9 =>
 cviP .u64 a4 fun v10 =>
 binP .rem .other v10 (.int .u64 5) fun v11 =>
 cviP .i64 v11 fun v12 =>
 ldP 5 true v1 h fun v13 =>
 S n_ticket_Put [v6, v9, v13] h fun v14 h =>
 extP v14 0 fun v15 =>
 extP v14 1 fun v16 =>
 ldP 5 true v2 h fun v17 =>
 S n_ticket_Put [v6, v9, v17] h fun v18 h =>
 extP v18 0 fun v19 =>
 extP v18 1 fun v20 =>
 S n_law0_Num [v16] h fun v21 h =>
 binP .neq .other v21 (.int .i64 0) fun v22 =>
 condP v22 false (fun k23 =>
 S n_law0_Num [v20] h fun v24 h =>
 binP .neq .other v24 (.int .i64 0) fun v25 =>
 k23 v25 h)
 (.bool true) h fun v26 h =>
 iteP v26
 (K (.bool true) h)
 (binP .and .other a3 (.int .i64 7) fun v27 =>
 binP .add .other v9 v27 fun v28 =>
 binP .sub .other v28 (.int .i64 2) fun v29 =>
 binP .lss .other v29 (.int .i64 0) fun v30 =>
 iteP v30
 (K (.bool true) h)
 (S n_ticket_Get [v6, v29, v12, v15] h fun v31 h =>
 extP v31 0 fun v32 =>
 extP v31 1 fun v33 =>
 newP t_api_Body [.int .i64 0, .int .i64 0, .int .i64 0, .int .i64 0, .int .i64 0] h fun v34 h =>
 stP 5 v34 v32 h fun h =>
 binP .geq .other v29 v9 fun v35 =>
 condP v35 true (fun k36 =>
 binP .sub .other v29 v9 fun v37 =>
 binP .leq .other v37 v12 fun v38 =>
 k36 v38 h)
 (.bool false) h fun v39 h =>
 binP .eql .other v15 v19 fun v40 =>
 ldP 5 true v1 h fun v41 =>
 ldP 5 true v2 h fun v42 =>
 binP .eql (.shape (.st [(0, 1, .i), (1, 1, .i), (2, 1, .i), (3, 1, .i), (4, 1, .i)])) v41 v42 fun v43 =>
 binP .eql .bl v40 v43 fun v44 =>
 condP v44 true (fun k45 =>
 S n_law0_Num [v33] h fun v46 h =>
 binP .eql .other v46 (.int .i64 0) fun v47 =>
 binP .eql .bl v47 v39 fun v48 =>
 k45 v48 h)
 (.bool false) h fun v49 h =>
 condP v49 true (fun k50 =>
 notP v39 fun v51 =>
 condP v51 false (fun k52 =>
 ldP 5 true v34 h fun v53 =>
 ldP 5 true v1 h fun v54 =>
 binP .eql (.shape (.st [(0, 1, .i), (1, 1, .i), (2, 1, .i), (3, 1, .i), (4, 1, .i)])) v53 v54 fun v55 =>
 k52 v55 h)
 (.bool true) h fun v56 h =>
 k50 v56 h)
 (.bool false) h fun v57 h =>
 K v57 h))))
theorem q_law15_TicketBack (S : FuncId → List AVal → AHeap A → (AVal → AHeap A → Prop) → Prop) (G : Nat → AHeap A → List AVal → (List AVal → AHeap A → Prop) → Prop) (a0 a1 a2 a3 a4 : AVal) (h : AHeap A) (K : AVal → AHeap A → Prop) : funP Try.prog S G Try.f6 .leaf [a0, a1, a2, a3, a4] h K = p_law15_TicketBack S G a0 a1 a2 a3 a4 h K := by kernel_rfl
theorem c_law15_TicketBack {R : Adts A} {h : AHeap A} {K : AVal → AHeap A → Prop} {a0 a1 a2 a3 a4 : AVal} (hk : p_law15_TicketBack (Tri Pr R) (Gives Pr R) a0 a1 a2 a3 a4 h K) : Tri Pr R n_law15_TicketBack [a0, a1, a2, a3, a4] h K :=
  tri_of_funP (by kernel_rfl) (fun _ _ _ _ h => h) (fun _ _ _ _ h => h) Try.func6 (by rw [q_law15_TicketBack]; exact hk)
/-- bastion/bastionlaw15.Tickets -/
def p_law15_Tickets (S : FuncId → List AVal → AHeap A → (AVal → AHeap A → Prop) → Prop) (G : Nat → AHeap A → List AVal → (List AVal → AHeap A → Prop) → Prop) (a0 a1 a2 a3 a4 a5 a6 : AVal) (h : AHeap A) (K : AVal → AHeap A → Prop) : Prop :=
 S n_law15_twin [a0, a1] h fun v1 h =>
 extP v1 0 fun v2 =>
 extP v1 1 fun v3 =>
 binP .eql .ptr v2 .nilp fun v4 =>
 condP v4 false (fun k5 =>
 binP .eql .ptr v3 .nilp fun v6 =>
 k5 v6 h)
 (.bool true) h fun v7 h =>
 iteP v7
 (S n_law15_awake [] h fun v8 h =>
 K v8 h)
 (loopP G (fun v78 h k10 =>
 (fun v9 =>
 lenP a3 fun v11 =>
 binP .lss .other v9 v11 fun v12 =>
 condP v12 true (fun k13 =>
 lenP a2 fun v14 =>
 binP .lss .other v9 v14 fun v15 =>
 k13 v15 h)
 (.bool false) h fun v16 h =>
 condP v16 true (fun k17 =>
 binP .lss .other v9 (.int .i64 20) fun v18 =>
 k17 v18 h)
 (.bool false) h fun v19 h =>
 iteP v19
 (idxP 1 a2 v9 fun v20 =>
 idxP 5 a3 v9 fun v21 =>
 ldP 1 false v20 h fun v22 =>
 ldP 5 true v21 h fun v23 =>
 ldV 1 false v20 h = some v22 ∧
 S n_ticket_Put [v2, v22, v23] h fun v24 h =>
 extP v24 0 fun v25 =>
 extP v24 1 fun v26 =>
 idxP 1 a2 v9 fun v27 =>
 idxP 5 a3 v9 fun v28 =>
 ldP 1 false v27 h fun v29 =>
 ldP 5 true v28 h fun v30 =>
 ldV 1 false v27 h = some v29 ∧
 S n_ref12_PutTicket [v3, v29, v30] h fun v31 h =>
 extP v31 0 fun v32 =>
 extP v31 1 fun v33 =>
 S n_ticket_Get [v2, a4, a5, v25] h fun v34 h =>
 extP v34 0 fun v35 =>
 extP v34 1 fun v36 =>
 newP t_api_Body [.int .i64 0, .int .i64 0, .int .i64 0, .int .i64 0, .int .i64 0] h fun v37 h =>
 stP 5 v37 v35 h fun h =>
 S n_ref12_GetTicket [v3, a4, a5, v32] h fun v38 h =>
 extP v38 0 fun v39 =>
 extP v38 1 fun v40 =>
 newP t_api_Body [.int .i64 0, .int .i64 0, .int .i64 0, .int .i64 0, .int .i64 0] h fun v41 h =>
 stP 5 v41 v39 h fun h =>
 binP .neq .other v25 v32 fun v42 =>
 condP v42 false (fun k43 =>
 S n_law0_Num [v26] h fun v44 h =>
 binP .neq .other v44 v33 fun v45 =>
 k43 v45 h)
 (.bool true) h fun v46 h =>
 condP v46 false (fun k47 =>
 ldP 5 true v37 h fun v48 =>
 ldP 5 true v41 h fun v49 =>
 binP .neq (.shape (.st [(0, 1, .i), (1, 1, .i), (2, 1, .i), (3, 1, .i), (4, 1, .i)])) v48 v49 fun v50 =>
 k47 v50 h)
 (.bool true) h fun v51 h =>
 condP v51 false (fun k52 =>
 S n_law0_Num [v36] h fun v53 h =>
 binP .neq .other v53 v40 fun v54 =>
 k52 v54 h)
 (.bool true) h fun v55 h =>
 iteP v55
 (K (.bool false) h)
 (binP .add .other v9 (.int .i64 1) fun v56 =>
 k10 [v56] h))
 (S n_ticket_Get [v2, a4, a5, a6] h fun v57 h =>
 extP v57 0 fun v58 =>
 extP v57 1 fun v59 =>
 newP t_api_Body [.int .i64 0, .int .i64 0, .int .i64 0, .int .i64 0, .int .i64 0] h fun v60 h =>
 stP 5 v60 v58 h fun h =>
 S n_ref12_GetTicket [v3, a4, a5, a6] h fun v61 h =>
 extP v61 0 fun v62 =>
 extP v61 1 fun v63 =>
 newP t_api_Body [.int .i64 0, .int .i64 0, .int .i64 0, .int .i64 0, .int .i64 0] h fun v64 h =>
 stP 5 v64 v62 h fun h =>
 ldP 5 true v60 h fun v65 =>
 ldP 5 true v64 h fun v66 =>
 binP .eql (.shape (.st [(0, 1, .i), (1, 1, .i), (2, 1, .i), (3, 1, .i), (4, 1, .i)])) v65 v66 fun v67 =>
 condP v67 true (fun k68 =>
 S n_law0_Num [v59] h fun v69 h =>
 binP .eql .other v69 v63 fun v70 =>
 k68 v70 h)
 (.bool false) h fun v71 h =>
 condP v71 true (fun k72 =>
 S n_law15_sameBooks [v2, v3] h fun v73 h =>
 k72 v73 h)
 (.bool false) h fun v74 h =>
 condP v74 true (fun k75 =>
 S n_law15_awake [] h fun v76 h =>
 k75 v76 h)
 (.bool false) h fun v77 h =>
 K v77 h)) (v78.getD 0 .any)) [.int .i64 0] h)
theorem q_law15_Tickets (S : FuncId → List AVal → AHeap A → (AVal → AHeap A → Prop) → Prop) (G : Nat → AHeap A → List AVal → (List AVal → AHeap A → Prop) → Prop) (a0 a1 a2 a3 a4 a5 a6 : AVal) (h : AHeap A) (K : AVal → AHeap A → Prop) : funP Try.prog S G Try.f7 (.two none .leaf (.two none .leaf (.two none .leaf (.two none (.two none .leaf (.one [] (.one [17] (.two none .leaf (.two none (.one [] (.two none (.draw none (.take 0 (.take 1 (.take 2 (.take 3 (.take 5 (.take 6 (.take 7 (.load 4 (.alt 8 (.alt 9 (.take 10 (.take 11 (.take 12 (.take 13 (.take 14 .stop))))) .stop) .stop)))))))))) (.two none (.draw none (.take 0 (.take 1 (.take 2 (.take 3 (.take 5 (.take 6 (.take 7 (.load 4 (.alt 8 (.alt 9 (.take 10 (.take 11 (.take 12 (.take 13 (.take 14 .stop))))) .stop) .stop)))))))))) .leaf))) .leaf))))) .leaf)))) [a0, a1, a2, a3, a4, a5, a6] h K = p_law15_Tickets S G a0 a1 a2 a3 a4 a5 a6 h K := by kernel_rfl
theorem c_law15_Tickets {R : Adts A} {h : AHeap A} {K : AVal → AHeap A → Prop} {a0 a1 a2 a3 a4 a5 a6 : AVal} (hk : p_law15_Tickets (Tri Pr R) (Gives Pr R) a0 a1 a2 a3 a4 a5 a6 h K) : Tri Pr R n_law15_Tickets [a0, a1, a2, a3, a4, a5, a6] h K :=
  tri_of_funP (by kernel_rfl) (fun _ _ _ _ h => h) (fun _ _ _ _ h => h) Try.func7 (by rw [q_law15_Tickets]; exact hk)
/-- bastion/bastionlaw15.awake -/
def p_law15_awake (S : FuncId → List AVal → AHeap A → (AVal → AHeap A → Prop) → Prop) (G : Nat → AHeap A → List AVal → (List AVal → AHeap A → Prop) → Prop) (h : AHeap A) (K : AVal → AHeap A → Prop) : Prop :=
 S n_law15_twin [.int .i64 9, .nils] h fun v1 h =>
 extP v1 0 fun v2 =>
 extP v1 1 fun v3 =>
 binP .eql .ptr v2 .nilp fun v4 =>
 iteP v4
 (K (.bool false) h)
 (bldP [.int .i64 0, .int .i64 0, .int .i64 0, .int .i64 0, .int .i64 0] [(0, 1, .int .i64 2), (1, 1, .int .i64 1), (2, 1, .int .i64 500), (3, 1, .int .i64 7), (4, 1, .int .i64 3)] fun v5 =>
 newP t_api_Body [.int .i64 0, .int .i64 0, .int .i64 0, .int .i64 0, .int .i64 0] h fun v6 h =>
 stP 5 v6 v5 h fun h =>
 ldP 5 true v6 h fun v7 =>
 S n_ticket_Put [v2, .int .i64 4, v7] h fun v8 h =>
 extP v8 0 fun v9 =>
 extP v8 1 fun v10 =>
 S n_ticket_Get [v2, .int .i64 5, .int .i64 1, v9] h fun v11 h =>
 extP v11 0 fun v12 =>
 extP v11 1 fun v13 =>
 newP t_api_Body [.int .i64 0, .int .i64 0, .int .i64 0, .int .i64 0, .int .i64 0] h fun v14 h =>
 stP 5 v14 v12 h fun h =>
 S n_ticket_Get [v2, .int .i64 6, .int .i64 1, v9] h fun v15 h =>
 extP v15 0 fun v16 =>
 extP v15 1 fun v17 =>
 newP t_api_Body [.int .i64 0, .int .i64 0, .int .i64 0, .int .i64 0, .int .i64 0] h fun v18 h =>
 stP 5 v18 v16 h fun h =>
 S n_ticket_Get [v2, .int .i64 3, .int .i64 1, v9] h fun v19 h =>
 extP v19 0 fun v20 =>
 extP v19 1 fun v21 =>
 newP t_api_Body [.int .i64 0, .int .i64 0, .int .i64 0, .int .i64 0, .int .i64 0] h fun v22 h =>
 stP 5 v22 v20 h fun h =>
 bldP [.int .i64 0, .int .i64 0, .int .i64 0, .int .i64 0, .int .i64 0] [(0, 1, .int .i64 8)] fun v23 =>
 S n_ticket_Put [v2, .int .i64 4, v23] h fun v24 h =>
 extP v24 0 fun v25 =>
 extP v24 1 fun v26 =>
 binP .add .other v9 (.int .i64 1) fun v27 =>
 S n_ticket_Get [v2, .int .i64 4, .int .i64 1, v27] h fun v28 h =>
 extP v28 0 fun v29 =>
 extP v28 1 fun v30 =>
 newP t_api_Body [.int .i64 0, .int .i64 0, .int .i64 0, .int .i64 0, .int .i64 0] h fun v31 h =>
 stP 5 v31 v29 h fun h =>
 S n_law0_Num [v10] h fun v32 h =>
 binP .eql .other v32 (.int .i64 0) fun v33 =>
 condP v33 true (fun k34 =>
 ldP 5 true v14 h fun v35 =>
 ldP 5 true v6 h fun v36 =>
 binP .eql (.shape (.st [(0, 1, .i), (1, 1, .i), (2, 1, .i), (3, 1, .i), (4, 1, .i)])) v35 v36 fun v37 =>
 k34 v37 h)
 (.bool false) h fun v38 h =>
 condP v38 true (fun k39 =>
 S n_law0_Num [v13] h fun v40 h =>
 binP .eql .other v40 (.int .i64 0) fun v41 =>
 k39 v41 h)
 (.bool false) h fun v42 h =>
 condP v42 true (fun k43 =>
 S n_law0_Num [v17] h fun v44 h =>
 binP .eql .other v44 (.int .i64 1501) fun v45 =>
 k43 v45 h)
 (.bool false) h fun v46 h =>
 condP v46 true (fun k47 =>
 S n_law0_Num [v21] h fun v48 h =>
 binP .eql .other v48 (.int .i64 1501) fun v49 =>
 k47 v49 h)
 (.bool false) h fun v50 h =>
 condP v50 true (fun k51 =>
 S n_law0_Num [v26] h fun v52 h =>
 binP .eql .other v52 (.int .i64 1500) fun v53 =>
 k51 v53 h)
 (.bool false) h fun v54 h =>
 condP v54 true (fun k55 =>
 S n_law0_Num [v30] h fun v56 h =>
 binP .eql .other v56 (.int .i64 1501) fun v57 =>
 k55 v57 h)
 (.bool false) h fun v58 h =>
 condP v58 true (fun k59 =>
 S n_book_Book_Len [v2] h fun v60 h =>
 binP .eql .other v60 (.int .i64 2) fun v61 =>
 k59 v61 h)
 (.bool false) h fun v62 h =>
 K v62 h)
theorem q_law15_awake (S : FuncId → List AVal → AHeap A → (AVal → AHeap A → Prop) → Prop) (G : Nat → AHeap A → List AVal → (List AVal → AHeap A → Prop) → Prop) (h : AHeap A) (K : AVal → AHeap A → Prop) : funP Try.prog S G Try.f8 .leaf [] h K = p_law15_awake S G h K := by kernel_rfl
theorem c_law15_awake {R : Adts A} {h : AHeap A} {K : AVal → AHeap A → Prop} (hk : p_law15_awake (Tri Pr R) (Gives Pr R) h K) : Tri Pr R n_law15_awake [] h K :=
  tri_of_funP (by kernel_rfl) (fun _ _ _ _ h => h) (fun _ _ _ _ h => h) Try.func8 (by rw [q_law15_awake]; exact hk)
/-- bastion/bastionlaw15.twin -/
def p_law15_twin (S : FuncId → List AVal → AHeap A → (AVal → AHeap A → Prop) → Prop) (G : Nat → AHeap A → List AVal → (List AVal → AHeap A → Prop) → Prop) (a0 a1 : AVal) (h : AHeap A) (K : AVal → AHeap A → Prop) : Prop :=
 S n_book_New [a0] h fun v1 h =>
 extP v1 0 fun v2 =>
 extP v1 1 fun v3 =>
 S n_ref1_NewBook [a0] h fun v4 h =>
 extP v4 0 fun v5 =>
 extP v4 1 fun v6 =>
 S n_law0_Num [v3] h fun v7 h =>
 binP .neq .other v7 (.int .i64 0) fun v8 =>
 condP v8 false (fun k9 =>
 binP .neq .other v6 (.int .i64 0) fun v10 =>
 k9 v10 h)
 (.bool true) h fun v11 h =>
 condP v11 false (fun k12 =>
 binP .eql .ptr v2 .nilp fun v13 =>
 k12 v13 h)
 (.bool true) h fun v14 h =>
 iteP v14
 (K (.tup [.nilp, .nilp]) h)
 (loopP G (fun v29 h k16 =>
 (fun v15 =>
 lenP a1 fun v17 =>
 binP .lss .other v15 v17 fun v18 =>
 condP v18 true (fun k19 =>
 binP .lss .other v15 (.int .i64 400) fun v20 =>
 k19 v20 h)
 (.bool false) h fun v21 h =>
 iteP v21
 (idxP 1 a1 v15 fun v22 =>
 ldP 1 false v22 h fun v23 =>
 S n_book_Book_Name [v2, v23] h fun v24 h =>
 idxP 1 a1 v15 fun v25 =>
 ldP 1 false v25 h fun v26 =>
 S n_ref1_Book_Name [v5, v26] h fun v27 h =>
 binP .add .other v15 (.int .i64 1) fun v28 =>
 k16 [v28] h)
 (K (.tup [v2, v5]) h)) (v29.getD 0 .any)) [.int .i64 0] h)
theorem q_law15_twin (S : FuncId → List AVal → AHeap A → (AVal → AHeap A → Prop) → Prop) (G : Nat → AHeap A → List AVal → (List AVal → AHeap A → Prop) → Prop) (a0 a1 : AVal) (h : AHeap A) (K : AVal → AHeap A → Prop) : funP Try.prog S G Try.f9 (.two none .leaf (.two none .leaf (.two none .leaf (.two none .leaf (.two none (.two none .leaf (.one [] (.one [10] .leaf))) .leaf))))) [a0, a1] h K = p_law15_twin S G a0 a1 h K := by kernel_rfl
theorem c_law15_twin {R : Adts A} {h : AHeap A} {K : AVal → AHeap A → Prop} {a0 a1 : AVal} (hk : p_law15_twin (Tri Pr R) (Gives Pr R) a0 a1 h K) : Tri Pr R n_law15_twin [a0, a1] h K :=
  tri_of_funP (by kernel_rfl) (fun _ _ _ _ h => h) (fun _ _ _ _ h => h) Try.func9 (by rw [q_law15_twin]; exact hk)
/-- bastion/ticket.Put -/
def p_ticket_Put (S : FuncId → List AVal → AHeap A → (AVal → AHeap A → Prop) → Prop) (G : Nat → AHeap A → List AVal → (List AVal → AHeap A → Prop) → Prop) (a0 a1 a2 : AVal) (h : AHeap A) (K : AVal → AHeap A → Prop) : Prop :=
 boxP t_api_Body 5 a2 h fun v1 h =>
 binP .eql .ptr a0 .nilp fun v2 =>
 iteP v2
 (K (.tup [.int .i64 0, .int .i64 1]) h)
 (fadP 0 v1 fun v3 =>
 ldP 1 false v3 h fun v4 =>
 fadP 1 v1 fun v5 =>
 ldP 1 false v5 h fun v6 =>
 fadP 2 v1 fun v7 =>
 ldP 1 false v7 h fun v8 =>
 fadP 3 v1 fun v9 =>
 ldP 1 false v9 h fun v10 =>
 fadP 4 v1 fun v11 =>
 ldP 1 false v11 h fun v12 =>
 bslP t_int 5 [.int .i64 0, .int .i64 0, .int .i64 0, .int .i64 0, .int .i64 0] [(0, 1, v4), (1, 1, v6), (2, 1, v8), (3, 1, v10), (4, 1, v12)] h fun v13 h =>
 S n_field_All [v13] h fun v14 h =>
 extP v14 0 fun v15 =>
 extP v14 1 fun v16 =>
 notP v16 fun v17 =>
 condP v17 false (fun k18 =>
 fadP 0 v1 fun v19 =>
 ldP 1 false v19 h fun v20 =>
 binP .geq .other v20 (.int .i64 8) fun v21 =>
 k18 v21 h)
 (.bool true) h fun v22 h =>
 iteP v22
 (K (.tup [.int .i64 0, .int .i64 1500]) h)
 (S n_ring_Key [a0, a1] h fun v23 h =>
 extP v23 0 fun v24 =>
 extP v23 1 fun v25 =>
 binP .neq .other v25 (.int .i64 0) fun v26 =>
 iteP v26
 (K (.tup [.int .i64 0, .int .i64 1500]) h)
 (S n_craft_Seal [a0, v24, v15] h fun v27 h =>
 extP v27 0 fun v28 =>
 extP v27 1 fun v29 =>
 binP .neq .other v29 (.int .i64 0) fun v30 =>
 iteP v30
 (K (.tup [.int .i64 0, .int .i64 1500]) h)
 (K (.tup [v28, .int .i64 0]) h))))
theorem q_ticket_Put (S : FuncId → List AVal → AHeap A → (AVal → AHeap A → Prop) → Prop) (G : Nat → AHeap A → List AVal → (List AVal → AHeap A → Prop) → Prop) (a0 a1 a2 : AVal) (h : AHeap A) (K : AVal → AHeap A → Prop) : funP Try.prog S G Try.f10 .leaf [a0, a1, a2] h K = p_ticket_Put S G a0 a1 a2 h K := by kernel_rfl
theorem c_ticket_Put {R : Adts A} {h : AHeap A} {K : AVal → AHeap A → Prop} {a0 a1 a2 : AVal} (hk : p_ticket_Put (Tri Pr R) (Gives Pr R) a0 a1 a2 h K) : Tri Pr R n_ticket_Put [a0, a1, a2] h K :=
  tri_of_funP (by kernel_rfl) (fun _ _ _ _ h => h) (fun _ _ _ _ h => h) Try.func10 (by rw [q_ticket_Put]; exact hk)
/-- bastion/bastionlaw0.Num -/
def p_law0_Num (S : FuncId → List AVal → AHeap A → (AVal → AHeap A → Prop) → Prop) (G : Nat → AHeap A → List AVal → (List AVal → AHeap A → Prop) → Prop) (a0 : AVal) (h : AHeap A) (K : AVal → AHeap A → Prop) : Prop :=
 K a0 h
theorem q_law0_Num (S : FuncId → List AVal → AHeap A → (AVal → AHeap A → Prop) → Prop) (G : Nat → AHeap A → List AVal → (List AVal → AHeap A → Prop) → Prop) (a0 : AVal) (h : AHeap A) (K : AVal → AHeap A → Prop) : funP Try.prog S G Try.f11 .leaf [a0] h K = p_law0_Num S G a0 h K := by kernel_rfl
theorem c_law0_Num {R : Adts A} {h : AHeap A} {K : AVal → AHeap A → Prop} {a0 : AVal} (hk : p_law0_Num (Tri Pr R) (Gives Pr R) a0 h K) : Tri Pr R n_law0_Num [a0] h K :=
  tri_of_funP (by kernel_rfl) (fun _ _ _ _ h => h) (fun _ _ _ _ h => h) Try.func11 (by rw [q_law0_Num]; exact hk)
/-- (*bastion/book.Book).Len -/
def p_book_Book_Len (S : FuncId → List AVal → AHeap A → (AVal → AHeap A → Prop) → Prop) (G : Nat → AHeap A → List AVal → (List AVal → AHeap A → Prop) → Prop) (a0 : AVal) (h : AHeap A) (K : AVal → AHeap A → Prop) : Prop :=
 binP .eql .ptr a0 .nilp fun v1 =>
 iteP v1
 (K (.int .i64 0) h)
 (nilP a0 fun v2 =>
 fadP 1 v2 fun v3 =>
 ldP 1 false v3 h fun v4 =>
 lenP v4 fun v5 =>
 K v5 h)
theorem q_book_Book_Len (S : FuncId → List AVal → AHeap A → (AVal → AHeap A → Prop) → Prop) (G : Nat → AHeap A → List AVal → (List AVal → AHeap A → Prop) → Prop) (a0 : AVal) (h : AHeap A) (K : AVal → AHeap A → Prop) : funP Try.prog S G Try.f12 .leaf [a0] h K = p_book_Book_Len S G a0 h K := by kernel_rfl
theorem c_book_Book_Len {R : Adts A} {h : AHeap A} {K : AVal → AHeap A → Prop} {a0 : AVal} (hk : p_book_Book_Len (Tri Pr R) (Gives Pr R) a0 h K) : Tri Pr R n_book_Book_Len [a0] h K :=
  tri_of_funP (by kernel_rfl) (fun _ _ _ _ h => h) (fun _ _ _ _ h => h) Try.func12 (by rw [q_book_Book_Len]; exact hk)
/-- bastion/ticket.Get -/
def p_ticket_Get (S : FuncId → List AVal → AHeap A → (AVal → AHeap A → Prop) → Prop) (G : Nat → AHeap A → List AVal → (List AVal → AHeap A → Prop) → Prop) (a0 a1 a2 a3 : AVal) (h : AHeap A) (K : AVal → AHeap A → Prop) : Prop :=
 newP t_api_Body [.int .i64 0, .int .i64 0, .int .i64 0, .int .i64 0, .int .i64 0] h fun v1 h =>
 binP .eql .ptr a0 .nilp fun v2 =>
 iteP v2
 (bldP [.int .i64 0, .int .i64 0, .int .i64 0, .int .i64 0, .int .i64 0] [] fun v3 =>
 stP 5 v1 v3 h fun h =>
 ldP 5 true v1 h fun v4 =>
 K (.tup [v4, .int .i64 1]) h)
 (S n_field_NumMay [a1] h fun v5 h =>
 notP v5 fun v6 =>
 condP v6 false (fun k7 =>
 binP .lss .other a2 (.int .i64 0) fun v8 =>
 k7 v8 h)
 (.bool true) h fun v9 h =>
 condP v9 false (fun k10 =>
 binP .gtr .other a2 (.int .i64 4) fun v11 =>
 k10 v11 h)
 (.bool true) h fun v12 h =>
 iteP v12
 (bldP [.int .i64 0, .int .i64 0, .int .i64 0, .int .i64 0, .int .i64 0] [] fun v13 =>
 stP 5 v1 v13 h fun h =>
 ldP 5 true v1 h fun v14 =>
 K (.tup [v14, .int .i64 1500]) h)
 (loopP G (fun v35 h k16 =>
 (fun v15 =>
 S n_ring_Live [v15, a1, a2] h fun v17 h =>
 iteP v17
 (S n_ticket_open [a0, v15, a3] h fun v18 h =>
 extP v18 0 fun v19 =>
 extP v18 1 fun v20 =>
 newP t_api_Body [.int .i64 0, .int .i64 0, .int .i64 0, .int .i64 0, .int .i64 0] h fun v21 h =>
 stP 5 v21 v19 h fun h =>
 mkiP t_api_Errno (.int .i64 1501) fun v22 =>
 S n_errors_Is [v20, v22] h fun v23 h =>
 notP v23 fun v24 =>
 condP v24 true (fun k25 =>
 mkiP t_api_Errno (.int .i64 301) fun v26 =>
 S n_errors_Is [v20, v26] h fun v27 h =>
 notP v27 fun v28 =>
 k25 v28 h)
 (.bool false) h fun v29 h =>
 iteP v29
 (ldP 5 true v21 h fun v30 =>
 stP 5 v1 v30 h fun h =>
 ldP 5 true v1 h fun v31 =>
 K (.tup [v31, .int .i64 0]) h)
 (binP .sub .other v15 (.int .i64 1) fun v32 =>
 k16 [v32] h))
 (bldP [.int .i64 0, .int .i64 0, .int .i64 0, .int .i64 0, .int .i64 0] [] fun v33 =>
 stP 5 v1 v33 h fun h =>
 ldP 5 true v1 h fun v34 =>
 K (.tup [v34, .int .i64 1501]) h)) (v35.getD 0 .any)) [a1] h))
theorem q_ticket_Get (S : FuncId → List AVal → AHeap A → (AVal → AHeap A → Prop) → Prop) (G : Nat → AHeap A → List AVal → (List AVal → AHeap A → Prop) → Prop) (a0 a1 a2 a3 : AVal) (h : AHeap A) (K : AVal → AHeap A → Prop) : funP Try.prog S G Try.f13 (.two none .leaf (.two none .leaf (.two none (.two none .leaf (.one [] (.one [10] .leaf))) .leaf))) [a0, a1, a2, a3] h K = p_ticket_Get S G a0 a1 a2 a3 h K := by kernel_rfl
theorem c_ticket_Get {R : Adts A} {h : AHeap A} {K : AVal → AHeap A → Prop} {a0 a1 a2 a3 : AVal} (hk : p_ticket_Get (Tri Pr R) (Gives Pr R) a0 a1 a2 a3 h K) : Tri Pr R n_ticket_Get [a0, a1, a2, a3] h K :=
  tri_of_funP (by kernel_rfl) (fun _ _ _ _ h => h) (fun _ _ _ _ h => h) Try.func13 (by rw [q_ticket_Get]; exact hk)
/-- (*bastion/book.Book).Find -/
def p_book_Book_Find (S : FuncId → List AVal → AHeap A → (AVal → AHeap A → Prop) → Prop) (G : Nat → AHeap A → List AVal → (List AVal → AHeap A → Prop) → Prop) (a0 a1 : AVal) (h : AHeap A) (K : AVal → AHeap A → Prop) : Prop :=
 binP .eql .ptr a0 .nilp fun v1 =>
 iteP v1
 (K (.tup [.int .i64 0, .bool false]) h)
 (nilP a0 fun v2 =>
 fadP 2 v2 fun v3 =>
 ldP 1 false v3 h fun v4 =>
 lkP true (.int .i64 0) true v4 a1 h fun v5 =>
 extP v5 0 fun v6 =>
 extP v5 1 fun v7 =>
 K (.tup [v6, v7]) h)
theorem q_book_Book_Find (S : FuncId → List AVal → AHeap A → (AVal → AHeap A → Prop) → Prop) (G : Nat → AHeap A → List AVal → (List AVal → AHeap A → Prop) → Prop) (a0 a1 : AVal) (h : AHeap A) (K : AVal → AHeap A → Prop) : funP Try.prog S G Try.f14 .leaf [a0, a1] h K = p_book_Book_Find S G a0 a1 h K := by kernel_rfl
theorem c_book_Book_Find {R : Adts A} {h : AHeap A} {K : AVal → AHeap A → Prop} {a0 a1 : AVal} (hk : p_book_Book_Find (Tri Pr R) (Gives Pr R) a0 a1 h K) : Tri Pr R n_book_Book_Find [a0, a1] h K :=
  tri_of_funP (by kernel_rfl) (fun _ _ _ _ h => h) (fun _ _ _ _ h => h) Try.func14 (by rw [q_book_Book_Find]; exact hk)
/-- bastion/bastionref1.Nums -/
def p_ref1_Nums (S : FuncId → List AVal → AHeap A → (AVal → AHeap A → Prop) → Prop) (G : Nat → AHeap A → List AVal → (List AVal → AHeap A → Prop) → Prop) (a0 : AVal) (h : AHeap A) (K : AVal → AHeap A → Prop) : Prop :=
 loopP G (fun v13 h k3 =>
 (fun v1 v2 =>
 lenP a0 fun v4 =>
 binP .lss .other v2 v4 fun v5 =>
 iteP v5
 (idxP 1 a0 v2 fun v6 =>
 ldP 1 false v6 h fun v7 =>
 S n_ref1_Num [v7] h fun v8 h =>
 extP v8 0 fun v9 =>
 extP v8 1 fun v10 =>
 binP .add .other v1 v9 fun v11 =>
 binP .add .other v2 (.int .i64 1) fun v12 =>
 k3 [v11, v12] h)
 (K v1 h)) (v13.getD 0 .any) (v13.getD 1 .any)) [.str [], .int .i64 0] h
theorem q_ref1_Nums (S : FuncId → List AVal → AHeap A → (AVal → AHeap A → Prop) → Prop) (G : Nat → AHeap A → List AVal → (List AVal → AHeap A → Prop) → Prop) (a0 : AVal) (h : AHeap A) (K : AVal → AHeap A → Prop) : funP Try.prog S G Try.f15 (.two none .leaf (.two none .leaf (.two none (.two none .leaf (.one [] (.one [3, 4] .leaf))) .leaf))) [a0] h K = p_ref1_Nums S G a0 h K := by kernel_rfl
theorem c_ref1_Nums {R : Adts A} {h : AHeap A} {K : AVal → AHeap A → Prop} {a0 : AVal} (hk : p_ref1_Nums (Tri Pr R) (Gives Pr R) a0 h K) : Tri Pr R n_ref1_Nums [a0] h K :=
  tri_of_funP (by kernel_rfl) (fun _ _ _ _ h => h) (fun _ _ _ _ h => h) Try.func15 (by rw [q_ref1_Nums]; exact hk)
/-- (*bastion/book.Book).Name -/
def p_book_Book_Name (S : FuncId → List AVal → AHeap A → (AVal → AHeap A → Prop) → Prop) (G : Nat → AHeap A → List AVal → (List AVal → AHeap A → Prop) → Prop) (a0 a1 : AVal) (h : AHeap A) (K : AVal → AHeap A → Prop) : Prop :=
 binP .eql .ptr a0 .nilp fun v1 =>
 iteP v1
 (K (.tup [.int .i64 0, .int .i64 1]) h)
 (binP .eql .other a1 (.str []) fun v2 =>
 condP v2 false (fun k3 =>
 lnsP a1 fun v4 =>
 binP .gtr .other v4 (.int .i64 512) fun v5 =>
 k3 v5 h)
 (.bool true) h fun v6 h =>
 iteP v6
 (K (.tup [.int .i64 0, .int .i64 200]) h)
 (nilP a0 fun v7 =>
 fadP 2 v7 fun v8 =>
 ldP 1 false v8 h fun v9 =>
 lkP true (.int .i64 0) true v9 a1 h fun v10 =>
 extP v10 0 fun v11 =>
 extP v10 1 fun v12 =>
 iteP v12
 (K (.tup [v11, .int .i64 0]) h)
 (nilP a0 fun v13 =>
 fadP 1 v13 fun v14 =>
 nilP a0 fun v15 =>
 fadP 0 v15 fun v16 =>
 ldP 1 false v14 h fun v17 =>
 lenP v17 fun v18 =>
 ldP 1 false v16 h fun v19 =>
 ldV 1 false v14 h = some v17 ∧
 binP .geq .other v18 v19 fun v20 =>
 iteP v20
 (K (.tup [.int .i64 0, .int .i64 201]) h)
 (nilP a0 fun v21 =>
 fadP 1 v21 fun v22 =>
 ldP 1 false v22 h fun v23 =>
 lenP v23 fun v24 =>
 nilP a0 fun v25 =>
 fadP 2 v25 fun v26 =>
 nilP a0 fun v27 =>
 fadP 1 v27 fun v28 =>
 ldP 1 false v26 h fun v29 =>
 ldP 1 false v28 h fun v30 =>
 bslP t_string 1 [.str []] [(0, 1, a1)] h fun v31 h =>
 ldV 1 false v28 h = some v30 ∧
 ldV 1 false v26 h = some v29 ∧
 appP t_string 1 16 v30 v31 h fun v32 h =>
 ldV 1 false v26 h = some v29 ∧
 nilP a0 fun v33 =>
 fadP 1 v33 fun v34 =>
 stP 1 v34 v32 h fun h =>
 mentP true (.int .i64 0) v29 a1 h fun v35 h =>
 extP v35 1 fun v36 =>
 estP v29 v36 v24 h fun h =>
 K (.tup [v24, .int .i64 0]) h))))
theorem q_book_Book_Name (S : FuncId → List AVal → AHeap A → (AVal → AHeap A → Prop) → Prop) (G : Nat → AHeap A → List AVal → (List AVal → AHeap A → Prop) → Prop) (a0 a1 : AVal) (h : AHeap A) (K : AVal → AHeap A → Prop) : funP Try.prog S G Try.f16 (.two none .leaf (.two none .leaf (.two none .leaf (.two none (.two none (.draw none (.take 0 (.take 1 (.take 2 (.take 5 (.take 6 (.take 7 (.load 3 (.take 4 (.alt 8 (.take 9 .stop) .stop)))))))))) .leaf) (.two none .leaf (.two none (.draw none (.take 0 (.take 1 (.take 2 (.take 3 (.take 5 (.take 6 (.take 7 (.take 8 (.take 10 (.take 13 (.load 4 (.load 9 (.alt 11 (.alt 12 (.take 14 (.take 15 (.alt 16 (.alt 17 (.take 18 (.alt 19 .stop .stop)) .stop) .stop))) .stop) .stop)))))))))))))) .leaf)))))) [a0, a1] h K = p_book_Book_Name S G a0 a1 h K := by kernel_rfl
theorem c_book_Book_Name {R : Adts A} {h : AHeap A} {K : AVal → AHeap A → Prop} {a0 a1 : AVal} (hk : p_book_Book_Name (Tri Pr R) (Gives Pr R) a0 a1 h K) : Tri Pr R n_book_Book_Name [a0, a1] h K :=
  tri_of_funP (by kernel_rfl) (fun _ _ _ _ h => h) (fun _ _ _ _ h => h) Try.func16 (by rw [q_book_Book_Name]; exact hk)
/-- bastion/bastionref12.PutTicket -/
def p_ref12_PutTicket (S : FuncId → List AVal → AHeap A → (AVal → AHeap A → Prop) → Prop) (G : Nat → AHeap A → List AVal → (List AVal → AHeap A → Prop) → Prop) (a0 a1 a2 : AVal) (h : AHeap A) (K : AVal → AHeap A → Prop) : Prop :=
 boxP t_api_Body 5 a2 h fun v1 h =>
 ldP 5 true v1 h fun v2 =>
 S n_ref12_BodyMay [v2] h fun v3 h =>
 notP v3 fun v4 =>
 iteP v4
 (K (.tup [.int .i64 0, .int .i64 1500]) h)
 (S n_ref12_RingKey [a0, a1] h fun v5 h =>
 extP v5 0 fun v6 =>
 extP v5 1 fun v7 =>
 binP .neq .other v7 (.int .i64 0) fun v8 =>
 iteP v8
 (K (.tup [.int .i64 0, .int .i64 1500]) h)
 (fadP 0 v1 fun v9 =>
 ldP 1 false v9 h fun v10 =>
 fadP 1 v1 fun v11 =>
 ldP 1 false v11 h fun v12 =>
 fadP 2 v1 fun v13 =>
 ldP 1 false v13 h fun v14 =>
 fadP 3 v1 fun v15 =>
 ldP 1 false v15 h fun v16 =>
 fadP 4 v1 fun v17 =>
 ldP 1 false v17 h fun v18 =>
 bslP t_int 5 [.int .i64 0, .int .i64 0, .int .i64 0, .int .i64 0, .int .i64 0] [(0, 1, v10), (1, 1, v12), (2, 1, v14), (3, 1, v16), (4, 1, v18)] h fun v19 h =>
 S n_ref1_Nums [v19] h fun v20 h =>
 S n_ref1_Seal [a0, v6, v20] h fun v21 h =>
 extP v21 0 fun v22 =>
 extP v21 1 fun v23 =>
 binP .neq .other v23 (.int .i64 0) fun v24 =>
 iteP v24
 (K (.tup [.int .i64 0, .int .i64 1500]) h)
 (K (.tup [v22, .int .i64 0]) h)))
theorem q_ref12_PutTicket (S : FuncId → List AVal → AHeap A → (AVal → AHeap A → Prop) → Prop) (G : Nat → AHeap A → List AVal → (List AVal → AHeap A → Prop) → Prop) (a0 a1 a2 : AVal) (h : AHeap A) (K : AVal → AHeap A → Prop) : funP Try.prog S G Try.f17 .leaf [a0, a1, a2] h K = p_ref12_PutTicket S G a0 a1 a2 h K := by kernel_rfl
theorem c_ref12_PutTicket {R : Adts A} {h : AHeap A} {K : AVal → AHeap A → Prop} {a0 a1 a2 : AVal} (hk : p_ref12_PutTicket (Tri Pr R) (Gives Pr R) a0 a1 a2 h K) : Tri Pr R n_ref12_PutTicket [a0, a1, a2] h K :=
  tri_of_funP (by kernel_rfl) (fun _ _ _ _ h => h) (fun _ _ _ _ h => h) Try.func17 (by rw [q_ref12_PutTicket]; exact hk)
/-- bastion/bastionref12.GetTicket -/
def p_ref12_GetTicket (S : FuncId → List AVal → AHeap A → (AVal → AHeap A → Prop) → Prop) (G : Nat → AHeap A → List AVal → (List AVal → AHeap A → Prop) → Prop) (a0 a1 a2 a3 : AVal) (h : AHeap A) (K : AVal → AHeap A → Prop) : Prop :=
 newP t_api_Body [.int .i64 0, .int .i64 0, .int .i64 0, .int .i64 0, .int .i64 0] h fun v1 h =>
 S n_ref12_num [a1] h fun v2 h =>
 notP v2 fun v3 =>
 condP v3 false (fun k4 =>
 binP .lss .other a2 (.int .i64 0) fun v5 =>
 k4 v5 h)
 (.bool true) h fun v6 h =>
 condP v6 false (fun k7 =>
 binP .gtr .other a2 (.int .i64 4) fun v8 =>
 k7 v8 h)
 (.bool true) h fun v9 h =>
 iteP v9
 (bldP [.int .i64 0, .int .i64 0, .int .i64 0, .int .i64 0, .int .i64 0] [] fun v10 =>
 stP 5 v1 v10 h fun h =>
 ldP 5 true v1 h fun v11 =>
 K (.tup [v11, .int .i64 1500]) h)
 (loopP G (fun v43 h k13 =>
 (fun v12 =>
 binP .geq .other v12 (.int .i64 0) fun v14 =>
 condP v14 true (fun k15 =>
 binP .sub .other a1 v12 fun v16 =>
 binP .leq .other v16 a2 fun v17 =>
 k15 v17 h)
 (.bool false) h fun v18 h =>
 iteP v18
 (joinP G h.length (fun k19 =>
 bslP t_int 1 [.int .i64 0] [(0, 1, v12)] h fun v20 h =>
 S n_ref1_Nums [v20] h fun v21 h =>
 binP .add .other (.str [65, 101, 112, 111, 99, 104]) v21 fun v22 =>
 S n_ref1_Book_Find [a0, v22] h fun v23 h =>
 extP v23 0 fun v24 =>
 extP v23 1 fun v25 =>
 notP v25 fun v26 =>
 iteP v26
 (k19 [] h)
 (S n_ref1_Open [a0, v24, a3] h fun v27 h =>
 extP v27 0 fun v28 =>
 extP v27 1 fun v29 =>
 S n_ref12_body [v28] h fun v30 h =>
 extP v30 0 fun v31 =>
 extP v30 1 fun v32 =>
 newP t_api_Body [.int .i64 0, .int .i64 0, .int .i64 0, .int .i64 0, .int .i64 0] h fun v33 h =>
 stP 5 v33 v31 h fun h =>
 binP .eql .other v29 (.int .i64 0) fun v34 =>
 condP v34 true (fun k35 =>
 k35 v32 h)
 (.bool false) h fun v36 h =>
 iteP v36
 (ldP 5 true v33 h fun v37 =>
 stP 5 v1 v37 h fun h =>
 ldP 5 true v1 h fun v38 =>
 K (.tup [v38, .int .i64 0]) h)
 (k19 [] h)))
 (fun _ h =>
 binP .sub .other v12 (.int .i64 1) fun v39 =>
 k13 [v39] h))
 (bldP [.int .i64 0, .int .i64 0, .int .i64 0, .int .i64 0, .int .i64 0] [] fun v41 =>
 stP 5 v1 v41 h fun h =>
 ldP 5 true v1 h fun v42 =>
 K (.tup [v42, .int .i64 1501]) h)) (v43.getD 0 .any)) [a1] h)
theorem q_ref12_GetTicket (S : FuncId → List AVal → AHeap A → (AVal → AHeap A → Prop) → Prop) (G : Nat → AHeap A → List AVal → (List AVal → AHeap A → Prop) → Prop) (a0 a1 a2 a3 : AVal) (h : AHeap A) (K : AVal → AHeap A → Prop) : funP Try.prog S G Try.f18 (.two none .leaf (.two none .leaf (.two none (.two none .leaf (.one [] (.one [10] (.two none .leaf (.two (some []) .leaf .leaf))))) .leaf))) [a0, a1, a2, a3] h K = p_ref12_GetTicket S G a0 a1 a2 a3 h K := by kernel_rfl
theorem c_ref12_GetTicket {R : Adts A} {h : AHeap A} {K : AVal → AHeap A → Prop} {a0 a1 a2 a3 : AVal} (hk : p_ref12_GetTicket (Tri Pr R) (Gives Pr R) a0 a1 a2 a3 h K) : Tri Pr R n_ref12_GetTicket [a0, a1, a2, a3] h K :=
  tri_of_funP (by kernel_rfl) (fun _ _ _ _ h => h) (fun _ _ _ _ h => h) Try.func18 (by rw [q_ref12_GetTicket]; exact hk)
/-- bastion/bastionlaw15.sameBooks -/
def p_law15_sameBooks (S : FuncId → List AVal → AHeap A → (AVal → AHeap A → Prop) → Prop) (G : Nat → AHeap A → List AVal → (List AVal → AHeap A → Prop) → Prop) (a0 a1 : AVal) (h : AHeap A) (K : AVal → AHeap A → Prop) : Prop :=
 nilP a1 fun v1 =>
 fadP 1 v1 fun v2 =>
 ldP 1 false v2 h fun v3 =>
 lenP v3 fun v4 =>
 S n_book_Book_Len [a0] h fun v5 h =>
 ldV 1 false v2 h = some v3 ∧
 binP .neq .other v5 v4 fun v6 =>
 iteP v6
 (K (.bool false) h)
 (nilP a1 fun v7 =>
 fadP 1 v7 fun v8 =>
 ldP 1 false v8 h fun v9 =>
 lenP v9 fun v10 =>
 binP .sub .other v10 (.int .i64 40) fun v11 =>
 maxP [.int .i64 0, v11] fun v12 =>
 loopP G (fun v34 h k14 =>
 (fun v13 =>
 nilP a1 fun v15 =>
 fadP 1 v15 fun v16 =>
 ldP 1 false v16 h fun v17 =>
 lenP v17 fun v18 =>
 binP .lss .other v13 v18 fun v19 =>
 iteP v19
 (S n_book_Book_Term [a0, v13] h fun v20 h =>
 extP v20 0 fun v21 =>
 extP v20 1 fun v22 =>
 S n_law0_Num [v22] h fun v23 h =>
 binP .neq .other v23 (.int .i64 0) fun v24 =>
 condP v24 false (fun k25 =>
 nilP a1 fun v26 =>
 fadP 1 v26 fun v27 =>
 ldP 1 false v27 h fun v28 =>
 idxP 1 v28 v13 fun v29 =>
 ldP 1 false v29 h fun v30 =>
 binP .neq .other v21 v30 fun v31 =>
 k25 v31 h)
 (.bool true) h fun v32 h =>
 iteP v32
 (K (.bool false) h)
 (binP .add .other v13 (.int .i64 1) fun v33 =>
 k14 [v33] h))
 (K (.bool true) h)) (v34.getD 0 .any)) [v12] h)
theorem q_law15_sameBooks (S : FuncId → List AVal → AHeap A → (AVal → AHeap A → Prop) → Prop) (G : Nat → AHeap A → List AVal → (List AVal → AHeap A → Prop) → Prop) (a0 a1 : AVal) (h : AHeap A) (K : AVal → AHeap A → Prop) : funP Try.prog S G Try.f19 (.two none .leaf (.two none (.two none (.draw none (.take 0 (.take 2 (.take 3 (.take 4 (.load 5 (.take 6 (.alt 1 (.take 7 .stop) .stop)))))))) .leaf) (.two none (.two none .leaf (.one [] (.one [5] .leaf))) .leaf))) [a0, a1] h K = p_law15_sameBooks S G a0 a1 h K := by kernel_rfl
theorem c_law15_sameBooks {R : Adts A} {h : AHeap A} {K : AVal → AHeap A → Prop} {a0 a1 : AVal} (hk : p_law15_sameBooks (Tri Pr R) (Gives Pr R) a0 a1 h K) : Tri Pr R n_law15_sameBooks [a0, a1] h K :=
  tri_of_funP (by kernel_rfl) (fun _ _ _ _ h => h) (fun _ _ _ _ h => h) Try.func19 (by rw [q_law15_sameBooks]; exact hk)
/-- bastion/book.New -/
def p_book_New (S : FuncId → List AVal → AHeap A → (AVal → AHeap A → Prop) → Prop) (G : Nat → AHeap A → List AVal → (List AVal → AHeap A → Prop) → Prop) (a0 : AVal) (h : AHeap A) (K : AVal → AHeap A → Prop) : Prop :=
 binP .lss .other a0 (.int .i64 1) fun v1 =>
 condP v1 false (fun k2 =>
 binP .gtr .other a0 (.int .i64 65536) fun v3 =>
 k2 v3 h)
 (.bool true) h fun v4 h =>
 iteP v4
 (K (.tup [.nilp, .int .i64 200]) h)
 (mkmP h fun v5 h =>
 bldP [.int .i64 0, .nils, .nilm] [(0, 1, a0), (2, 1, v5)] fun v6 =>
 boxP t_book_Book 3 v6 h fun v7 h =>
 K (.tup [v7, .int .i64 0]) h)
theorem q_book_New (S : FuncId → List AVal → AHeap A → (AVal → AHeap A → Prop) → Prop) (G : Nat → AHeap A → List AVal → (List AVal → AHeap A → Prop) → Prop) (a0 : AVal) (h : AHeap A) (K : AVal → AHeap A → Prop) : funP Try.prog S G Try.f20 .leaf [a0] h K = p_book_New S G a0 h K := by kernel_rfl
theorem c_book_New {R : Adts A} {h : AHeap A} {K : AVal → AHeap A → Prop} {a0 : AVal} (hk : p_book_New (Tri Pr R) (Gives Pr R) a0 h K) : Tri Pr R n_book_New [a0] h K :=
  tri_of_funP (by kernel_rfl) (fun _ _ _ _ h => h) (fun _ _ _ _ h => h) Try.func20 (by rw [q_book_New]; exact hk)
end Go.AI
