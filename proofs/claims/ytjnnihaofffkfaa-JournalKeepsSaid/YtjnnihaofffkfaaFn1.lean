/- The functions as texts over the abstract heap. -/
import Derived.Test.YtjnnihaofffkfaaNm
import Derived.KernelRfl
set_option linter.all false
namespace Go.AI
open Go.Proofs
set_option maxRecDepth 1000000
variable {A : Type}
/-- bastion/bastionlaw11.JournalForms -/
def p_law11_JournalForms (S : FuncId → List AVal → AHeap A → (AVal → AHeap A → Prop) → Prop) (G : Nat → AHeap A → List AVal → (List AVal → AHeap A → Prop) → Prop) (a0 a1 : AVal) (h : AHeap A) (K : AVal → AHeap A → Prop) : Prop :=
 S n_law11_awake [] h fun v1 h =>
 notP v1 fun v2 =>
 iteP v2
 (K (.bool false) h)
 (binP .and .other a1 (.int .i64 1023) fun v3 =>
 binP .add .other (.int .i64 1) v3 fun v4 =>
 S n_law11_twin [.int .i64 99, .nils] h fun v5 h =>
 extP v5 0 fun v6 =>
 extP v5 1 fun v7 =>
 S n_law11_pair [.int .i64 2] h fun v8 h =>
 extP v8 0 fun v9 =>
 extP v8 1 fun v10 =>
 S n_law11_pair [.int .i64 6] h fun v11 h =>
 extP v11 0 fun v12 =>
 extP v11 1 fun v13 =>
 binP .eql .ptr v6 .nilp fun v14 =>
 condP v14 false (fun k15 =>
 binP .eql .ptr v9 .nilp fun v16 =>
 k15 v16 h)
 (.bool true) h fun v17 h =>
 condP v17 false (fun k18 =>
 binP .eql .ptr v12 .nilp fun v19 =>
 k18 v19 h)
 (.bool true) h fun v20 h =>
 iteP v20
 (K (.bool false) h)
 (S n_journal_Open [v6, .nilp] h fun v21 h =>
 extP v21 0 fun v22 =>
 extP v21 1 fun v23 =>
 S n_journal_Open [v6, v9] h fun v24 h =>
 extP v24 0 fun v25 =>
 extP v24 1 fun v26 =>
 S n_journal_Open [v6, v12] h fun v27 h =>
 extP v27 0 fun v28 =>
 extP v27 1 fun v29 =>
 S n_law0_Num [v29] h fun v30 h =>
 binP .neq .other v30 (.int .i64 0) fun v31 =>
 condP v31 false (fun k32 =>
 binP .eql .ptr v28 .nilp fun v33 =>
 k32 v33 h)
 (.bool true) h fun v34 h =>
 condP v34 false (fun k35 =>
 S n_journal_Journal_Room [v28] h fun v36 h =>
 binP .neq .other v36 (.int .i64 4) fun v37 =>
 k35 v37 h)
 (.bool true) h fun v38 h =>
 iteP v38
 (K (.bool false) h)
 (bldP [.int .i64 0, .int .i64 0, .int .i64 0, .int .i64 0, .int .i64 0, .int .i64 0, .int .i64 0, .int .i64 0] [(7, 1, .int .i64 3)] fun v39 =>
 bslP t_api_Event 1 [.int .i64 0, .int .i64 0, .int .i64 0, .int .i64 0, .int .i64 0, .int .i64 0, .int .i64 0, .int .i64 0] [(0, 8, v39)] h fun v40 h =>
 S n_journal_Journal_Append [v28, v40] h fun v41 h =>
 joinP G h.length (fun k42 =>
 cviP .u64 a0 fun v43 =>
 binP .rem .other v43 (.int .u64 4) fun v44 =>
 binP .eql .other v44 (.int .u64 0) fun v45 =>
 iteP v45
 (bldP [.int .i64 0, .int .i64 0, .int .i64 0, .int .i64 0, .int .i64 0, .int .i64 0, .int .i64 0, .int .i64 0] [] fun v46 =>
 binP .add .other (.int .i64 9) v4 fun v47 =>
 bldP [.int .i64 0, .int .i64 0, .int .i64 0, .int .i64 0, .int .i64 0, .int .i64 0, .int .i64 0, .int .i64 0] [(0, 1, v47)] fun v48 =>
 bslP t_api_Event 2 [.int .i64 0, .int .i64 0, .int .i64 0, .int .i64 0, .int .i64 0, .int .i64 0, .int .i64 0, .int .i64 0, .int .i64 0, .int .i64 0, .int .i64 0, .int .i64 0, .int .i64 0, .int .i64 0, .int .i64 0, .int .i64 0] [(0, 8, v46), (8, 8, v48)] h fun v49 h =>
 k42 [v49, .int .i64 1100] h)
 (binP .eql .other v44 (.int .u64 1) fun v50 =>
 iteP v50
 (negP v4 fun v51 =>
 bldP [.int .i64 0, .int .i64 0, .int .i64 0, .int .i64 0, .int .i64 0, .int .i64 0, .int .i64 0, .int .i64 0] [(7, 1, v51)] fun v52 =>
 bslP t_api_Event 1 [.int .i64 0, .int .i64 0, .int .i64 0, .int .i64 0, .int .i64 0, .int .i64 0, .int .i64 0, .int .i64 0] [(0, 8, v52)] h fun v53 h =>
 k42 [v53, .int .i64 1100] h)
 (binP .eql .other v44 (.int .u64 2) fun v54 =>
 iteP v54
 (bldP [.int .i64 0, .int .i64 0, .int .i64 0, .int .i64 0, .int .i64 0, .int .i64 0, .int .i64 0, .int .i64 0] [] fun v55 =>
 bldP [.int .i64 0, .int .i64 0, .int .i64 0, .int .i64 0, .int .i64 0, .int .i64 0, .int .i64 0, .int .i64 0] [] fun v56 =>
 bldP [.int .i64 0, .int .i64 0, .int .i64 0, .int .i64 0, .int .i64 0, .int .i64 0, .int .i64 0, .int .i64 0] [] fun v57 =>
 bldP [.int .i64 0, .int .i64 0, .int .i64 0, .int .i64 0, .int .i64 0, .int .i64 0, .int .i64 0, .int .i64 0] [] fun v58 =>
 bslP t_api_Event 4 [.int .i64 0, .int .i64 0, .int .i64 0, .int .i64 0, .int .i64 0, .int .i64 0, .int .i64 0, .int .i64 0, .int .i64 0, .int .i64 0, .int .i64 0, .int .i64 0, .int .i64 0, .int .i64 0, .int .i64 0, .int .i64 0, .int .i64 0, .int .i64 0, .int .i64 0, .int .i64 0, .int .i64 0, .int .i64 0, .int .i64 0, .int .i64 0, .int .i64 0, .int .i64 0, .int .i64 0, .int .i64 0, .int .i64 0, .int .i64 0, .int .i64 0, .int .i64 0] [(0, 8, v55), (8, 8, v56), (16, 8, v57), (24, 8, v58)] h fun v59 h =>
 k42 [v59, .int .i64 1101] h)
 (bldP [.int .i64 0, .int .i64 0, .int .i64 0, .int .i64 0, .int .i64 0, .int .i64 0, .int .i64 0, .int .i64 0] [] fun v60 =>
 bldP [.int .i64 0, .int .i64 0, .int .i64 0, .int .i64 0, .int .i64 0, .int .i64 0, .int .i64 0, .int .i64 0] [] fun v61 =>
 bldP [.int .i64 0, .int .i64 0, .int .i64 0, .int .i64 0, .int .i64 0, .int .i64 0, .int .i64 0, .int .i64 0] [] fun v62 =>
 bldP [.int .i64 0, .int .i64 0, .int .i64 0, .int .i64 0, .int .i64 0, .int .i64 0, .int .i64 0, .int .i64 0] [] fun v63 =>
 bldP [.int .i64 0, .int .i64 0, .int .i64 0, .int .i64 0, .int .i64 0, .int .i64 0, .int .i64 0, .int .i64 0] [(1, 1, v4)] fun v64 =>
 bslP t_api_Event 5 [.int .i64 0, .int .i64 0, .int .i64 0, .int .i64 0, .int .i64 0, .int .i64 0, .int .i64 0, .int .i64 0, .int .i64 0, .int .i64 0, .int .i64 0, .int .i64 0, .int .i64 0, .int .i64 0, .int .i64 0, .int .i64 0, .int .i64 0, .int .i64 0, .int .i64 0, .int .i64 0, .int .i64 0, .int .i64 0, .int .i64 0, .int .i64 0, .int .i64 0, .int .i64 0, .int .i64 0, .int .i64 0, .int .i64 0, .int .i64 0, .int .i64 0, .int .i64 0, .int .i64 0, .int .i64 0, .int .i64 0, .int .i64 0, .int .i64 0, .int .i64 0, .int .i64 0, .int .i64 0] [(0, 8, v60), (8, 8, v61), (16, 8, v62), (24, 8, v63), (32, 8, v64)] h fun v65 h =>
 k42 [v65, .int .i64 1100] h))))
 (fun v118 h =>
 (fun v66 v67 =>
 S n_journal_Journal_Append [v28, v66] h fun v68 h =>
 S n_journal_Journal_Write [v28, v66] h fun v69 h =>
 S n_journal_Journal_Append [v28, .nils] h fun v70 h =>
 S n_disk_Disk_Crash [v12, .int .i64 0, .int .i64 0] h fun v71 h =>
 bldP [.int .i64 0, .int .i64 0, .int .i64 0, .int .i64 0, .int .i64 0, .int .i64 0, .int .i64 0, .int .i64 0] [] fun v72 =>
 bslP t_api_Event 1 [.int .i64 0, .int .i64 0, .int .i64 0, .int .i64 0, .int .i64 0, .int .i64 0, .int .i64 0, .int .i64 0] [(0, 8, v72)] h fun v73 h =>
 S n_journal_Journal_Append [v28, v73] h fun v74 h =>
 S n_journal_Open [v6, v12] h fun v75 h =>
 extP v75 0 fun v76 =>
 extP v75 1 fun v77 =>
 S n_law0_Num [v23] h fun v78 h =>
 binP .eql .other v78 (.int .i64 1) fun v79 =>
 condP v79 true (fun k80 =>
 S n_law0_Num [v26] h fun v81 h =>
 binP .eql .other v81 (.int .i64 1100) fun v82 =>
 k80 v82 h)
 (.bool false) h fun v83 h =>
 condP v83 true (fun k84 =>
 S n_law0_Num [v41] h fun v85 h =>
 binP .eql .other v85 (.int .i64 0) fun v86 =>
 k84 v86 h)
 (.bool false) h fun v87 h =>
 condP v87 true (fun k88 =>
 S n_law0_Num [v68] h fun v89 h =>
 binP .eql .other v89 v67 fun v90 =>
 k88 v90 h)
 (.bool false) h fun v91 h =>
 condP v91 true (fun k92 =>
 S n_law0_Num [v69] h fun v93 h =>
 binP .eql .other v93 v67 fun v94 =>
 k92 v94 h)
 (.bool false) h fun v95 h =>
 condP v95 true (fun k96 =>
 S n_law0_Num [v70] h fun v97 h =>
 binP .eql .other v97 (.int .i64 0) fun v98 =>
 k96 v98 h)
 (.bool false) h fun v99 h =>
 condP v99 true (fun k100 =>
 S n_law0_Num [v74] h fun v101 h =>
 binP .eql .other v101 (.int .i64 1102) fun v102 =>
 k100 v102 h)
 (.bool false) h fun v103 h =>
 condP v103 true (fun k104 =>
 S n_law0_Num [v77] h fun v105 h =>
 binP .eql .other v105 (.int .i64 1102) fun v106 =>
 k104 v106 h)
 (.bool false) h fun v107 h =>
 condP v107 true (fun k108 =>
 S n_journal_Journal_Events [v28] h fun v109 h =>
 bldP [.int .i64 0, .int .i64 0, .int .i64 0, .int .i64 0, .int .i64 0, .int .i64 0, .int .i64 0, .int .i64 0] [(7, 1, .int .i64 3)] fun v110 =>
 bslP t_api_Event 1 [.int .i64 0, .int .i64 0, .int .i64 0, .int .i64 0, .int .i64 0, .int .i64 0, .int .i64 0, .int .i64 0] [(0, 8, v110)] h fun v111 h =>
 S n_law0_SameEvents [v109, v111] h fun v112 h =>
 k108 v112 h)
 (.bool false) h fun v113 h =>
 condP v113 true (fun k114 =>
 S n_journal_Journal_Room [v28] h fun v115 h =>
 binP .eql .other v115 (.int .i64 3) fun v116 =>
 k114 v116 h)
 (.bool false) h fun v117 h =>
 K v117 h) (v118.getD 0 .any) (v118.getD 1 .any)))))
theorem q_law11_JournalForms (S : FuncId → List AVal → AHeap A → (AVal → AHeap A → Prop) → Prop) (G : Nat → AHeap A → List AVal → (List AVal → AHeap A → Prop) → Prop) (a0 a1 : AVal) (h : AHeap A) (K : AVal → AHeap A → Prop) : funP Try.prog S G Try.f7 (.two none .leaf (.two none .leaf (.two none .leaf (.two none .leaf (.two none .leaf (.two none .leaf (.two none .leaf (.two none .leaf (.two none .leaf (.two none .leaf (.two none .leaf (.two none .leaf (.two none .leaf (.two none .leaf (.two (some [19, 20]) .leaf .leaf))))))))))))))) [a0, a1] h K = p_law11_JournalForms S G a0 a1 h K := by kernel_rfl
theorem c_law11_JournalForms {R : Adts A} {h : AHeap A} {K : AVal → AHeap A → Prop} {a0 a1 : AVal} (hk : p_law11_JournalForms (Tri Pr R) (Gives Pr R) a0 a1 h K) : Tri Pr R n_law11_JournalForms [a0, a1] h K :=
  tri_of_funP (by kernel_rfl) (fun _ _ _ _ h => h) (fun _ _ _ _ h => h) Try.func7 (by rw [q_law11_JournalForms]; exact hk)
/-- bastion/bastionlaw11.JournalChain -/
def p_law11_JournalChain (S : FuncId → List AVal → AHeap A → (AVal → AHeap A → Prop) → Prop) (G : Nat → AHeap A → List AVal → (List AVal → AHeap A → Prop) → Prop) (a0 : AVal) (h : AHeap A) (K : AVal → AHeap A → Prop) : Prop :=
 S n_law11_awake [] h fun v1 h =>
 notP v1 fun v2 =>
 iteP v2
 (K (.bool false) h)
 (S n_law11_twin [.int .i64 65536, .nils] h fun v3 h =>
 extP v3 0 fun v4 =>
 extP v3 1 fun v5 =>
 S n_law11_pair [.int .i64 50] h fun v6 h =>
 extP v6 0 fun v7 =>
 extP v6 1 fun v8 =>
 S n_ref1_NewBook [.int .i64 65536] h fun v9 h =>
 extP v9 0 fun v10 =>
 extP v9 1 fun v11 =>
 binP .eql .ptr v4 .nilp fun v12 =>
 condP v12 false (fun k13 =>
 binP .eql .ptr v7 .nilp fun v14 =>
 k13 v14 h)
 (.bool true) h fun v15 h =>
 condP v15 false (fun k16 =>
 binP .neq .other v11 (.int .i64 0) fun v17 =>
 k16 v17 h)
 (.bool true) h fun v18 h =>
 iteP v18
 (K (.bool false) h)
 (S n_journal_Open [v4, v7] h fun v19 h =>
 extP v19 0 fun v20 =>
 extP v19 1 fun v21 =>
 S n_law0_Num [v21] h fun v22 h =>
 binP .neq .other v22 (.int .i64 0) fun v23 =>
 condP v23 false (fun k24 =>
 binP .eql .ptr v20 .nilp fun v25 =>
 k24 v25 h)
 (.bool true) h fun v26 h =>
 iteP v26
 (K (.bool false) h)
 (loopP G (fun v113 h k30 =>
 (fun v27 v28 v29 =>
 lenP a0 fun v31 =>
 binP .lss .other v29 v31 fun v32 =>
 condP v32 true (fun k33 =>
 binP .lss .other v29 (.int .i64 30) fun v34 =>
 k33 v34 h)
 (.bool false) h fun v35 h =>
 iteP v35
 (joinP G h.length (fun k36 =>
 idxP 1 a0 v29 fun v37 =>
 ldP 1 false v37 h fun v38 =>
 binP .and .other v38 (.int .i64 3) fun v39 =>
 binP .eql .other v39 (.int .i64 3) fun v40 =>
 iteP v40
 (S n_journal_Open [v4, v7] h fun v41 h =>
 extP v41 0 fun v42 =>
 extP v41 1 fun v43 =>
 S n_law0_Num [v43] h fun v44 h =>
 binP .neq .other v44 (.int .i64 0) fun v45 =>
 condP v45 false (fun k46 =>
 binP .eql .ptr v42 .nilp fun v47 =>
 k46 v47 h)
 (.bool true) h fun v48 h =>
 iteP v48
 (K (.bool false) h)
 (k36 [v42, v28] h))
 (bldP [.int .i64 0, .int .i64 0, .int .i64 0, .int .i64 0, .int .i64 0, .int .i64 0, .int .i64 0, .int .i64 0] [(0, 1, .int .i64 9), (2, 1, v29)] fun v49 =>
 bslP t_api_Event 1 [.int .i64 0, .int .i64 0, .int .i64 0, .int .i64 0, .int .i64 0, .int .i64 0, .int .i64 0, .int .i64 0] [(0, 8, v49)] h fun v50 h =>
 S n_journal_Journal_Append [v27, v50] h fun v51 h =>
 S n_journal_Journal_Boot [v27] h fun v52 h =>
 bslP t_int 1 [.int .i64 0] [(0, 1, v52)] h fun v53 h =>
 appP t_int 1 8 v28 v53 h fun v54 h =>
 S n_law0_Num [v51] h fun v55 h =>
 binP .neq .other v55 (.int .i64 0) fun v56 =>
 iteP v56
 (K (.bool false) h)
 (k36 [v27, v54] h)))
 (fun v60 h =>
 (fun v57 v58 =>
 binP .add .other v29 (.int .i64 1) fun v59 =>
 k30 [v57, v58, v59] h) (v60.getD 0 .any) (v60.getD 1 .any)))
 (loopP G (fun v112 h k62 =>
 (fun v61 =>
 S n_book_Book_Len [v4] h fun v63 h =>
 binP .lss .other v61 v63 fun v64 =>
 iteP v64
 (S n_book_Book_Term [v4, v61] h fun v65 h =>
 extP v65 0 fun v66 =>
 extP v65 1 fun v67 =>
 S n_ref1_Book_Name [v10, v66] h fun v68 h =>
 S n_law0_Num [v67] h fun v69 h =>
 binP .neq .other v69 (.int .i64 0) fun v70 =>
 iteP v70
 (K (.bool false) h)
 (binP .add .other v61 (.int .i64 1) fun v71 =>
 k62 [v71] h))
 (loopP G (fun v111 h k74 =>
 (fun v72 v73 =>
 lenP v28 fun v75 =>
 binP .lss .other v73 v75 fun v76 =>
 iteP v76
 (binP .add .other (.int .i64 2) v73 fun v77 =>
 S n_disk_Disk_Read [v7, v77] h fun v78 h =>
 extP v78 0 fun v79 =>
 extP v78 1 fun v80 =>
 binP .add .other v73 (.int .i64 1) fun v81 =>
 S n_ref1_GetRecord [v10, v79, v81, v72] h fun v82 h =>
 extP v82 0 fun v83 =>
 extP v82 1 fun v84 =>
 extP v82 2 fun v85 =>
 newP t_api_Record (reps 11 (.int .i64 0)) h fun v86 h =>
 stP 11 v86 v83 h fun h =>
 joinP G h.length (fun k87 =>
 S n_law0_Num [v80] h fun v88 h =>
 binP .neq .other v88 (.int .i64 0) fun v89 =>
 iteP v89
 (k87 [.bool true] h)
 (binP .neq .other v85 (.int .i64 0) fun v90 =>
 iteP v90
 (k87 [.bool true] h)
 (fadP 1 v86 fun v91 =>
 idxP 1 v28 v73 fun v92 =>
 ldP 1 false v91 h fun v93 =>
 ldP 1 false v92 h fun v94 =>
 ldV 1 false v91 h = some v93 ∧
 binP .neq .other v93 v94 fun v95 =>
 k87 [v95] h)))
 (fun v98 h =>
 (fun v96 =>
 iteP v96
 (K (.bool false) h)
 (binP .add .other v73 (.int .i64 1) fun v97 =>
 k74 [v84, v97] h)) (v98.getD 0 .any)))
 (lenP v28 fun v99 =>
 binP .add .other (.int .i64 2) v99 fun v100 =>
 S n_disk_Disk_Read [v7, v100] h fun v101 h =>
 extP v101 0 fun v102 =>
 extP v101 1 fun v103 =>
 S n_law0_Num [v103] h fun v104 h =>
 binP .eql .other v104 (.int .i64 0) fun v105 =>
 condP v105 true (fun k106 =>
 mkslP t_uint8 1 1 [.int .u8 0] (.int .i64 64) (.int .i64 64) h fun v107 h =>
 b2sP v107 h fun v108 =>
 binP .eql .other v102 v108 fun v109 =>
 k106 v109 h)
 (.bool false) h fun v110 h =>
 K v110 h)) (v111.getD 0 .any) (v111.getD 1 .any)) [.int .i64 0, .int .i64 0] h)) (v112.getD 0 .any)) [.int .i64 0] h)) (v113.getD 0 .any) (v113.getD 1 .any) (v113.getD 2 .any)) [v20, .nils, .int .i64 0] h)))
theorem q_law11_JournalChain (S : FuncId → List AVal → AHeap A → (AVal → AHeap A → Prop) → Prop) (G : Nat → AHeap A → List AVal → (List AVal → AHeap A → Prop) → Prop) (a0 : AVal) (h : AHeap A) (K : AVal → AHeap A → Prop) : funP Try.prog S G Try.f8 (.two none .leaf (.two none .leaf (.two none .leaf (.two none .leaf (.two none .leaf (.two none .leaf (.two none .leaf (.two none .leaf (.two none .leaf (.two none (.two none .leaf (.one [] (.one [9, 11, 12] (.two none .leaf (.two (some [9, 11]) .leaf .leaf))))) (.two none (.two none .leaf (.one [] (.one [16] .leaf))) (.two none .leaf (.two none (.two none .leaf (.one [] (.one [19, 20] (.two none .leaf (.two none (.one [] (.two none .leaf (.two none .leaf (.two none (.two none (.draw (some [164]) (.take 0 (.alt 1 (.take 2 (.take 3 (.split 3 (.skip 4 (.skip 5 (.take 6 (.take 7 (.known 7 true (.skip 8 (.skip 9 (.skip 10 (.skip 11 (.skip 12 (.skip 13 (.skip 14 (.take 15 .stop))))))))))))) (.take 4 (.take 5 (.take 6 (.take 7 (.split 7 (.skip 8 (.skip 9 (.skip 10 (.skip 11 (.skip 12 (.skip 13 (.skip 14 (.take 15 .stop)))))))) (.take 8 (.take 10 (.take 11 (.take 12 (.load 9 (.alt 13 (.take 14 (.take 15 .stop)) .stop)))))))))))))) .stop))) .leaf) .leaf)))) .leaf))))) .leaf))))))))))))) [a0] h K = p_law11_JournalChain S G a0 h K := by kernel_rfl
theorem c_law11_JournalChain {R : Adts A} {h : AHeap A} {K : AVal → AHeap A → Prop} {a0 : AVal} (hk : p_law11_JournalChain (Tri Pr R) (Gives Pr R) a0 h K) : Tri Pr R n_law11_JournalChain [a0] h K :=
  tri_of_funP (by kernel_rfl) (fun _ _ _ _ h => h) (fun _ _ _ _ h => h) Try.func8 (by rw [q_law11_JournalChain]; exact hk)
/-- bastion/bastionlaw11.awake -/
def p_law11_awake (S : FuncId → List AVal → AHeap A → (AVal → AHeap A → Prop) → Prop) (G : Nat → AHeap A → List AVal → (List AVal → AHeap A → Prop) → Prop) (h : AHeap A) (K : AVal → AHeap A → Prop) : Prop :=
 S n_law11_twin [.int .i64 99, .nils] h fun v1 h =>
 extP v1 0 fun v2 =>
 extP v1 1 fun v3 =>
 S n_law11_pair [.int .i64 5] h fun v4 h =>
 extP v4 0 fun v5 =>
 extP v4 1 fun v6 =>
 binP .eql .ptr v2 .nilp fun v7 =>
 condP v7 false (fun k8 =>
 binP .eql .ptr v5 .nilp fun v9 =>
 k8 v9 h)
 (.bool true) h fun v10 h =>
 iteP v10
 (K (.bool false) h)
 (S n_journal_Open [v2, v5] h fun v11 h =>
 extP v11 0 fun v12 =>
 extP v11 1 fun v13 =>
 S n_journal_Open [.nilp, v5] h fun v14 h =>
 extP v14 0 fun v15 =>
 extP v14 1 fun v16 =>
 S n_law0_Num [v13] h fun v17 h =>
 binP .neq .other v17 (.int .i64 0) fun v18 =>
 condP v18 false (fun k19 =>
 binP .eql .ptr v12 .nilp fun v20 =>
 k19 v20 h)
 (.bool true) h fun v21 h =>
 iteP v21
 (K (.bool false) h)
 (bldP [.int .i64 0, .int .i64 0, .int .i64 0, .int .i64 0, .int .i64 0, .int .i64 0, .int .i64 0, .int .i64 0] [(0, 1, .int .i64 0), (7, 1, .int .i64 5)] fun v22 =>
 bldP [.int .i64 0, .int .i64 0, .int .i64 0, .int .i64 0, .int .i64 0, .int .i64 0, .int .i64 0, .int .i64 0] [(0, 1, .int .i64 8)] fun v23 =>
 newP t_api_Event [.int .i64 0, .int .i64 0, .int .i64 0, .int .i64 0, .int .i64 0, .int .i64 0, .int .i64 0, .int .i64 0] h fun v24 h =>
 newP t_api_Event [.int .i64 0, .int .i64 0, .int .i64 0, .int .i64 0, .int .i64 0, .int .i64 0, .int .i64 0, .int .i64 0] h fun v25 h =>
 stP 8 v24 v22 h fun h =>
 stP 8 v25 v23 h fun h =>
 ldP 8 true v24 h fun v26 =>
 bslP t_api_Event 1 [.int .i64 0, .int .i64 0, .int .i64 0, .int .i64 0, .int .i64 0, .int .i64 0, .int .i64 0, .int .i64 0] [(0, 8, v26)] h fun v27 h =>
 S n_journal_Journal_Append [v12, v27] h fun v28 h =>
 ldP 8 true v25 h fun v29 =>
 ldP 8 true v25 h fun v30 =>
 bslP t_api_Event 2 [.int .i64 0, .int .i64 0, .int .i64 0, .int .i64 0, .int .i64 0, .int .i64 0, .int .i64 0, .int .i64 0, .int .i64 0, .int .i64 0, .int .i64 0, .int .i64 0, .int .i64 0, .int .i64 0, .int .i64 0, .int .i64 0] [(0, 8, v29), (8, 8, v30)] h fun v31 h =>
 S n_journal_Journal_Write [v12, v31] h fun v32 h =>
 ldP 8 true v24 h fun v33 =>
 bslP t_api_Event 1 [.int .i64 0, .int .i64 0, .int .i64 0, .int .i64 0, .int .i64 0, .int .i64 0, .int .i64 0, .int .i64 0] [(0, 8, v33)] h fun v34 h =>
 S n_journal_Journal_Append [v12, v34] h fun v35 h =>
 S n_disk_Disk_Crash [v5, .int .i64 1, .int .i64 5] h fun v36 h =>
 S n_disk_Disk_Restart [v5] h fun v37 h =>
 S n_journal_Open [v2, v5] h fun v38 h =>
 extP v38 0 fun v39 =>
 extP v38 1 fun v40 =>
 S n_law0_Num [v40] h fun v41 h =>
 binP .neq .other v41 (.int .i64 0) fun v42 =>
 condP v42 false (fun k43 =>
 binP .eql .ptr v39 .nilp fun v44 =>
 k43 v44 h)
 (.bool true) h fun v45 h =>
 iteP v45
 (K (.bool false) h)
 (ldP 8 true v25 h fun v46 =>
 ldP 8 true v25 h fun v47 =>
 bslP t_api_Event 2 [.int .i64 0, .int .i64 0, .int .i64 0, .int .i64 0, .int .i64 0, .int .i64 0, .int .i64 0, .int .i64 0, .int .i64 0, .int .i64 0, .int .i64 0, .int .i64 0, .int .i64 0, .int .i64 0, .int .i64 0, .int .i64 0] [(0, 8, v46), (8, 8, v47)] h fun v48 h =>
 S n_journal_Journal_Append [v39, v48] h fun v49 h =>
 bldP [.int .i64 0, .int .i64 0, .int .i64 0, .int .i64 0, .int .i64 0, .int .i64 0, .int .i64 0, .int .i64 0] [(0, 1, .int .i64 99)] fun v50 =>
 bslP t_api_Event 1 [.int .i64 0, .int .i64 0, .int .i64 0, .int .i64 0, .int .i64 0, .int .i64 0, .int .i64 0, .int .i64 0] [(0, 8, v50)] h fun v51 h =>
 S n_journal_Journal_Append [v39, v51] h fun v52 h =>
 joinP G h.length (fun k53 =>
 S n_law0_Num [v16] h fun v54 h =>
 binP .eql .other v54 (.int .i64 1) fun v55 =>
 iteP v55
 (S n_journal_Journal_Boot [v12] h fun v56 h =>
 binP .eql .other v56 (.int .i64 1) fun v57 =>
 iteP v57
 (S n_law0_Num [v28] h fun v58 h =>
 binP .eql .other v58 (.int .i64 0) fun v59 =>
 iteP v59
 (S n_law0_Num [v32] h fun v60 h =>
 binP .eql .other v60 (.int .i64 0) fun v61 =>
 iteP v61
 (S n_law0_Num [v35] h fun v62 h =>
 binP .eql .other v62 (.int .i64 1102) fun v63 =>
 iteP v63
 (S n_journal_Journal_Boot [v39] h fun v64 h =>
 binP .eql .other v64 (.int .i64 2) fun v65 =>
 iteP v65
 (ldP 8 true v24 h fun v66 =>
 ldP 8 true v25 h fun v67 =>
 (S n_journal_Journal_Events [v39] h fun v68 h =>
 ldV 8 true v25 h = some v67 ∧
 ldV 8 true v24 h = some v66 ∧
 bslP t_api_Event 2 [.int .i64 0, .int .i64 0, .int .i64 0, .int .i64 0, .int .i64 0, .int .i64 0, .int .i64 0, .int .i64 0, .int .i64 0, .int .i64 0, .int .i64 0, .int .i64 0, .int .i64 0, .int .i64 0, .int .i64 0, .int .i64 0] [(0, 8, v66), (8, 8, v67)] h fun v69 h =>
 S n_law0_SameEvents [v68, v69] h fun v70 h =>
 iteP v70
 (S n_journal_Journal_Room [v39] h fun v71 h =>
 binP .eql .other v71 (.int .i64 1) fun v72 =>
 iteP v72
 (S n_law0_Num [v49] h fun v73 h =>
 binP .eql .other v73 (.int .i64 1101) fun v74 =>
 iteP v74
 (S n_law0_Num [v52] h fun v75 h =>
 binP .eql .other v75 (.int .i64 1100) fun v76 =>
 k53 [v76] h)
 (k53 [.bool false] h))
 (k53 [.bool false] h))
 (k53 [.bool false] h)) ∧
 (bslP t_api_Event 2 [.int .i64 0, .int .i64 0, .int .i64 0, .int .i64 0, .int .i64 0, .int .i64 0, .int .i64 0, .int .i64 0, .int .i64 0, .int .i64 0, .int .i64 0, .int .i64 0, .int .i64 0, .int .i64 0, .int .i64 0, .int .i64 0] [(0, 8, v66), (8, 8, v67)] h fun v77 h =>
 S n_journal_Journal_Events [v39] h fun v78 h =>
 S n_law0_SameEvents [v78, v77] h fun v79 h =>
 iteP v79
 (S n_journal_Journal_Room [v39] h fun v80 h =>
 binP .eql .other v80 (.int .i64 1) fun v81 =>
 iteP v81
 (S n_law0_Num [v49] h fun v82 h =>
 binP .eql .other v82 (.int .i64 1101) fun v83 =>
 iteP v83
 (S n_law0_Num [v52] h fun v84 h =>
 binP .eql .other v84 (.int .i64 1100) fun v85 =>
 k53 [v85] h)
 (k53 [.bool false] h))
 (k53 [.bool false] h))
 (k53 [.bool false] h)))
 (k53 [.bool false] h))
 (k53 [.bool false] h))
 (k53 [.bool false] h))
 (k53 [.bool false] h))
 (k53 [.bool false] h))
 (k53 [.bool false] h))
 (fun v87 h =>
 (fun v86 =>
 K v86 h) (v87.getD 0 .any)))))
theorem q_law11_awake (S : FuncId → List AVal → AHeap A → (AVal → AHeap A → Prop) → Prop) (G : Nat → AHeap A → List AVal → (List AVal → AHeap A → Prop) → Prop) (h : AHeap A) (K : AVal → AHeap A → Prop) : funP Try.prog S G Try.f9 (.two none .leaf (.two none .leaf (.two none .leaf (.two none .leaf (.two none .leaf (.two none .leaf (.two none .leaf (.two none .leaf (.two none .leaf (.two none .leaf (.two none .leaf (.two none .leaf (.two none .leaf (.two none .leaf (.two none .leaf (.two none .leaf (.two none .leaf (.two none (.draw (some [0]) (.take 0 (.alt 1 (.take 2 (.take 3 (.split 3 (.take 4 (.alt 5 (.take 6 (.take 7 (.take 8 (.split 8 (.take 9 (.alt 10 (.take 11 (.take 12 (.take 13 (.split 13 (.take 14 (.alt 15 (.take 16 (.take 17 (.take 18 (.split 18 (.take 19 (.alt 20 (.take 21 (.take 22 (.take 23 (.split 23 (.take 24 (.alt 25 (.take 26 (.take 27 (.take 28 (.split 28 (.take 29 (.load 31 (.load 32 (.alt 30 (.alt 33 (.alt 34 (.take 35 (.take 36 (.split 36 (.take 37 (.alt 38 (.take 39 (.take 40 (.take 41 (.split 41 (.take 42 (.alt 43 (.take 44 (.take 45 (.take 46 (.split 46 (.take 47 (.alt 48 (.take 49 (.take 50 (.take 51 .stop))) .stop)) (.skip 47 (.skip 48 (.skip 49 (.take 50 (.take 51 .stop))))))))) .stop)) (.skip 42 (.skip 43 (.skip 44 (.take 45 (.take 46 (.known 46 false (.skip 47 (.skip 48 (.skip 49 (.take 50 (.take 51 .stop))))))))))))))) .stop)) (.skip 37 (.skip 38 (.skip 39 (.take 40 (.take 41 (.known 41 false (.skip 42 (.skip 43 (.skip 44 (.take 45 (.take 46 (.known 46 false (.skip 47 (.skip 48 (.skip 49 (.take 50 (.take 51 .stop)))))))))))))))))))) .stop) .stop) (.alt 33 (.alt 30 (.alt 34 (.take 35 (.take 36 (.split 36 (.take 37 (.alt 38 (.take 39 (.take 40 (.take 41 (.split 41 (.take 42 (.alt 43 (.take 44 (.take 45 (.take 46 (.split 46 (.take 47 (.alt 48 (.take 49 (.take 50 (.take 51 .stop))) .stop)) (.skip 47 (.skip 48 (.skip 49 (.take 50 (.take 51 .stop))))))))) .stop)) (.skip 42 (.skip 43 (.skip 44 (.take 45 (.take 46 (.known 46 false (.skip 47 (.skip 48 (.skip 49 (.take 50 (.take 51 .stop))))))))))))))) .stop)) (.skip 37 (.skip 38 (.skip 39 (.take 40 (.take 41 (.known 41 false (.skip 42 (.skip 43 (.skip 44 (.take 45 (.take 46 (.known 46 false (.skip 47 (.skip 48 (.skip 49 (.take 50 (.take 51 .stop)))))))))))))))))))) .stop) .stop) .stop))))) (.skip 29 (.skip 30 (.skip 31 (.skip 32 (.skip 33 (.skip 34 (.take 35 (.take 36 (.known 36 false (.skip 37 (.skip 38 (.skip 39 (.take 40 (.take 41 (.known 41 false (.skip 42 (.skip 43 (.skip 44 (.take 45 (.take 46 (.known 46 false (.skip 47 (.skip 48 (.skip 49 (.take 50 (.take 51 .stop)))))))))))))))))))))))))))))) .stop)) (.skip 24 (.skip 25 (.skip 26 (.take 27 (.take 28 (.known 28 false (.skip 29 (.skip 30 (.skip 31 (.skip 32 (.skip 33 (.skip 34 (.take 35 (.take 36 (.known 36 false (.skip 37 (.skip 38 (.skip 39 (.take 40 (.take 41 (.known 41 false (.skip 42 (.skip 43 (.skip 44 (.take 45 (.take 46 (.known 46 false (.skip 47 (.skip 48 (.skip 49 (.take 50 (.take 51 .stop)))))))))))))))))))))))))))))))))))) .stop)) (.skip 19 (.skip 20 (.skip 21 (.take 22 (.take 23 (.known 23 false (.skip 24 (.skip 25 (.skip 26 (.take 27 (.take 28 (.known 28 false (.skip 29 (.skip 30 (.skip 31 (.skip 32 (.skip 33 (.skip 34 (.take 35 (.take 36 (.known 36 false (.skip 37 (.skip 38 (.skip 39 (.take 40 (.take 41 (.known 41 false (.skip 42 (.skip 43 (.skip 44 (.take 45 (.take 46 (.known 46 false (.skip 47 (.skip 48 (.skip 49 (.take 50 (.take 51 .stop)))))))))))))))))))))))))))))))))))))))))) .stop)) (.skip 14 (.skip 15 (.skip 16 (.take 17 (.take 18 (.known 18 false (.skip 19 (.skip 20 (.skip 21 (.take 22 (.take 23 (.known 23 false (.skip 24 (.skip 25 (.skip 26 (.take 27 (.take 28 (.known 28 false (.skip 29 (.skip 30 (.skip 31 (.skip 32 (.skip 33 (.skip 34 (.take 35 (.take 36 (.known 36 false (.skip 37 (.skip 38 (.skip 39 (.take 40 (.take 41 (.known 41 false (.skip 42 (.skip 43 (.skip 44 (.take 45 (.take 46 (.known 46 false (.skip 47 (.skip 48 (.skip 49 (.take 50 (.take 51 .stop)))))))))))))))))))))))))))))))))))))))))))))))) .stop)) (.skip 9 (.skip 10 (.skip 11 (.take 12 (.take 13 (.known 13 false (.skip 14 (.skip 15 (.skip 16 (.take 17 (.take 18 (.known 18 false (.skip 19 (.skip 20 (.skip 21 (.take 22 (.take 23 (.known 23 false (.skip 24 (.skip 25 (.skip 26 (.take 27 (.take 28 (.known 28 false (.skip 29 (.skip 30 (.skip 31 (.skip 32 (.skip 33 (.skip 34 (.take 35 (.take 36 (.known 36 false (.skip 37 (.skip 38 (.skip 39 (.take 40 (.take 41 (.known 41 false (.skip 42 (.skip 43 (.skip 44 (.take 45 (.take 46 (.known 46 false (.skip 47 (.skip 48 (.skip 49 (.take 50 (.take 51 .stop)))))))))))))))))))))))))))))))))))))))))))))))))))))) .stop)) (.skip 4 (.skip 5 (.skip 6 (.take 7 (.take 8 (.known 8 false (.skip 9 (.skip 10 (.skip 11 (.take 12 (.take 13 (.known 13 false (.skip 14 (.skip 15 (.skip 16 (.take 17 (.take 18 (.known 18 false (.skip 19 (.skip 20 (.skip 21 (.take 22 (.take 23 (.known 23 false (.skip 24 (.skip 25 (.skip 26 (.take 27 (.take 28 (.known 28 false (.skip 29 (.skip 30 (.skip 31 (.skip 32 (.skip 33 (.skip 34 (.take 35 (.take 36 (.known 36 false (.skip 37 (.skip 38 (.skip 39 (.take 40 (.take 41 (.known 41 false (.skip 42 (.skip 43 (.skip 44 (.take 45 (.take 46 (.known 46 false (.skip 47 (.skip 48 (.skip 49 (.take 50 (.take 51 .stop))))))))))))))))))))))))))))))))))))))))))))))))))))))))))) .stop))) .leaf)))))))))))))))))) [] h K = p_law11_awake S G h K := by kernel_rfl
theorem c_law11_awake {R : Adts A} {h : AHeap A} {K : AVal → AHeap A → Prop} (hk : p_law11_awake (Tri Pr R) (Gives Pr R) h K) : Tri Pr R n_law11_awake [] h K :=
  tri_of_funP (by kernel_rfl) (fun _ _ _ _ h => h) (fun _ _ _ _ h => h) Try.func9 (by rw [q_law11_awake]; exact hk)
/-- bastion/bastionlaw11.twin -/
def p_law11_twin (S : FuncId → List AVal → AHeap A → (AVal → AHeap A → Prop) → Prop) (G : Nat → AHeap A → List AVal → (List AVal → AHeap A → Prop) → Prop) (a0 a1 : AVal) (h : AHeap A) (K : AVal → AHeap A → Prop) : Prop :=
 S n_book_New [a0] h fun v1 h =>
 extP v1 0 fun v2 =>
 extP v1 1 fun v3 =>
 S n_ref1_NewBook [a0] h fun v4 h =>
 extP v4 0 fun v5 =>
 extP v4 1 fun v6 =>
 S n_law0_Num [v3] h fun v7 h =>
 binP .neq .other v7 (.int .i64 0) fun v8 =>
 condP v8 false (fun k9 =>
 binP .neq .other v6 (.int .i64 0) fun v10 =>
 k9 v10 h)
 (.bool true) h fun v11 h =>
 condP v11 false (fun k12 =>
 binP .eql .ptr v2 .nilp fun v13 =>
 k12 v13 h)
 (.bool true) h fun v14 h =>
 iteP v14
 (K (.tup [.nilp, .nilp]) h)
 (loopP G (fun v29 h k16 =>
 (fun v15 =>
 lenP a1 fun v17 =>
 binP .lss .other v15 v17 fun v18 =>
 condP v18 true (fun k19 =>
 binP .lss .other v15 (.int .i64 400) fun v20 =>
 k19 v20 h)
 (.bool false) h fun v21 h =>
 iteP v21
 (idxP 1 a1 v15 fun v22 =>
 ldP 1 false v22 h fun v23 =>
 S n_book_Book_Name [v2, v23] h fun v24 h =>
 idxP 1 a1 v15 fun v25 =>
 ldP 1 false v25 h fun v26 =>
 S n_ref1_Book_Name [v5, v26] h fun v27 h =>
 binP .add .other v15 (.int .i64 1) fun v28 =>
 k16 [v28] h)
 (K (.tup [v2, v5]) h)) (v29.getD 0 .any)) [.int .i64 0] h)
theorem q_law11_twin (S : FuncId → List AVal → AHeap A → (AVal → AHeap A → Prop) → Prop) (G : Nat → AHeap A → List AVal → (List AVal → AHeap A → Prop) → Prop) (a0 a1 : AVal) (h : AHeap A) (K : AVal → AHeap A → Prop) : funP Try.prog S G Try.f10 (.two none .leaf (.two none .leaf (.two none .leaf (.two none .leaf (.two none (.two none .leaf (.one [] (.one [10] .leaf))) .leaf))))) [a0, a1] h K = p_law11_twin S G a0 a1 h K := by kernel_rfl
theorem c_law11_twin {R : Adts A} {h : AHeap A} {K : AVal → AHeap A → Prop} {a0 a1 : AVal} (hk : p_law11_twin (Tri Pr R) (Gives Pr R) a0 a1 h K) : Tri Pr R n_law11_twin [a0, a1] h K :=
  tri_of_funP (by kernel_rfl) (fun _ _ _ _ h => h) (fun _ _ _ _ h => h) Try.func10 (by rw [q_law11_twin]; exact hk)
/-- bastion/bastionlaw11.pair -/
def p_law11_pair (S : FuncId → List AVal → AHeap A → (AVal → AHeap A → Prop) → Prop) (G : Nat → AHeap A → List AVal → (List AVal → AHeap A → Prop) → Prop) (a0 : AVal) (h : AHeap A) (K : AVal → AHeap A → Prop) : Prop :=
 S n_disk_New [a0] h fun v1 h =>
 extP v1 0 fun v2 =>
 extP v1 1 fun v3 =>
 S n_ref1_NewDisk [a0] h fun v4 h =>
 extP v4 0 fun v5 =>
 extP v4 1 fun v6 =>
 S n_law0_Num [v3] h fun v7 h =>
 binP .neq .other v7 (.int .i64 0) fun v8 =>
 condP v8 false (fun k9 =>
 binP .neq .other v6 (.int .i64 0) fun v10 =>
 k9 v10 h)
 (.bool true) h fun v11 h =>
 condP v11 false (fun k12 =>
 binP .eql .ptr v2 .nilp fun v13 =>
 k12 v13 h)
 (.bool true) h fun v14 h =>
 iteP v14
 (K (.tup [.nilp, .nilp]) h)
 (K (.tup [v2, v5]) h)
theorem q_law11_pair (S : FuncId → List AVal → AHeap A → (AVal → AHeap A → Prop) → Prop) (G : Nat → AHeap A → List AVal → (List AVal → AHeap A → Prop) → Prop) (a0 : AVal) (h : AHeap A) (K : AVal → AHeap A → Prop) : funP Try.prog S G Try.f11 .leaf [a0] h K = p_law11_pair S G a0 h K := by kernel_rfl
theorem c_law11_pair {R : Adts A} {h : AHeap A} {K : AVal → AHeap A → Prop} {a0 : AVal} (hk : p_law11_pair (Tri Pr R) (Gives Pr R) a0 h K) : Tri Pr R n_law11_pair [a0] h K :=
  tri_of_funP (by kernel_rfl) (fun _ _ _ _ h => h) (fun _ _ _ _ h => h) Try.func11 (by rw [q_law11_pair]; exact hk)
/-- bastion/journal.Open -/
def p_journal_Open (S : FuncId → List AVal → AHeap A → (AVal → AHeap A → Prop) → Prop) (G : Nat → AHeap A → List AVal → (List AVal → AHeap A → Prop) → Prop) (a0 a1 : AVal) (h : AHeap A) (K : AVal → AHeap A → Prop) : Prop :=
 binP .eql .ptr a0 .nilp fun v1 =>
 condP v1 false (fun k2 =>
 binP .eql .ptr a1 .nilp fun v3 =>
 k2 v3 h)
 (.bool true) h fun v4 h =>
 iteP v4
 (K (.tup [.nilp, .int .i64 1]) h)
 (S n_disk_Disk_Down [a1] h fun v5 h =>
 iteP v5
 (K (.tup [.nilp, .int .i64 1102]) h)
 (S n_disk_Disk_Size [a1] h fun v6 h =>
 binP .leq .other v6 (.int .i64 2) fun v7 =>
 iteP v7
 (K (.tup [.nilp, .int .i64 1100]) h)
 (bldP [.nilp, .nilp, .int .i64 0, .int .i64 0, .nils, .bool false] [(0, 1, a0), (1, 1, a1)] fun v8 =>
 boxP t_journal_Journal 6 v8 h fun v9 h =>
 S n_journal_Journal_began [v9] h fun v10 h =>
 mkiP t_api_Errno (.int .i64 1101) fun v11 =>
 S n_errors_Is [v10, v11] h fun v12 h =>
 iteP v12
 (K (.tup [.nilp, .int .i64 1101]) h)
 (loopP G (fun _ h k13 =>
 S n_journal_Journal_next [v9] h fun v14 h =>
 binP .eql .ifc v14 .nili fun v15 =>
 iteP v15
 (k13 [] h)
 (K (.tup [v9, .int .i64 0]) h)) [] h))))
theorem q_journal_Open (S : FuncId → List AVal → AHeap A → (AVal → AHeap A → Prop) → Prop) (G : Nat → AHeap A → List AVal → (List AVal → AHeap A → Prop) → Prop) (a0 a1 : AVal) (h : AHeap A) (K : AVal → AHeap A → Prop) : funP Try.prog S G Try.f12 (.two none .leaf (.two none .leaf (.two none .leaf (.two none .leaf (.two none (.one [] (.one [] .leaf)) .leaf))))) [a0, a1] h K = p_journal_Open S G a0 a1 h K := by kernel_rfl
theorem c_journal_Open {R : Adts A} {h : AHeap A} {K : AVal → AHeap A → Prop} {a0 a1 : AVal} (hk : p_journal_Open (Tri Pr R) (Gives Pr R) a0 a1 h K) : Tri Pr R n_journal_Open [a0, a1] h K :=
  tri_of_funP (by kernel_rfl) (fun _ _ _ _ h => h) (fun _ _ _ _ h => h) Try.func12 (by rw [q_journal_Open]; exact hk)
/-- bastion/bastionlaw0.Num -/
def p_law0_Num (S : FuncId → List AVal → AHeap A → (AVal → AHeap A → Prop) → Prop) (G : Nat → AHeap A → List AVal → (List AVal → AHeap A → Prop) → Prop) (a0 : AVal) (h : AHeap A) (K : AVal → AHeap A → Prop) : Prop :=
 K a0 h
theorem q_law0_Num (S : FuncId → List AVal → AHeap A → (AVal → AHeap A → Prop) → Prop) (G : Nat → AHeap A → List AVal → (List AVal → AHeap A → Prop) → Prop) (a0 : AVal) (h : AHeap A) (K : AVal → AHeap A → Prop) : funP Try.prog S G Try.f13 .leaf [a0] h K = p_law0_Num S G a0 h K := by kernel_rfl
theorem c_law0_Num {R : Adts A} {h : AHeap A} {K : AVal → AHeap A → Prop} {a0 : AVal} (hk : p_law0_Num (Tri Pr R) (Gives Pr R) a0 h K) : Tri Pr R n_law0_Num [a0] h K :=
  tri_of_funP (by kernel_rfl) (fun _ _ _ _ h => h) (fun _ _ _ _ h => h) Try.func13 (by rw [q_law0_Num]; exact hk)
/-- (*bastion/journal.Journal).Write -/
def p_journal_Journal_Write (S : FuncId → List AVal → AHeap A → (AVal → AHeap A → Prop) → Prop) (G : Nat → AHeap A → List AVal → (List AVal → AHeap A → Prop) → Prop) (a0 a1 : AVal) (h : AHeap A) (K : AVal → AHeap A → Prop) : Prop :=
 S n_journal_Journal_written [a0, a1] h fun v1 h =>
 extP v1 0 fun v2 =>
 extP v1 1 fun v3 =>
 joinP G h.length (fun k4 =>
 binP .eql .other v3 (.int .i64 0) fun v5 =>
 iteP v5
 (nilP a0 fun v6 =>
 fadP 5 v6 fun v7 =>
 stP 1 v7 (.bool true) h fun h =>
 k4 [] h)
 (k4 [] h))
 (fun _ h =>
 K v3 h)
theorem q_journal_Journal_Write (S : FuncId → List AVal → AHeap A → (AVal → AHeap A → Prop) → Prop) (G : Nat → AHeap A → List AVal → (List AVal → AHeap A → Prop) → Prop) (a0 a1 : AVal) (h : AHeap A) (K : AVal → AHeap A → Prop) : funP Try.prog S G Try.f14 (.two none .leaf (.two none .leaf (.two (some []) .leaf .leaf))) [a0, a1] h K = p_journal_Journal_Write S G a0 a1 h K := by kernel_rfl
theorem c_journal_Journal_Write {R : Adts A} {h : AHeap A} {K : AVal → AHeap A → Prop} {a0 a1 : AVal} (hk : p_journal_Journal_Write (Tri Pr R) (Gives Pr R) a0 a1 h K) : Tri Pr R n_journal_Journal_Write [a0, a1] h K :=
  tri_of_funP (by kernel_rfl) (fun _ _ _ _ h => h) (fun _ _ _ _ h => h) Try.func14 (by rw [q_journal_Journal_Write]; exact hk)
/-- (*bastion/disk.Disk).Crash -/
def p_disk_Disk_Crash (S : FuncId → List AVal → AHeap A → (AVal → AHeap A → Prop) → Prop) (G : Nat → AHeap A → List AVal → (List AVal → AHeap A → Prop) → Prop) (a0 a1 a2 : AVal) (h : AHeap A) (K : AVal → AHeap A → Prop) : Prop :=
 binP .eql .ptr a0 .nilp fun v1 =>
 iteP v1
 (K (.int .i64 1) h)
 (nilP a0 fun v2 =>
 fadP 2 v2 fun v3 =>
 ldP 1 false v3 h fun v4 =>
 iteP v4
 (K (.int .i64 801) h)
 (binP .lss .other a1 (.int .i64 0) fun v5 =>
 condP v5 false (fun k6 =>
 binP .lss .other a2 (.int .i64 0) fun v7 =>
 k6 v7 h)
 (.bool true) h fun v8 h =>
 iteP v8
 (K (.int .i64 800) h)
 (nilP a0 fun v9 =>
 fadP 1 v9 fun v10 =>
 ldP 1 false v10 h fun v11 =>
 lenP v11 fun v12 =>
 loopP G (fun v64 h k15 =>
 (fun v13 v14 =>
 binP .lss .other v14 v12 fun v16 =>
 iteP v16
 (joinP G h.length (fun k17 =>
 idxP 2 v11 v14 fun v18 =>
 ldP 2 true v18 h fun v19 =>
 newP t_disk_write [.int .i64 0, .str []] h fun v20 h =>
 stP 2 v20 v19 h fun h =>
 binP .lss .other v14 (.int .i64 30) fun v21 =>
 condP v21 true (fun k22 =>
 binP .shr .other a1 v14 fun v23 =>
 binP .and .other v23 (.int .i64 1) fun v24 =>
 binP .eql .other v24 (.int .i64 1) fun v25 =>
 k22 v25 h)
 (.bool false) h fun v26 h =>
 iteP v26
 (nilP a0 fun v27 =>
 fadP 0 v27 fun v28 =>
 fadP 0 v20 fun v29 =>
 fadP 1 v20 fun v30 =>
 ldP 1 false v28 h fun v31 =>
 ldP 1 false v29 h fun v32 =>
 ldP 1 false v30 h fun v33 =>
 ldV 1 false v29 h = some v32 ∧
 ldV 1 false v28 h = some v31 ∧
 idxP 1 v31 v32 fun v34 =>
 stP 1 v34 v33 h fun h =>
 k17 [v13] h)
 (iteP v13
 (fadP 1 v20 fun v35 =>
 ldP 1 false v35 h fun v36 =>
 lnsP v36 fun v37 =>
 minP [a2, v37] fun v38 =>
 nilP a0 fun v39 =>
 fadP 0 v39 fun v40 =>
 fadP 0 v20 fun v41 =>
 fadP 1 v20 fun v42 =>
 nilP a0 fun v43 =>
 fadP 0 v43 fun v44 =>
 fadP 0 v20 fun v45 =>
 ldP 1 false v40 h fun v46 =>
 ldP 1 false v41 h fun v47 =>
 ldP 1 false v42 h fun v48 =>
 subP v48 none (some v38) fun v49 =>
 ldP 1 false v44 h fun v50 =>
 ldP 1 false v45 h fun v51 =>
 ldV 1 false v44 h = some v50 ∧
 ldV 1 false v42 h = some v48 ∧
 ldV 1 false v41 h = some v47 ∧
 ldV 1 false v40 h = some v46 ∧
 idxP 1 v50 v51 fun v52 =>
 ldP 1 false v52 h fun v53 =>
 ldV 1 false v42 h = some v48 ∧
 ldV 1 false v41 h = some v47 ∧
 ldV 1 false v40 h = some v46 ∧
 subP v53 (some v38) none fun v54 =>
 binP .add .other v49 v54 fun v55 =>
 idxP 1 v46 v47 fun v56 =>
 stP 1 v56 v55 h fun h =>
 k17 [.bool false] h)
 (k17 [v13] h)))
 (fun v59 h =>
 (fun v57 =>
 binP .add .other v14 (.int .i64 1) fun v58 =>
 k15 [v57, v58] h) (v59.getD 0 .any)))
 (nilP a0 fun v60 =>
 fadP 1 v60 fun v61 =>
 stP 1 v61 .nils h fun h =>
 nilP a0 fun v62 =>
 fadP 2 v62 fun v63 =>
 stP 1 v63 (.bool true) h fun h =>
 K (.int .i64 0) h)) (v64.getD 0 .any) (v64.getD 1 .any)) [.bool true, .int .i64 0] h)))
theorem q_disk_Disk_Crash (S : FuncId → List AVal → AHeap A → (AVal → AHeap A → Prop) → Prop) (G : Nat → AHeap A → List AVal → (List AVal → AHeap A → Prop) → Prop) (a0 a1 a2 : AVal) (h : AHeap A) (K : AVal → AHeap A → Prop) : funP Try.prog S G Try.f15 (.two none .leaf (.two none .leaf (.two none .leaf (.two none (.two none .leaf (.one [] (.one [7, 31] (.two none .leaf (.two none .leaf (.two (some [7]) (.one [] (.two none .leaf (.one [] (.two none .leaf (.two none (.draw none (.take 0 (.take 1 (.take 2 (.take 4 (.take 6 (.load 3 (.load 5 (.alt 7 (.take 8 (.alt 9 .stop .stop)) .stop))))))))) (.two none .leaf (.two none (.two none .leaf (.two none (.draw none (.take 0 (.take 1 (.take 2 (.take 4 (.take 6 (.take 8 (.take 10 (.take 11 (.take 12 (.take 14 (.take 18 (.load 3 (.load 5 (.load 7 (.take 9 (.load 13 (.alt 15 (.take 16 (.alt 17 (.take 19 (.take 20 (.take 21 (.alt 22 .stop .stop)))) .stop)) .stop)))))))))))))))))) .leaf)) .leaf))))))) .leaf)))))) .leaf)))) [a0, a1, a2] h K = p_disk_Disk_Crash S G a0 a1 a2 h K := by kernel_rfl
theorem c_disk_Disk_Crash {R : Adts A} {h : AHeap A} {K : AVal → AHeap A → Prop} {a0 a1 a2 : AVal} (hk : p_disk_Disk_Crash (Tri Pr R) (Gives Pr R) a0 a1 a2 h K) : Tri Pr R n_disk_Disk_Crash [a0, a1, a2] h K :=
  tri_of_funP (by kernel_rfl) (fun _ _ _ _ h => h) (fun _ _ _ _ h => h) Try.func15 (by rw [q_disk_Disk_Crash]; exact hk)
/-- (*bastion/disk.Disk).Restart -/
def p_disk_Disk_Restart (S : FuncId → List AVal → AHeap A → (AVal → AHeap A → Prop) → Prop) (G : Nat → AHeap A → List AVal → (List AVal → AHeap A → Prop) → Prop) (a0 : AVal) (h : AHeap A) (K : AVal → AHeap A → Prop) : Prop :=
 binP .eql .ptr a0 .nilp fun v1 =>
 iteP v1
 (K (.int .i64 1) h)
 (nilP a0 fun v2 =>
 fadP 2 v2 fun v3 =>
 ldP 1 false v3 h fun v4 =>
 notP v4 fun v5 =>
 iteP v5
 (K (.int .i64 800) h)
 (nilP a0 fun v6 =>
 fadP 2 v6 fun v7 =>
 stP 1 v7 (.bool false) h fun h =>
 K (.int .i64 0) h))
theorem q_disk_Disk_Restart (S : FuncId → List AVal → AHeap A → (AVal → AHeap A → Prop) → Prop) (G : Nat → AHeap A → List AVal → (List AVal → AHeap A → Prop) → Prop) (a0 : AVal) (h : AHeap A) (K : AVal → AHeap A → Prop) : funP Try.prog S G Try.f16 .leaf [a0] h K = p_disk_Disk_Restart S G a0 h K := by kernel_rfl
theorem c_disk_Disk_Restart {R : Adts A} {h : AHeap A} {K : AVal → AHeap A → Prop} {a0 : AVal} (hk : p_disk_Disk_Restart (Tri Pr R) (Gives Pr R) a0 h K) : Tri Pr R n_disk_Disk_Restart [a0] h K :=
  tri_of_funP (by kernel_rfl) (fun _ _ _ _ h => h) (fun _ _ _ _ h => h) Try.func16 (by rw [q_disk_Disk_Restart]; exact hk)
/-- bastion/bastionlaw0.CopyEvents -/
def p_law0_CopyEvents (S : FuncId → List AVal → AHeap A → (AVal → AHeap A → Prop) → Prop) (G : Nat → AHeap A → List AVal → (List AVal → AHeap A → Prop) → Prop) (a0 : AVal) (h : AHeap A) (K : AVal → AHeap A → Prop) : Prop :=
 bslP t_api_Event 0 [] [] h fun v1 h =>
 appP t_api_Event 8 64 v1 a0 h fun v2 h =>
 K v2 h
theorem q_law0_CopyEvents (S : FuncId → List AVal → AHeap A → (AVal → AHeap A → Prop) → Prop) (G : Nat → AHeap A → List AVal → (List AVal → AHeap A → Prop) → Prop) (a0 : AVal) (h : AHeap A) (K : AVal → AHeap A → Prop) : funP Try.prog S G Try.f17 .leaf [a0] h K = p_law0_CopyEvents S G a0 h K := by kernel_rfl
theorem c_law0_CopyEvents {R : Adts A} {h : AHeap A} {K : AVal → AHeap A → Prop} {a0 : AVal} (hk : p_law0_CopyEvents (Tri Pr R) (Gives Pr R) a0 h K) : Tri Pr R n_law0_CopyEvents [a0] h K :=
  tri_of_funP (by kernel_rfl) (fun _ _ _ _ h => h) (fun _ _ _ _ h => h) Try.func17 (by rw [q_law0_CopyEvents]; exact hk)
end Go.AI
