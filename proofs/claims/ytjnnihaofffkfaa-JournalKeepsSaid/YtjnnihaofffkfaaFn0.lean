/- The functions as texts over the abstract heap. -/
import Derived.Test.YtjnnihaofffkfaaNm
import Derived.KernelRfl
set_option linter.all false
namespace Go.AI
open Go.Proofs
set_option maxRecDepth 1000000
variable {A : Type}
/-- bastion/bastionlaw11.JournalOld -/
def p_law11_JournalOld (S : FuncId → List AVal → AHeap A → (AVal → AHeap A → Prop) → Prop) (G : Nat → AHeap A → List AVal → (List AVal → AHeap A → Prop) → Prop) (a0 a1 a2 : AVal) (h : AHeap A) (K : AVal → AHeap A → Prop) : Prop :=
 S n_law11_awake [] h fun v1 h =>
 notP v1 fun v2 =>
 iteP v2
 (K (.bool false) h)
 (S n_law11_twin [.int .i64 65536, .nils] h fun v3 h =>
 extP v3 0 fun v4 =>
 extP v3 1 fun v5 =>
 S n_law11_pair [.int .i64 40] h fun v6 h =>
 extP v6 0 fun v7 =>
 extP v6 1 fun v8 =>
 binP .eql .ptr v4 .nilp fun v9 =>
 condP v9 false (fun k10 =>
 binP .eql .ptr v7 .nilp fun v11 =>
 k10 v11 h)
 (.bool true) h fun v12 h =>
 iteP v12
 (K (.bool false) h)
 (S n_journal_Open [v4, v7] h fun v13 h =>
 extP v13 0 fun v14 =>
 extP v13 1 fun v15 =>
 S n_law0_Num [v15] h fun v16 h =>
 binP .neq .other v16 (.int .i64 0) fun v17 =>
 condP v17 false (fun k18 =>
 binP .eql .ptr v14 .nilp fun v19 =>
 k18 v19 h)
 (.bool true) h fun v20 h =>
 iteP v20
 (K (.bool false) h)
 (binP .and .other a0 (.int .i64 7) fun v21 =>
 binP .add .other (.int .i64 3) v21 fun v22 =>
 loopP G (fun v105 h k25 =>
 (fun v23 v24 =>
 binP .lss .other v24 v22 fun v26 =>
 iteP v26
 (bldP [.int .i64 0, .int .i64 0, .int .i64 0, .int .i64 0, .int .i64 0, .int .i64 0, .int .i64 0, .int .i64 0] [(0, 1, .int .i64 9), (2, 1, v24)] fun v27 =>
 bslP t_api_Event 1 [.int .i64 0, .int .i64 0, .int .i64 0, .int .i64 0, .int .i64 0, .int .i64 0, .int .i64 0, .int .i64 0] [(0, 8, v27)] h fun v28 h =>
 appP t_api_Event 8 64 v23 v28 h fun v29 h =>
 binP .add .other v24 (.int .i64 1) fun v30 =>
 k25 [v29, v30] h)
 (S n_journal_Journal_Write [v14, v23] h fun v31 h =>
 cviP .u64 a1 fun v32 =>
 cviP .u64 v22 fun v33 =>
 binP .rem .other v32 v33 fun v34 =>
 cviP .i64 v34 fun v35 =>
 cviP .u64 v35 fun v36 =>
 binP .shl .other (.int .i64 1) v36 fun v37 =>
 binP .andNot .other (.int .i64 1073741823) v37 fun v38 =>
 S n_disk_Disk_Crash [v7, v38, .int .i64 0] h fun v39 h =>
 S n_disk_Disk_Restart [v7] h fun v40 h =>
 rslP 8 v23 none (some v35) none fun v41 =>
 S n_law0_CopyEvents [v41] h fun v42 h =>
 loopP G (fun v104 h k45 =>
 (fun v43 v44 =>
 binP .lss .other v44 (.int .i64 4) fun v46 =>
 iteP v46
 (S n_journal_Open [v4, v7] h fun v47 h =>
 extP v47 0 fun v48 =>
 extP v47 1 fun v49 =>
 S n_law0_Num [v31] h fun v50 h =>
 binP .neq .other v50 (.int .i64 0) fun v51 =>
 condP v51 false (fun k52 =>
 S n_law0_Num [v49] h fun v53 h =>
 binP .neq .other v53 (.int .i64 0) fun v54 =>
 k52 v54 h)
 (.bool true) h fun v55 h =>
 condP v55 false (fun k56 =>
 binP .eql .ptr v48 .nilp fun v57 =>
 k56 v57 h)
 (.bool true) h fun v58 h =>
 condP v58 false (fun k59 =>
 S n_journal_Journal_Events [v48] h fun v60 h =>
 S n_law0_SameEvents [v60, v43] h fun v61 h =>
 notP v61 fun v62 =>
 k59 v62 h)
 (.bool true) h fun v63 h =>
 iteP v63
 (K (.bool false) h)
 (idxP 8 v23 v35 fun v64 =>
 ldP 8 true v64 h fun v65 =>
 newP t_api_Event [.int .i64 0, .int .i64 0, .int .i64 0, .int .i64 0, .int .i64 0, .int .i64 0, .int .i64 0, .int .i64 0] h fun v66 h =>
 stP 8 v66 v65 h fun h =>
 joinP G h.length (fun k67 =>
 lenP a2 fun v68 =>
 binP .lss .other v44 v68 fun v69 =>
 condP v69 true (fun k70 =>
 idxP 1 a2 v44 fun v71 =>
 ldP 1 false v71 h fun v72 =>
 binP .and .other v72 (.int .i64 1) fun v73 =>
 binP .eql .other v73 (.int .i64 1) fun v74 =>
 k70 v74 h)
 (.bool false) h fun v75 h =>
 iteP v75
 (binP .add .other (.int .i64 100) v44 fun v76 =>
 bldP [.int .i64 0, .int .i64 0, .int .i64 0, .int .i64 0, .int .i64 0, .int .i64 0, .int .i64 0, .int .i64 0] [(0, 1, .int .i64 9), (2, 1, v76)] fun v77 =>
 stP 8 v66 v77 h fun h =>
 k67 [] h)
 (k67 [] h))
 (fun _ h =>
 ldP 8 true v66 h fun v78 =>
 bslP t_api_Event 1 [.int .i64 0, .int .i64 0, .int .i64 0, .int .i64 0, .int .i64 0, .int .i64 0, .int .i64 0, .int .i64 0] [(0, 8, v78)] h fun v79 h =>
 S n_journal_Journal_Append [v48, v79] h fun v80 h =>
 ldP 8 true v66 h fun v81 =>
 bslP t_api_Event 1 [.int .i64 0, .int .i64 0, .int .i64 0, .int .i64 0, .int .i64 0, .int .i64 0, .int .i64 0, .int .i64 0] [(0, 8, v81)] h fun v82 h =>
 appP t_api_Event 8 64 v43 v82 h fun v83 h =>
 S n_law0_Num [v80] h fun v84 h =>
 binP .neq .other v84 (.int .i64 0) fun v85 =>
 iteP v85
 (K (.bool false) h)
 (binP .add .other v44 (.int .i64 1) fun v86 =>
 k45 [v83, v86] h))))
 (S n_journal_Open [v4, v7] h fun v88 h =>
 extP v88 0 fun v89 =>
 extP v88 1 fun v90 =>
 S n_law0_Num [v90] h fun v91 h =>
 binP .eql .other v91 (.int .i64 0) fun v92 =>
 condP v92 true (fun k93 =>
 binP .neq .ptr v89 .nilp fun v94 =>
 k93 v94 h)
 (.bool false) h fun v95 h =>
 condP v95 true (fun k96 =>
 S n_journal_Journal_Events [v89] h fun v97 h =>
 S n_law0_SameEvents [v97, v43] h fun v98 h =>
 k96 v98 h)
 (.bool false) h fun v99 h =>
 condP v99 true (fun k100 =>
 S n_journal_Journal_Boot [v89] h fun v101 h =>
 binP .eql .other v101 (.int .i64 6) fun v102 =>
 k100 v102 h)
 (.bool false) h fun v103 h =>
 K v103 h)) (v104.getD 0 .any) (v104.getD 1 .any)) [v42, .int .i64 0] h)) (v105.getD 0 .any) (v105.getD 1 .any)) [.nils, .int .i64 0] h)))
theorem q_law11_JournalOld (S : FuncId → List AVal → AHeap A → (AVal → AHeap A → Prop) → Prop) (G : Nat → AHeap A → List AVal → (List AVal → AHeap A → Prop) → Prop) (a0 a1 a2 : AVal) (h : AHeap A) (K : AVal → AHeap A → Prop) : funP Try.prog S G Try.f3 (.two none .leaf (.two none .leaf (.two none .leaf (.two none .leaf (.two none .leaf (.two none .leaf (.two none .leaf (.two none .leaf (.two none .leaf (.two none (.two none .leaf (.one [] (.one [14, 15] .leaf))) (.two none .leaf (.two none .leaf (.two none .leaf (.two none .leaf (.two none .leaf (.two none (.two none .leaf (.one [] (.one [18, 19] (.two none .leaf (.two none (.one [] (.two none .leaf (.two none .leaf (.two none .leaf (.two (some []) .leaf .leaf))))) .leaf))))) .leaf)))))))))))))))) [a0, a1, a2] h K = p_law11_JournalOld S G a0 a1 a2 h K := by kernel_rfl
theorem c_law11_JournalOld {R : Adts A} {h : AHeap A} {K : AVal → AHeap A → Prop} {a0 a1 a2 : AVal} (hk : p_law11_JournalOld (Tri Pr R) (Gives Pr R) a0 a1 a2 h K) : Tri Pr R n_law11_JournalOld [a0, a1, a2] h K :=
  tri_of_funP (by kernel_rfl) (fun _ _ _ _ h => h) (fun _ _ _ _ h => h) Try.func3 (by rw [q_law11_JournalOld]; exact hk)
/-- bastion/bastionlaw11.JournalKeeps -/
def p_law11_JournalKeeps (S : FuncId → List AVal → AHeap A → (AVal → AHeap A → Prop) → Prop) (G : Nat → AHeap A → List AVal → (List AVal → AHeap A → Prop) → Prop) (a0 a1 : AVal) (h : AHeap A) (K : AVal → AHeap A → Prop) : Prop :=
 S n_law11_awake [] h fun v1 h =>
 notP v1 fun v2 =>
 iteP v2
 (K (.bool false) h)
 (S n_law11_twin [.int .i64 65536, .nils] h fun v3 h =>
 extP v3 0 fun v4 =>
 extP v3 1 fun v5 =>
 S n_law11_pair [.int .i64 60] h fun v6 h =>
 extP v6 0 fun v7 =>
 extP v6 1 fun v8 =>
 binP .eql .ptr v4 .nilp fun v9 =>
 condP v9 false (fun k10 =>
 binP .eql .ptr v7 .nilp fun v11 =>
 k10 v11 h)
 (.bool true) h fun v12 h =>
 iteP v12
 (K (.bool false) h)
 (S n_journal_Open [v4, v7] h fun v13 h =>
 extP v13 0 fun v14 =>
 extP v13 1 fun v15 =>
 S n_law0_Num [v15] h fun v16 h =>
 binP .neq .other v16 (.int .i64 0) fun v17 =>
 condP v17 false (fun k18 =>
 binP .eql .ptr v14 .nilp fun v19 =>
 k18 v19 h)
 (.bool true) h fun v20 h =>
 iteP v20
 (K (.bool false) h)
 (loopP G (fun v131 h k24 =>
 (fun v21 v22 v23 =>
 lenP a0 fun v25 =>
 binP .lss .other v23 v25 fun v26 =>
 condP v26 true (fun k27 =>
 binP .lss .other v23 (.int .i64 20) fun v28 =>
 k27 v28 h)
 (.bool false) h fun v29 h =>
 iteP v29
 (joinP G h.length (fun k30 =>
 loopP G (fun v124 h k33 =>
 (fun v31 v32 =>
 idxP 1 a0 v23 fun v34 =>
 ldP 1 false v34 h fun v35 =>
 binP .and .other v35 (.int .i64 1) fun v36 =>
 binP .leq .other v32 v36 fun v37 =>
 iteP v37
 (binP .mul .other (.int .i64 10) v23 fun v38 =>
 binP .add .other v38 v32 fun v39 =>
 bldP [.int .i64 0, .int .i64 0, .int .i64 0, .int .i64 0, .int .i64 0, .int .i64 0, .int .i64 0, .int .i64 0] [(0, 1, .int .i64 9), (2, 1, v39)] fun v40 =>
 bslP t_api_Event 1 [.int .i64 0, .int .i64 0, .int .i64 0, .int .i64 0, .int .i64 0, .int .i64 0, .int .i64 0, .int .i64 0] [(0, 8, v40)] h fun v41 h =>
 appP t_api_Event 8 64 v31 v41 h fun v42 h =>
 binP .add .other v32 (.int .i64 1) fun v43 =>
 k33 [v42, v43] h)
 (idxP 1 a0 v23 fun v44 =>
 ldP 1 false v44 h fun v45 =>
 binP .shr .other v45 (.int .u64 1) fun v46 =>
 binP .and .other v46 (.int .i64 3) fun v47 =>
 binP .gtr .other v47 (.int .i64 0) fun v48 =>
 iteP v48
 (S n_journal_Journal_Append [v21, v31] h fun v49 h =>
 S n_law0_Num [v49] h fun v50 h =>
 binP .neq .other v50 (.int .i64 0) fun v51 =>
 iteP v51
 (K (.bool false) h)
 (appP t_api_Event 8 64 v22 v31 h fun v52 h =>
 k30 [v21, v52] h))
 (joinP G h.length (fun k53 =>
 lenP a1 fun v54 =>
 binP .lss .other v23 v54 fun v55 =>
 iteP v55
 (idxP 1 a1 v23 fun v56 =>
 ldP 1 false v56 h fun v57 =>
 binP .and .other v57 (.int .i64 7) fun v58 =>
 k53 [v58] h)
 (k53 [.int .i64 0] h))
 (fun v123 h =>
 (fun v59 =>
 S n_journal_Journal_Write [v21, v31] h fun v60 h =>
 idxP 1 a0 v23 fun v61 =>
 ldP 1 false v61 h fun v62 =>
 binP .shr .other v62 (.int .u64 3) fun v63 =>
 binP .and .other v63 (.int .i64 127) fun v64 =>
 S n_disk_Disk_Crash [v7, v59, v64] h fun v65 h =>
 S n_disk_Disk_Restart [v7] h fun v66 h =>
 S n_journal_Open [v4, v7] h fun v67 h =>
 extP v67 0 fun v68 =>
 extP v67 1 fun v69 =>
 S n_law0_Num [v60] h fun v70 h =>
 binP .neq .other v70 (.int .i64 0) fun v71 =>
 condP v71 false (fun k72 =>
 S n_law0_Num [v69] h fun v73 h =>
 binP .neq .other v73 (.int .i64 0) fun v74 =>
 k72 v74 h)
 (.bool true) h fun v75 h =>
 condP v75 false (fun k76 =>
 binP .eql .ptr v68 .nilp fun v77 =>
 k76 v77 h)
 (.bool true) h fun v78 h =>
 iteP v78
 (K (.bool false) h)
 (S n_journal_Journal_Events [v68] h fun v79 h =>
 joinP G h.length (fun k80 =>
 lenP v79 fun v81 =>
 lenP v22 fun v82 =>
 binP .lss .other v81 v82 fun v83 =>
 iteP v83
 (k80 [.bool true] h)
 (lenP v79 fun v84 =>
 lenP v22 fun v85 =>
 lenP v31 fun v86 =>
 binP .add .other v85 v86 fun v87 =>
 binP .gtr .other v84 v87 fun v88 =>
 iteP v88
 (k80 [.bool true] h)
 (lenP v22 fun v89 =>
 rslP 8 v79 none (some v89) none fun v90 =>
 S n_law0_SameEvents [v90, v22] h fun v91 h =>
 notP v91 fun v92 =>
 iteP v92
 (k80 [.bool true] h)
 (lenP v22 fun v93 =>
 rslP 8 v79 (some v93) none none fun v94 =>
 lenP v79 fun v95 =>
 lenP v22 fun v96 =>
 binP .sub .other v95 v96 fun v97 =>
 rslP 8 v31 none (some v97) none fun v98 =>
 S n_law0_SameEvents [v94, v98] h fun v99 h =>
 notP v99 fun v100 =>
 k80 [v100] h))))
 (fun v122 h =>
 (fun v101 =>
 iteP v101
 (K (.bool false) h)
 (S n_journal_Open [v4, v7] h fun v102 h =>
 extP v102 0 fun v103 =>
 extP v102 1 fun v104 =>
 S n_law0_Num [v104] h fun v105 h =>
 binP .neq .other v105 (.int .i64 0) fun v106 =>
 condP v106 false (fun k107 =>
 binP .eql .ptr v103 .nilp fun v108 =>
 k107 v108 h)
 (.bool true) h fun v109 h =>
 condP v109 false (fun k110 =>
 S n_journal_Journal_Events [v103] h fun v111 h =>
 S n_law0_SameEvents [v111, v79] h fun v112 h =>
 notP v112 fun v113 =>
 k110 v113 h)
 (.bool true) h fun v114 h =>
 condP v114 false (fun k115 =>
 S n_journal_Journal_Boot [v103] h fun v116 h =>
 S n_journal_Journal_Boot [v68] h fun v117 h =>
 binP .add .other v117 (.int .i64 1) fun v118 =>
 binP .neq .other v116 v118 fun v119 =>
 k115 v119 h)
 (.bool true) h fun v120 h =>
 iteP v120
 (K (.bool false) h)
 (S n_law0_CopyEvents [v79] h fun v121 h =>
 k30 [v103, v121] h))) (v122.getD 0 .any)))) (v123.getD 0 .any))))) (v124.getD 0 .any) (v124.getD 1 .any)) [.nils, .int .i64 0] h)
 (fun v128 h =>
 (fun v125 v126 =>
 binP .add .other v23 (.int .i64 1) fun v127 =>
 k24 [v125, v126, v127] h) (v128.getD 0 .any) (v128.getD 1 .any)))
 (S n_journal_Journal_Events [v21] h fun v129 h =>
 S n_law0_SameEvents [v129, v22] h fun v130 h =>
 K v130 h)) (v131.getD 0 .any) (v131.getD 1 .any) (v131.getD 2 .any)) [v14, .nils, .int .i64 0] h)))
theorem q_law11_JournalKeeps (S : FuncId → List AVal → AHeap A → (AVal → AHeap A → Prop) → Prop) (G : Nat → AHeap A → List AVal → (List AVal → AHeap A → Prop) → Prop) (a0 a1 : AVal) (h : AHeap A) (K : AVal → AHeap A → Prop) : funP Try.prog S G Try.f4 (.two none .leaf (.two none .leaf (.two none .leaf (.two none .leaf (.two none .leaf (.two none .leaf (.two none .leaf (.two none .leaf (.two none (.two none .leaf (.one [] (.one [9, 11, 12] (.two none .leaf (.two (some [9, 11]) (.one [] (.two none .leaf (.two none (.two none .leaf (.one [] (.one [13, 14] .leaf))) (.two none .leaf (.two none .leaf (.two (some [16]) .leaf (.two none .leaf (.two none .leaf (.two none .leaf (.two none .leaf (.two none .leaf (.two none .leaf (.two none (.two none (.draw (some [176]) (.take 0 (.take 1 (.take 2 (.take 3 (.take 4 (.take 5 (.split 5 (.skip 6 (.skip 7 (.skip 8 (.skip 9 (.skip 10 (.skip 11 (.skip 12 (.skip 13 (.take 14 (.take 15 (.known 15 true (.skip 16 (.skip 17 (.skip 18 (.skip 19 (.skip 20 (.skip 21 (.skip 22 (.take 23 (.take 24 (.known 24 true (.skip 25 (.skip 26 (.skip 27 (.skip 28 (.skip 29 (.skip 30 (.skip 31 (.skip 32 (.skip 33 (.skip 34 (.skip 35 (.skip 36 (.skip 37 (.take 38 .stop))))))))))))))))))))))))))))))))))) (.take 6 (.take 7 (.take 8 (.take 9 (.take 10 (.take 11 (.take 12 (.take 13 (.take 14 (.take 15 (.split 15 (.skip 16 (.skip 17 (.skip 18 (.skip 19 (.skip 20 (.skip 21 (.skip 22 (.take 23 (.take 24 (.known 24 true (.skip 25 (.skip 26 (.skip 27 (.skip 28 (.skip 29 (.skip 30 (.skip 31 (.skip 32 (.skip 33 (.skip 34 (.skip 35 (.skip 36 (.skip 37 (.take 38 .stop)))))))))))))))))))))))) (.take 16 (.take 17 (.take 18 (.take 19 (.take 20 (.alt 21 (.take 22 (.take 23 (.take 24 (.split 24 (.skip 25 (.skip 26 (.skip 27 (.skip 28 (.skip 29 (.skip 30 (.skip 31 (.skip 32 (.skip 33 (.skip 34 (.skip 35 (.skip 36 (.skip 37 (.take 38 .stop)))))))))))))) (.take 25 (.take 26 (.take 27 (.take 28 (.take 29 (.take 30 (.take 31 (.take 32 (.take 33 (.take 34 (.take 35 (.alt 36 (.take 37 (.take 38 .stop)) .stop)))))))))))))))) .stop))))))))))))))))))))))))) .leaf) .leaf))))))))))))) .leaf))))) .leaf))))))))) [a0, a1] h K = p_law11_JournalKeeps S G a0 a1 h K := by kernel_rfl
theorem c_law11_JournalKeeps {R : Adts A} {h : AHeap A} {K : AVal → AHeap A → Prop} {a0 a1 : AVal} (hk : p_law11_JournalKeeps (Tri Pr R) (Gives Pr R) a0 a1 h K) : Tri Pr R n_law11_JournalKeeps [a0, a1] h K :=
  tri_of_funP (by kernel_rfl) (fun _ _ _ _ h => h) (fun _ _ _ _ h => h) Try.func4 (by rw [q_law11_JournalKeeps]; exact hk)
/-- bastion/bastionlaw11.JournalRoom -/
def p_law11_JournalRoom (S : FuncId → List AVal → AHeap A → (AVal → AHeap A → Prop) → Prop) (G : Nat → AHeap A → List AVal → (List AVal → AHeap A → Prop) → Prop) (a0 a1 : AVal) (h : AHeap A) (K : AVal → AHeap A → Prop) : Prop :=
 S n_law11_awake [] h fun v1 h =>
 notP v1 fun v2 =>
 iteP v2
 (K (.bool false) h)
 (S n_law11_twin [.int .i64 65536, .nils] h fun v3 h =>
 extP v3 0 fun v4 =>
 extP v3 1 fun v5 =>
 binP .and .other a0 (.int .i64 31) fun v6 =>
 binP .add .other (.int .i64 3) v6 fun v7 =>
 S n_law11_pair [v7] h fun v8 h =>
 extP v8 0 fun v9 =>
 extP v8 1 fun v10 =>
 binP .eql .ptr v4 .nilp fun v11 =>
 condP v11 false (fun k12 =>
 binP .eql .ptr v9 .nilp fun v13 =>
 k12 v13 h)
 (.bool true) h fun v14 h =>
 iteP v14
 (K (.bool false) h)
 (S n_journal_Open [v4, v9] h fun v15 h =>
 extP v15 0 fun v16 =>
 extP v15 1 fun v17 =>
 S n_law0_Num [v17] h fun v18 h =>
 binP .neq .other v18 (.int .i64 0) fun v19 =>
 condP v19 false (fun k20 =>
 binP .eql .ptr v16 .nilp fun v21 =>
 k20 v21 h)
 (.bool true) h fun v22 h =>
 iteP v22
 (K (.bool false) h)
 (loopP G (fun v85 h k25 =>
 (fun v23 v24 =>
 lenP a1 fun v26 =>
 binP .lss .other v24 v26 fun v27 =>
 condP v27 true (fun k28 =>
 binP .lss .other v24 (.int .i64 30) fun v29 =>
 k28 v29 h)
 (.bool false) h fun v30 h =>
 iteP v30
 (idxP 1 a1 v24 fun v31 =>
 ldP 1 false v31 h fun v32 =>
 binP .and .other v32 (.int .i64 3) fun v33 =>
 loopP G (fun v65 h k36 =>
 (fun v34 v35 =>
 binP .lss .other v35 v33 fun v37 =>
 iteP v37
 (binP .add .other v23 v35 fun v38 =>
 bldP [.int .i64 0, .int .i64 0, .int .i64 0, .int .i64 0, .int .i64 0, .int .i64 0, .int .i64 0, .int .i64 0] [(0, 1, .int .i64 9), (2, 1, v38)] fun v39 =>
 bslP t_api_Event 1 [.int .i64 0, .int .i64 0, .int .i64 0, .int .i64 0, .int .i64 0, .int .i64 0, .int .i64 0, .int .i64 0] [(0, 8, v39)] h fun v40 h =>
 appP t_api_Event 8 64 v34 v40 h fun v41 h =>
 binP .add .other v35 (.int .i64 1) fun v42 =>
 k36 [v41, v42] h)
 (S n_journal_Journal_Append [v16, v34] h fun v43 h =>
 joinP G h.length (fun k44 =>
 binP .add .other v23 v33 fun v45 =>
 binP .sub .other v7 (.int .i64 2) fun v46 =>
 binP .gtr .other v45 v46 fun v47 =>
 iteP v47
 (S n_law0_Num [v43] h fun v48 h =>
 binP .neq .other v48 (.int .i64 1101) fun v49 =>
 iteP v49
 (K (.bool false) h)
 (k44 [v23] h))
 (binP .add .other v23 v33 fun v50 =>
 S n_law0_Num [v43] h fun v51 h =>
 binP .neq .other v51 (.int .i64 0) fun v52 =>
 iteP v52
 (K (.bool false) h)
 (k44 [v50] h)))
 (fun v64 h =>
 (fun v53 =>
 S n_journal_Journal_Room [v16] h fun v54 h =>
 binP .sub .other v7 (.int .i64 2) fun v55 =>
 binP .sub .other v55 v53 fun v56 =>
 binP .neq .other v54 v56 fun v57 =>
 condP v57 false (fun k58 =>
 S n_journal_Journal_Events [v16] h fun v59 h =>
 lenP v59 fun v60 =>
 binP .neq .other v60 v53 fun v61 =>
 k58 v61 h)
 (.bool true) h fun v62 h =>
 iteP v62
 (K (.bool false) h)
 (binP .add .other v24 (.int .i64 1) fun v63 =>
 k25 [v53, v63] h)) (v64.getD 0 .any)))) (v65.getD 0 .any) (v65.getD 1 .any)) [.nils, .int .i64 0] h)
 (S n_journal_Open [v4, v9] h fun v66 h =>
 extP v66 0 fun v67 =>
 extP v66 1 fun v68 =>
 S n_law0_Num [v68] h fun v69 h =>
 binP .eql .other v69 (.int .i64 0) fun v70 =>
 condP v70 true (fun k71 =>
 binP .neq .ptr v67 .nilp fun v72 =>
 k71 v72 h)
 (.bool false) h fun v73 h =>
 condP v73 true (fun k74 =>
 S n_journal_Journal_Events [v67] h fun v75 h =>
 lenP v75 fun v76 =>
 binP .eql .other v76 v23 fun v77 =>
 k74 v77 h)
 (.bool false) h fun v78 h =>
 condP v78 true (fun k79 =>
 S n_journal_Journal_Room [v67] h fun v80 h =>
 binP .sub .other v7 (.int .i64 2) fun v81 =>
 binP .sub .other v81 v23 fun v82 =>
 binP .eql .other v80 v82 fun v83 =>
 k79 v83 h)
 (.bool false) h fun v84 h =>
 K v84 h)) (v85.getD 0 .any) (v85.getD 1 .any)) [.int .i64 0, .int .i64 0] h)))
theorem q_law11_JournalRoom (S : FuncId → List AVal → AHeap A → (AVal → AHeap A → Prop) → Prop) (G : Nat → AHeap A → List AVal → (List AVal → AHeap A → Prop) → Prop) (a0 a1 : AVal) (h : AHeap A) (K : AVal → AHeap A → Prop) : funP Try.prog S G Try.f5 (.two none .leaf (.two none .leaf (.two none .leaf (.two none .leaf (.two none .leaf (.two none .leaf (.two none .leaf (.two none .leaf (.two none .leaf (.two none (.two none .leaf (.one [] (.one [12, 13] (.two none .leaf (.two none (.one [] (.two none .leaf (.two none .leaf (.two none (.two none .leaf (.one [] (.one [15, 16] .leaf))) (.two none .leaf (.two (some [12]) .leaf .leaf)))))) .leaf))))) .leaf)))))))))) [a0, a1] h K = p_law11_JournalRoom S G a0 a1 h K := by kernel_rfl
theorem c_law11_JournalRoom {R : Adts A} {h : AHeap A} {K : AVal → AHeap A → Prop} {a0 a1 : AVal} (hk : p_law11_JournalRoom (Tri Pr R) (Gives Pr R) a0 a1 h K) : Tri Pr R n_law11_JournalRoom [a0, a1] h K :=
  tri_of_funP (by kernel_rfl) (fun _ _ _ _ h => h) (fun _ _ _ _ h => h) Try.func5 (by rw [q_law11_JournalRoom]; exact hk)
/-- bastion/bastionlaw11.JournalSwap -/
def p_law11_JournalSwap (S : FuncId → List AVal → AHeap A → (AVal → AHeap A → Prop) → Prop) (G : Nat → AHeap A → List AVal → (List AVal → AHeap A → Prop) → Prop) (a0 a1 a2 : AVal) (h : AHeap A) (K : AVal → AHeap A → Prop) : Prop :=
 S n_law11_awake [] h fun v1 h =>
 notP v1 fun v2 =>
 iteP v2
 (K (.bool false) h)
 (S n_law11_twin [.int .i64 65536, .nils] h fun v3 h =>
 extP v3 0 fun v4 =>
 extP v3 1 fun v5 =>
 S n_law11_pair [.int .i64 30] h fun v6 h =>
 extP v6 0 fun v7 =>
 extP v6 1 fun v8 =>
 binP .eql .ptr v4 .nilp fun v9 =>
 condP v9 false (fun k10 =>
 binP .eql .ptr v7 .nilp fun v11 =>
 k10 v11 h)
 (.bool true) h fun v12 h =>
 iteP v12
 (K (.bool false) h)
 (S n_journal_Open [v4, v7] h fun v13 h =>
 extP v13 0 fun v14 =>
 extP v13 1 fun v15 =>
 S n_law0_Num [v15] h fun v16 h =>
 binP .neq .other v16 (.int .i64 0) fun v17 =>
 condP v17 false (fun k18 =>
 binP .eql .ptr v14 .nilp fun v19 =>
 k18 v19 h)
 (.bool true) h fun v20 h =>
 iteP v20
 (K (.bool false) h)
 (binP .and .other a0 (.int .i64 15) fun v21 =>
 binP .add .other (.int .i64 2) v21 fun v22 =>
 loopP G (fun v99 h k25 =>
 (fun v23 v24 =>
 binP .lss .other v24 v22 fun v26 =>
 iteP v26
 (bldP [.int .i64 0, .int .i64 0, .int .i64 0, .int .i64 0, .int .i64 0, .int .i64 0, .int .i64 0, .int .i64 0] [(0, 1, .int .i64 9), (2, 1, v24)] fun v27 =>
 newP t_api_Event [.int .i64 0, .int .i64 0, .int .i64 0, .int .i64 0, .int .i64 0, .int .i64 0, .int .i64 0, .int .i64 0] h fun v28 h =>
 stP 8 v28 v27 h fun h =>
 ldP 8 true v28 h fun v29 =>
 bslP t_api_Event 1 [.int .i64 0, .int .i64 0, .int .i64 0, .int .i64 0, .int .i64 0, .int .i64 0, .int .i64 0, .int .i64 0] [(0, 8, v29)] h fun v30 h =>
 S n_journal_Journal_Append [v14, v30] h fun v31 h =>
 ldP 8 true v28 h fun v32 =>
 bslP t_api_Event 1 [.int .i64 0, .int .i64 0, .int .i64 0, .int .i64 0, .int .i64 0, .int .i64 0, .int .i64 0, .int .i64 0] [(0, 8, v32)] h fun v33 h =>
 appP t_api_Event 8 64 v23 v33 h fun v34 h =>
 S n_law0_Num [v31] h fun v35 h =>
 binP .neq .other v35 (.int .i64 0) fun v36 =>
 iteP v36
 (K (.bool false) h)
 (binP .add .other v24 (.int .i64 1) fun v37 =>
 k25 [v34, v37] h))
 (cviP .u64 a1 fun v38 =>
 cviP .u64 v22 fun v39 =>
 binP .rem .other v38 v39 fun v40 =>
 cviP .i64 v40 fun v41 =>
 cviP .u64 a2 fun v42 =>
 cviP .u64 v22 fun v43 =>
 binP .rem .other v42 v43 fun v44 =>
 cviP .i64 v44 fun v45 =>
 binP .add .other (.int .i64 2) v41 fun v46 =>
 S n_disk_Disk_Read [v7, v46] h fun v47 h =>
 extP v47 0 fun v48 =>
 extP v47 1 fun v49 =>
 binP .add .other (.int .i64 2) v45 fun v50 =>
 S n_disk_Disk_Read [v7, v50] h fun v51 h =>
 extP v51 0 fun v52 =>
 extP v51 1 fun v53 =>
 binP .add .other (.int .i64 2) v41 fun v54 =>
 S n_disk_Disk_Write [v7, v54, v52] h fun v55 h =>
 binP .add .other (.int .i64 2) v45 fun v56 =>
 S n_disk_Disk_Write [v7, v56, v48] h fun v57 h =>
 S n_journal_Open [v4, v7] h fun v58 h =>
 extP v58 0 fun v59 =>
 extP v58 1 fun v60 =>
 S n_law0_Num [v49] h fun v61 h =>
 binP .neq .other v61 (.int .i64 0) fun v62 =>
 condP v62 false (fun k63 =>
 S n_law0_Num [v53] h fun v64 h =>
 binP .neq .other v64 (.int .i64 0) fun v65 =>
 k63 v65 h)
 (.bool true) h fun v66 h =>
 condP v66 false (fun k67 =>
 S n_law0_Num [v60] h fun v68 h =>
 binP .neq .other v68 (.int .i64 0) fun v69 =>
 k67 v69 h)
 (.bool true) h fun v70 h =>
 condP v70 false (fun k71 =>
 binP .eql .ptr v59 .nilp fun v72 =>
 k71 v72 h)
 (.bool true) h fun v73 h =>
 iteP v73
 (K (.bool false) h)
 (joinP G h.length (fun k74 =>
 binP .neq .other v41 v45 fun v75 =>
 iteP v75
 (minP [v41, v45] fun v76 =>
 k74 [v76] h)
 (k74 [v22] h))
 (fun v98 h =>
 (fun v77 =>
 rslP 8 v23 none (some v77) none fun v78 =>
 S n_journal_Journal_Events [v59] h fun v79 h =>
 S n_law0_SameEvents [v79, v78] h fun v80 h =>
 notP v80 fun v81 =>
 iteP v81
 (K (.bool false) h)
 (binP .add .other (.int .i64 2) v41 fun v82 =>
 S n_disk_Disk_Write [v7, v82, v48] h fun v83 h =>
 binP .add .other (.int .i64 2) v45 fun v84 =>
 S n_disk_Disk_Write [v7, v84, v52] h fun v85 h =>
 S n_journal_Open [v4, v7] h fun v86 h =>
 extP v86 0 fun v87 =>
 extP v86 1 fun v88 =>
 S n_law0_Num [v88] h fun v89 h =>
 binP .eql .other v89 (.int .i64 0) fun v90 =>
 condP v90 true (fun k91 =>
 binP .neq .ptr v87 .nilp fun v92 =>
 k91 v92 h)
 (.bool false) h fun v93 h =>
 condP v93 true (fun k94 =>
 S n_journal_Journal_Events [v87] h fun v95 h =>
 S n_law0_SameEvents [v95, v23] h fun v96 h =>
 k94 v96 h)
 (.bool false) h fun v97 h =>
 K v97 h)) (v98.getD 0 .any))))) (v99.getD 0 .any) (v99.getD 1 .any)) [.nils, .int .i64 0] h)))
theorem q_law11_JournalSwap (S : FuncId → List AVal → AHeap A → (AVal → AHeap A → Prop) → Prop) (G : Nat → AHeap A → List AVal → (List AVal → AHeap A → Prop) → Prop) (a0 a1 a2 : AVal) (h : AHeap A) (K : AVal → AHeap A → Prop) : funP Try.prog S G Try.f6 (.two none .leaf (.two none .leaf (.two none .leaf (.two none .leaf (.two none .leaf (.two none .leaf (.two none .leaf (.two none .leaf (.two none .leaf (.two none (.two none .leaf (.one [] (.one [14, 15] .leaf))) (.two none (.draw none (.take 0 (.take 1 (.take 2 (.take 3 (.take 4 (.take 5 (.take 6 (.take 7 (.take 8 (.take 9 (.take 10 (.take 11 (.take 12 (.take 13 .stop))))))))))))))) (.two none .leaf (.two none .leaf (.two none .leaf (.two none .leaf (.two none .leaf (.two none .leaf (.two none .leaf (.two (some [26]) .leaf (.two none (.two none (.draw none (.take 0 (.take 2 (.take 3 (.take 4 (.alt 1 (.alt 5 (.take 6 .stop) .stop) .stop)))))) .leaf) .leaf)))))))))))))))))))) [a0, a1, a2] h K = p_law11_JournalSwap S G a0 a1 a2 h K := by kernel_rfl
theorem c_law11_JournalSwap {R : Adts A} {h : AHeap A} {K : AVal → AHeap A → Prop} {a0 a1 a2 : AVal} (hk : p_law11_JournalSwap (Tri Pr R) (Gives Pr R) a0 a1 a2 h K) : Tri Pr R n_law11_JournalSwap [a0, a1, a2] h K :=
  tri_of_funP (by kernel_rfl) (fun _ _ _ _ h => h) (fun _ _ _ _ h => h) Try.func6 (by rw [q_law11_JournalSwap]; exact hk)
end Go.AI
