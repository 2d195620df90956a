/- The functions as texts over the abstract heap. -/
import Derived.Test.YtjnnihaofffkfaaGreatNm
import Derived.KernelRfl
set_option linter.all false
namespace Go.AI
open Go.Proofs
set_option maxRecDepth 1000000
variable {A : Type}
/-- bastion/bastionlaw11.Journals -/
def p_law11_Journals (S : FuncId → List AVal → AHeap A → (AVal → AHeap A → Prop) → Prop) (G : Nat → AHeap A → List AVal → (List AVal → AHeap A → Prop) → Prop) (a0 a1 a2 : AVal) (h : AHeap A) (K : AVal → AHeap A → Prop) : Prop :=
 S n_law11_twin [a1, .nils] h fun v1 h =>
 extP v1 0 fun v2 =>
 extP v1 1 fun v3 =>
 S n_law11_pair [a0] h fun v4 h =>
 extP v4 0 fun v5 =>
 extP v4 1 fun v6 =>
 binP .eql .ptr v2 .nilp fun v7 =>
 condP v7 false (fun k8 =>
 binP .eql .ptr v3 .nilp fun v9 =>
 k8 v9 h)
 (.bool true) h fun v10 h =>
 condP v10 false (fun k11 =>
 binP .eql .ptr v5 .nilp fun v12 =>
 k11 v12 h)
 (.bool true) h fun v13 h =>
 condP v13 false (fun k14 =>
 binP .eql .ptr v6 .nilp fun v15 =>
 k14 v15 h)
 (.bool true) h fun v16 h =>
 iteP v16
 (S n_law11_awake [] h fun v17 h =>
 K v17 h)
 (S n_law11_opened [v2, v3, v5, v6] h fun v18 h =>
 extP v18 0 fun v19 =>
 extP v18 1 fun v20 =>
 extP v18 2 fun v21 =>
 notP v21 fun v22 =>
 iteP v22
 (K (.bool false) h)
 (loopP G (fun v143 h k26 =>
 (fun v23 v24 v25 =>
 lenP a2 fun v27 =>
 binP .lss .other v25 v27 fun v28 =>
 condP v28 true (fun k29 =>
 binP .lss .other v25 (.int .i64 50) fun v30 =>
 k29 v30 h)
 (.bool false) h fun v31 h =>
 condP v31 true (fun k32 =>
 binP .neq .ptr v24 .nilp fun v33 =>
 k32 v33 h)
 (.bool false) h fun v34 h =>
 iteP v34
 (joinP G h.length (fun k35 =>
 idxP 6 a2 v25 fun v36 =>
 ldP 6 true v36 h fun v37 =>
 newP t_bastionlaw11_Act [.int .i64 0, .nils, .int .i64 0, .int .i64 0, .int .i64 0, .str []] h fun v38 h =>
 stP 6 v38 v37 h fun h =>
 fadP 1 v38 fun v39 =>
 ldP 1 false v39 h fun v40 =>
 S n_law0_LendEvents [v40] h fun v41 h =>
 joinP G h.length (fun k42 =>
 fadP 0 v38 fun v43 =>
 ldP 1 false v43 h fun v44 =>
 binP .lss .other v44 (.int .i64 5) fun v45 =>
 iteP v45
 (S n_journal_Journal_Append [v23, v41] h fun v46 h =>
 fadP 1 v38 fun v47 =>
 ldP 1 false v47 h fun v48 =>
 S n_law0_Num [v46] h fun v49 h =>
 ldV 1 false v47 h = some v48 ∧
 S n_ref1_Journal_Append [v24, v48] h fun v50 h =>
 binP .neq .other v49 v50 fun v51 =>
 iteP v51
 (K (.bool false) h)
 (k42 [v23, v24] h))
 (fadP 0 v38 fun v52 =>
 ldP 1 false v52 h fun v53 =>
 binP .eql .other v53 (.int .i64 5) fun v54 =>
 iteP v54
 (S n_journal_Journal_Write [v23, v41] h fun v55 h =>
 fadP 1 v38 fun v56 =>
 ldP 1 false v56 h fun v57 =>
 S n_law0_Num [v55] h fun v58 h =>
 ldV 1 false v56 h = some v57 ∧
 S n_ref1_Journal_Write [v24, v57] h fun v59 h =>
 binP .neq .other v58 v59 fun v60 =>
 iteP v60
 (K (.bool false) h)
 (k42 [v23, v24] h))
 (fadP 0 v38 fun v61 =>
 ldP 1 false v61 h fun v62 =>
 binP .eql .other v62 (.int .i64 8) fun v63 =>
 iteP v63
 (fadP 4 v38 fun v64 =>
 ldP 1 false v64 h fun v65 =>
 fadP 5 v38 fun v66 =>
 ldP 1 false v66 h fun v67 =>
 S n_disk_Disk_Write [v5, v65, v67] h fun v68 h =>
 fadP 4 v38 fun v69 =>
 ldP 1 false v69 h fun v70 =>
 fadP 5 v38 fun v71 =>
 ldP 1 false v71 h fun v72 =>
 S n_ref1_Disk_Write [v6, v70, v72] h fun v73 h =>
 k42 [v23, v24] h)
 (fadP 0 v38 fun v74 =>
 ldP 1 false v74 h fun v75 =>
 binP .eql .other v75 (.int .i64 10) fun v76 =>
 iteP v76
 (S n_disk_Disk_Restart [v5] h fun v77 h =>
 S n_ref1_Disk_Restart [v6] h fun v78 h =>
 k42 [v23, v24] h)
 (joinP G h.length (fun k79 =>
 fadP 0 v38 fun v80 =>
 ldP 1 false v80 h fun v81 =>
 binP .neq .other v81 (.int .i64 7) fun v82 =>
 iteP v82
 (fadP 2 v38 fun v83 =>
 ldP 1 false v83 h fun v84 =>
 fadP 3 v38 fun v85 =>
 ldP 1 false v85 h fun v86 =>
 S n_disk_Disk_Crash [v5, v84, v86] h fun v87 h =>
 fadP 2 v38 fun v88 =>
 ldP 1 false v88 h fun v89 =>
 fadP 3 v38 fun v90 =>
 ldP 1 false v90 h fun v91 =>
 S n_ref1_Disk_Crash [v6, v89, v91] h fun v92 h =>
 k79 [] h)
 (k79 [] h))
 (fun _ h =>
 fadP 0 v38 fun v93 =>
 ldP 1 false v93 h fun v94 =>
 binP .eql .other v94 (.int .i64 9) fun v95 =>
 iteP v95
 (k35 [v23, v24] h)
 (joinP G h.length (fun k96 =>
 fadP 0 v38 fun v97 =>
 ldP 1 false v97 h fun v98 =>
 binP .eql .other v98 (.int .i64 6) fun v99 =>
 iteP v99
 (S n_disk_Disk_Restart [v5] h fun v100 h =>
 S n_ref1_Disk_Restart [v6] h fun v101 h =>
 k96 [] h)
 (k96 [] h))
 (fun _ h =>
 S n_law11_opened [v2, v3, v5, v6] h fun v102 h =>
 extP v102 0 fun v103 =>
 extP v102 1 fun v104 =>
 extP v102 2 fun v105 =>
 notP v105 fun v106 =>
 iteP v106
 (K (.bool false) h)
 (binP .neq .ptr v104 .nilp fun v107 =>
 iteP v107
 (k42 [v103, v104] h)
 (k42 [v23, v24] h))))))))))
 (fun v134 h =>
 (fun v110 v111 =>
 S n_journal_Journal_Events [v110] h fun v112 h =>
 joinP G h.length (fun k113 =>
 fadP 1 v38 fun v114 =>
 ldP 1 false v114 h fun v115 =>
 S n_law0_KeptEvents [v41, v115] h fun v116 h =>
 notP v116 fun v117 =>
 iteP v117
 (k113 [.bool true] h)
 (nilP v111 fun v118 =>
 fadP 5 v118 fun v119 =>
 ldP 1 false v119 h fun v120 =>
 S n_law0_SameEvents [v112, v120] h fun v121 h =>
 notP v121 fun v122 =>
 iteP v122
 (k113 [.bool true] h)
 (nilP v111 fun v123 =>
 fadP 4 v123 fun v124 =>
 ldP 1 false v124 h fun v125 =>
 S n_journal_Journal_Boot [v110] h fun v126 h =>
 ldV 1 false v124 h = some v125 ∧
 binP .neq .other v126 v125 fun v127 =>
 iteP v127
 (k113 [.bool true] h)
 (S n_journal_Journal_Room [v110] h fun v128 h =>
 S n_ref1_Journal_Room [v111] h fun v129 h =>
 binP .neq .other v128 v129 fun v130 =>
 k113 [v130] h))))
 (fun v133 h =>
 (fun v131 =>
 iteP v131
 (K (.bool false) h)
 (S n_law0_SpoilEvents [v112] h fun v132 h =>
 k35 [v110, v111] h)) (v133.getD 0 .any))) (v134.getD 0 .any) (v134.getD 1 .any)))
 (fun v138 h =>
 (fun v135 v136 =>
 binP .add .other v25 (.int .i64 1) fun v137 =>
 k26 [v135, v136, v137] h) (v138.getD 0 .any) (v138.getD 1 .any)))
 (S n_law11_sameBooks [v2, v3] h fun v139 h =>
 condP v139 true (fun k140 =>
 S n_law11_awake [] h fun v141 h =>
 k140 v141 h)
 (.bool false) h fun v142 h =>
 K v142 h)) (v143.getD 0 .any) (v143.getD 1 .any) (v143.getD 2 .any)) [v19, v20, .int .i64 0] h))
theorem q_law11_Journals (S : FuncId → List AVal → AHeap A → (AVal → AHeap A → Prop) → Prop) (G : Nat → AHeap A → List AVal → (List AVal → AHeap A → Prop) → Prop) (a0 a1 a2 : AVal) (h : AHeap A) (K : AVal → AHeap A → Prop) : funP Tryz.prog S G Tryz.f3 (.two none .leaf (.two none .leaf (.two none .leaf (.two none .leaf (.two none .leaf (.two none .leaf (.two none (.two none .leaf (.one [] (.one [11, 12, 14] (.two none .leaf (.two (some [11, 12]) (.one [] (.two none .leaf (.two none .leaf (.two (some [11, 12]) (.one [] (.two none .leaf (.two none (.two none .leaf (.two none (.draw none (.take 0 (.take 2 (.take 3 (.load 4 (.alt 1 (.alt 5 (.take 6 .stop) .stop) .stop)))))) .leaf)) (.two none .leaf (.two none (.two none .leaf (.two none (.draw none (.take 0 (.take 2 (.take 3 (.load 4 (.alt 1 (.alt 5 (.take 6 .stop) .stop) .stop)))))) .leaf)) (.two none .leaf (.two none .leaf (.two none .leaf (.two none .leaf (.two (some []) .leaf (.two none .leaf (.two (some []) .leaf .leaf)))))))))))) (.two none .leaf (.two none (.two none (.draw (some [203]) (.take 0 (.take 1 (.alt 2 (.alt 3 (.take 4 (.take 5 (.split 5 (.skip 6 (.skip 7 (.skip 8 (.skip 9 (.skip 10 (.skip 11 (.skip 12 (.take 13 (.take 14 (.known 14 true (.skip 15 (.skip 16 (.skip 17 (.skip 18 (.skip 19 (.skip 20 (.skip 21 (.take 22 (.take 23 (.known 23 true (.skip 24 (.skip 25 (.skip 26 (.skip 27 (.skip 28 (.take 29 .stop)))))))))))))))))))))))))) (.take 6 (.take 7 (.take 8 (.take 9 (.alt 10 (.alt 11 (.take 12 (.take 13 (.take 14 (.split 14 (.skip 15 (.skip 16 (.skip 17 (.skip 18 (.skip 19 (.skip 20 (.skip 21 (.take 22 (.take 23 (.known 23 true (.skip 24 (.skip 25 (.skip 26 (.skip 27 (.skip 28 (.take 29 .stop)))))))))))))))) (.take 15 (.take 17 (.take 18 (.take 19 (.load 20 (.alt 16 (.take 21 (.take 22 (.take 23 (.split 23 (.skip 24 (.skip 25 (.skip 26 (.skip 27 (.skip 28 (.take 29 .stop)))))) (.take 24 (.take 26 (.alt 25 (.alt 27 (.take 28 (.take 29 .stop)) .stop) .stop))))))) .stop)))))))))) .stop) .stop)))))))) .stop) .stop)))) .leaf) .leaf)))))) .leaf))))) .leaf))))))) [a0, a1, a2] h K = p_law11_Journals S G a0 a1 a2 h K := by kernel_rfl
theorem c_law11_Journals {R : Adts A} {h : AHeap A} {K : AVal → AHeap A → Prop} {a0 a1 a2 : AVal} (hk : p_law11_Journals (Tri Pr R) (Gives Pr R) a0 a1 a2 h K) : Tri Pr R n_law11_Journals [a0, a1, a2] h K :=
  tri_of_funP (by kernel_rfl) (fun _ _ _ _ h => h) (fun _ _ _ _ h => h) Tryz.func3 (by rw [q_law11_Journals]; exact hk)
/-- bastion/bastionlaw11.twin -/
def p_law11_twin (S : FuncId → List AVal → AHeap A → (AVal → AHeap A → Prop) → Prop) (G : Nat → AHeap A → List AVal → (List AVal → AHeap A → Prop) → Prop) (a0 a1 : AVal) (h : AHeap A) (K : AVal → AHeap A → Prop) : Prop :=
 S n_book_New [a0] h fun v1 h =>
 extP v1 0 fun v2 =>
 extP v1 1 fun v3 =>
 S n_ref1_NewBook [a0] h fun v4 h =>
 extP v4 0 fun v5 =>
 extP v4 1 fun v6 =>
 S n_law0_Num [v3] h fun v7 h =>
 binP .neq .other v7 (.int .i64 0) fun v8 =>
 condP v8 false (fun k9 =>
 binP .neq .other v6 (.int .i64 0) fun v10 =>
 k9 v10 h)
 (.bool true) h fun v11 h =>
 condP v11 false (fun k12 =>
 binP .eql .ptr v2 .nilp fun v13 =>
 k12 v13 h)
 (.bool true) h fun v14 h =>
 iteP v14
 (K (.tup [.nilp, .nilp]) h)
 (loopP G (fun v29 h k16 =>
 (fun v15 =>
 lenP a1 fun v17 =>
 binP .lss .other v15 v17 fun v18 =>
 condP v18 true (fun k19 =>
 binP .lss .other v15 (.int .i64 400) fun v20 =>
 k19 v20 h)
 (.bool false) h fun v21 h =>
 iteP v21
 (idxP 1 a1 v15 fun v22 =>
 ldP 1 false v22 h fun v23 =>
 S n_book_Book_Name [v2, v23] h fun v24 h =>
 idxP 1 a1 v15 fun v25 =>
 ldP 1 false v25 h fun v26 =>
 S n_ref1_Book_Name [v5, v26] h fun v27 h =>
 binP .add .other v15 (.int .i64 1) fun v28 =>
 k16 [v28] h)
 (K (.tup [v2, v5]) h)) (v29.getD 0 .any)) [.int .i64 0] h)
theorem q_law11_twin (S : FuncId → List AVal → AHeap A → (AVal → AHeap A → Prop) → Prop) (G : Nat → AHeap A → List AVal → (List AVal → AHeap A → Prop) → Prop) (a0 a1 : AVal) (h : AHeap A) (K : AVal → AHeap A → Prop) : funP Tryz.prog S G Tryz.f4 (.two none .leaf (.two none .leaf (.two none .leaf (.two none .leaf (.two none (.two none .leaf (.one [] (.one [10] .leaf))) .leaf))))) [a0, a1] h K = p_law11_twin S G a0 a1 h K := by kernel_rfl
theorem c_law11_twin {R : Adts A} {h : AHeap A} {K : AVal → AHeap A → Prop} {a0 a1 : AVal} (hk : p_law11_twin (Tri Pr R) (Gives Pr R) a0 a1 h K) : Tri Pr R n_law11_twin [a0, a1] h K :=
  tri_of_funP (by kernel_rfl) (fun _ _ _ _ h => h) (fun _ _ _ _ h => h) Tryz.func4 (by rw [q_law11_twin]; exact hk)
/-- bastion/bastionlaw11.pair -/
def p_law11_pair (S : FuncId → List AVal → AHeap A → (AVal → AHeap A → Prop) → Prop) (G : Nat → AHeap A → List AVal → (List AVal → AHeap A → Prop) → Prop) (a0 : AVal) (h : AHeap A) (K : AVal → AHeap A → Prop) : Prop :=
 S n_disk_New [a0] h fun v1 h =>
 extP v1 0 fun v2 =>
 extP v1 1 fun v3 =>
 S n_ref1_NewDisk [a0] h fun v4 h =>
 extP v4 0 fun v5 =>
 extP v4 1 fun v6 =>
 S n_law0_Num [v3] h fun v7 h =>
 binP .neq .other v7 (.int .i64 0) fun v8 =>
 condP v8 false (fun k9 =>
 binP .neq .other v6 (.int .i64 0) fun v10 =>
 k9 v10 h)
 (.bool true) h fun v11 h =>
 condP v11 false (fun k12 =>
 binP .eql .ptr v2 .nilp fun v13 =>
 k12 v13 h)
 (.bool true) h fun v14 h =>
 iteP v14
 (K (.tup [.nilp, .nilp]) h)
 (K (.tup [v2, v5]) h)
theorem q_law11_pair (S : FuncId → List AVal → AHeap A → (AVal → AHeap A → Prop) → Prop) (G : Nat → AHeap A → List AVal → (List AVal → AHeap A → Prop) → Prop) (a0 : AVal) (h : AHeap A) (K : AVal → AHeap A → Prop) : funP Tryz.prog S G Tryz.f5 .leaf [a0] h K = p_law11_pair S G a0 h K := by kernel_rfl
theorem c_law11_pair {R : Adts A} {h : AHeap A} {K : AVal → AHeap A → Prop} {a0 : AVal} (hk : p_law11_pair (Tri Pr R) (Gives Pr R) a0 h K) : Tri Pr R n_law11_pair [a0] h K :=
  tri_of_funP (by kernel_rfl) (fun _ _ _ _ h => h) (fun _ _ _ _ h => h) Tryz.func5 (by rw [q_law11_pair]; exact hk)
/-- bastion/bastionlaw11.awake -/
def p_law11_awake (S : FuncId → List AVal → AHeap A → (AVal → AHeap A → Prop) → Prop) (G : Nat → AHeap A → List AVal → (List AVal → AHeap A → Prop) → Prop) (h : AHeap A) (K : AVal → AHeap A → Prop) : Prop :=
 S n_law11_twin [.int .i64 99, .nils] h fun v1 h =>
 extP v1 0 fun v2 =>
 extP v1 1 fun v3 =>
 S n_law11_pair [.int .i64 5] h fun v4 h =>
 extP v4 0 fun v5 =>
 extP v4 1 fun v6 =>
 binP .eql .ptr v2 .nilp fun v7 =>
 condP v7 false (fun k8 =>
 binP .eql .ptr v5 .nilp fun v9 =>
 k8 v9 h)
 (.bool true) h fun v10 h =>
 iteP v10
 (K (.bool false) h)
 (S n_journal_Open [v2, v5] h fun v11 h =>
 extP v11 0 fun v12 =>
 extP v11 1 fun v13 =>
 S n_journal_Open [.nilp, v5] h fun v14 h =>
 extP v14 0 fun v15 =>
 extP v14 1 fun v16 =>
 S n_law0_Num [v13] h fun v17 h =>
 binP .neq .other v17 (.int .i64 0) fun v18 =>
 condP v18 false (fun k19 =>
 binP .eql .ptr v12 .nilp fun v20 =>
 k19 v20 h)
 (.bool true) h fun v21 h =>
 iteP v21
 (K (.bool false) h)
 (bldP [.int .i64 0, .int .i64 0, .int .i64 0, .int .i64 0, .int .i64 0, .int .i64 0, .int .i64 0, .int .i64 0] [(0, 1, .int .i64 0), (7, 1, .int .i64 5)] fun v22 =>
 bldP [.int .i64 0, .int .i64 0, .int .i64 0, .int .i64 0, .int .i64 0, .int .i64 0, .int .i64 0, .int .i64 0] [(0, 1, .int .i64 8)] fun v23 =>
 newP t_api_Event [.int .i64 0, .int .i64 0, .int .i64 0, .int .i64 0, .int .i64 0, .int .i64 0, .int .i64 0, .int .i64 0] h fun v24 h =>
 newP t_api_Event [.int .i64 0, .int .i64 0, .int .i64 0, .int .i64 0, .int .i64 0, .int .i64 0, .int .i64 0, .int .i64 0] h fun v25 h =>
 stP 8 v24 v22 h fun h =>
 stP 8 v25 v23 h fun h =>
 ldP 8 true v24 h fun v26 =>
 bslP t_api_Event 1 [.int .i64 0, .int .i64 0, .int .i64 0, .int .i64 0, .int .i64 0, .int .i64 0, .int .i64 0, .int .i64 0] [(0, 8, v26)] h fun v27 h =>
 S n_journal_Journal_Append [v12, v27] h fun v28 h =>
 ldP 8 true v25 h fun v29 =>
 ldP 8 true v25 h fun v30 =>
 bslP t_api_Event 2 [.int .i64 0, .int .i64 0, .int .i64 0, .int .i64 0, .int .i64 0, .int .i64 0, .int .i64 0, .int .i64 0, .int .i64 0, .int .i64 0, .int .i64 0, .int .i64 0, .int .i64 0, .int .i64 0, .int .i64 0, .int .i64 0] [(0, 8, v29), (8, 8, v30)] h fun v31 h =>
 S n_journal_Journal_Write [v12, v31] h fun v32 h =>
 ldP 8 true v24 h fun v33 =>
 bslP t_api_Event 1 [.int .i64 0, .int .i64 0, .int .i64 0, .int .i64 0, .int .i64 0, .int .i64 0, .int .i64 0, .int .i64 0] [(0, 8, v33)] h fun v34 h =>
 S n_journal_Journal_Append [v12, v34] h fun v35 h =>
 S n_disk_Disk_Crash [v5, .int .i64 1, .int .i64 5] h fun v36 h =>
 S n_disk_Disk_Restart [v5] h fun v37 h =>
 S n_journal_Open [v2, v5] h fun v38 h =>
 extP v38 0 fun v39 =>
 extP v38 1 fun v40 =>
 S n_law0_Num [v40] h fun v41 h =>
 binP .neq .other v41 (.int .i64 0) fun v42 =>
 condP v42 false (fun k43 =>
 binP .eql .ptr v39 .nilp fun v44 =>
 k43 v44 h)
 (.bool true) h fun v45 h =>
 iteP v45
 (K (.bool false) h)
 (ldP 8 true v25 h fun v46 =>
 ldP 8 true v25 h fun v47 =>
 bslP t_api_Event 2 [.int .i64 0, .int .i64 0, .int .i64 0, .int .i64 0, .int .i64 0, .int .i64 0, .int .i64 0, .int .i64 0, .int .i64 0, .int .i64 0, .int .i64 0, .int .i64 0, .int .i64 0, .int .i64 0, .int .i64 0, .int .i64 0] [(0, 8, v46), (8, 8, v47)] h fun v48 h =>
 S n_journal_Journal_Append [v39, v48] h fun v49 h =>
 bldP [.int .i64 0, .int .i64 0, .int .i64 0, .int .i64 0, .int .i64 0, .int .i64 0, .int .i64 0, .int .i64 0] [(0, 1, .int .i64 99)] fun v50 =>
 bslP t_api_Event 1 [.int .i64 0, .int .i64 0, .int .i64 0, .int .i64 0, .int .i64 0, .int .i64 0, .int .i64 0, .int .i64 0] [(0, 8, v50)] h fun v51 h =>
 S n_journal_Journal_Append [v39, v51] h fun v52 h =>
 joinP G h.length (fun k53 =>
 S n_law0_Num [v16] h fun v54 h =>
 binP .eql .other v54 (.int .i64 1) fun v55 =>
 iteP v55
 (S n_journal_Journal_Boot [v12] h fun v56 h =>
 binP .eql .other v56 (.int .i64 1) fun v57 =>
 iteP v57
 (S n_law0_Num [v28] h fun v58 h =>
 binP .eql .other v58 (.int .i64 0) fun v59 =>
 iteP v59
 (S n_law0_Num [v32] h fun v60 h =>
 binP .eql .other v60 (.int .i64 0) fun v61 =>
 iteP v61
 (S n_law0_Num [v35] h fun v62 h =>
 binP .eql .other v62 (.int .i64 1102) fun v63 =>
 iteP v63
 (S n_journal_Journal_Boot [v39] h fun v64 h =>
 binP .eql .other v64 (.int .i64 2) fun v65 =>
 iteP v65
 (ldP 8 true v24 h fun v66 =>
 ldP 8 true v25 h fun v67 =>
 (S n_journal_Journal_Events [v39] h fun v68 h =>
 ldV 8 true v25 h = some v67 ∧
 ldV 8 true v24 h = some v66 ∧
 bslP t_api_Event 2 [.int .i64 0, .int .i64 0, .int .i64 0, .int .i64 0, .int .i64 0, .int .i64 0, .int .i64 0, .int .i64 0, .int .i64 0, .int .i64 0, .int .i64 0, .int .i64 0, .int .i64 0, .int .i64 0, .int .i64 0, .int .i64 0] [(0, 8, v66), (8, 8, v67)] h fun v69 h =>
 S n_law0_SameEvents [v68, v69] h fun v70 h =>
 iteP v70
 (S n_journal_Journal_Room [v39] h fun v71 h =>
 binP .eql .other v71 (.int .i64 1) fun v72 =>
 iteP v72
 (S n_law0_Num [v49] h fun v73 h =>
 binP .eql .other v73 (.int .i64 1101) fun v74 =>
 iteP v74
 (S n_law0_Num [v52] h fun v75 h =>
 binP .eql .other v75 (.int .i64 1100) fun v76 =>
 k53 [v76] h)
 (k53 [.bool false] h))
 (k53 [.bool false] h))
 (k53 [.bool false] h)) ∧
 (bslP t_api_Event 2 [.int .i64 0, .int .i64 0, .int .i64 0, .int .i64 0, .int .i64 0, .int .i64 0, .int .i64 0, .int .i64 0, .int .i64 0, .int .i64 0, .int .i64 0, .int .i64 0, .int .i64 0, .int .i64 0, .int .i64 0, .int .i64 0] [(0, 8, v66), (8, 8, v67)] h fun v77 h =>
 S n_journal_Journal_Events [v39] h fun v78 h =>
 S n_law0_SameEvents [v78, v77] h fun v79 h =>
 iteP v79
 (S n_journal_Journal_Room [v39] h fun v80 h =>
 binP .eql .other v80 (.int .i64 1) fun v81 =>
 iteP v81
 (S n_law0_Num [v49] h fun v82 h =>
 binP .eql .other v82 (.int .i64 1101) fun v83 =>
 iteP v83
 (S n_law0_Num [v52] h fun v84 h =>
 binP .eql .other v84 (.int .i64 1100) fun v85 =>
 k53 [v85] h)
 (k53 [.bool false] h))
 (k53 [.bool false] h))
 (k53 [.bool false] h)))
 (k53 [.bool false] h))
 (k53 [.bool false] h))
 (k53 [.bool false] h))
 (k53 [.bool false] h))
 (k53 [.bool false] h))
 (k53 [.bool false] h))
 (fun v87 h =>
 (fun v86 =>
 K v86 h) (v87.getD 0 .any)))))
theorem q_law11_awake (S : FuncId → List AVal → AHeap A → (AVal → AHeap A → Prop) → Prop) (G : Nat → AHeap A → List AVal → (List AVal → AHeap A → Prop) → Prop) (h : AHeap A) (K : AVal → AHeap A → Prop) : funP Tryz.prog S G Tryz.f6 (.two none .leaf (.two none .leaf (.two none .leaf (.two none .leaf (.two none .leaf (.two none .leaf (.two none .leaf (.two none .leaf (.two none .leaf (.two none .leaf (.two none .leaf (.two none .leaf (.two none .leaf (.two none .leaf (.two none .leaf (.two none .leaf (.two none .leaf (.two none (.draw (some [0]) (.take 0 (.alt 1 (.take 2 (.take 3 (.split 3 (.take 4 (.alt 5 (.take 6 (.take 7 (.take 8 (.split 8 (.take 9 (.alt 10 (.take 11 (.take 12 (.take 13 (.split 13 (.take 14 (.alt 15 (.take 16 (.take 17 (.take 18 (.split 18 (.take 19 (.alt 20 (.take 21 (.take 22 (.take 23 (.split 23 (.take 24 (.alt 25 (.take 26 (.take 27 (.take 28 (.split 28 (.take 29 (.load 31 (.load 32 (.alt 30 (.alt 33 (.alt 34 (.take 35 (.take 36 (.split 36 (.take 37 (.alt 38 (.take 39 (.take 40 (.take 41 (.split 41 (.take 42 (.alt 43 (.take 44 (.take 45 (.take 46 (.split 46 (.take 47 (.alt 48 (.take 49 (.take 50 (.take 51 .stop))) .stop)) (.skip 47 (.skip 48 (.skip 49 (.take 50 (.take 51 .stop))))))))) .stop)) (.skip 42 (.skip 43 (.skip 44 (.take 45 (.take 46 (.known 46 false (.skip 47 (.skip 48 (.skip 49 (.take 50 (.take 51 .stop))))))))))))))) .stop)) (.skip 37 (.skip 38 (.skip 39 (.take 40 (.take 41 (.known 41 false (.skip 42 (.skip 43 (.skip 44 (.take 45 (.take 46 (.known 46 false (.skip 47 (.skip 48 (.skip 49 (.take 50 (.take 51 .stop)))))))))))))))))))) .stop) .stop) (.alt 33 (.alt 30 (.alt 34 (.take 35 (.take 36 (.split 36 (.take 37 (.alt 38 (.take 39 (.take 40 (.take 41 (.split 41 (.take 42 (.alt 43 (.take 44 (.take 45 (.take 46 (.split 46 (.take 47 (.alt 48 (.take 49 (.take 50 (.take 51 .stop))) .stop)) (.skip 47 (.skip 48 (.skip 49 (.take 50 (.take 51 .stop))))))))) .stop)) (.skip 42 (.skip 43 (.skip 44 (.take 45 (.take 46 (.known 46 false (.skip 47 (.skip 48 (.skip 49 (.take 50 (.take 51 .stop))))))))))))))) .stop)) (.skip 37 (.skip 38 (.skip 39 (.take 40 (.take 41 (.known 41 false (.skip 42 (.skip 43 (.skip 44 (.take 45 (.take 46 (.known 46 false (.skip 47 (.skip 48 (.skip 49 (.take 50 (.take 51 .stop)))))))))))))))))))) .stop) .stop) .stop))))) (.skip 29 (.skip 30 (.skip 31 (.skip 32 (.skip 33 (.skip 34 (.take 35 (.take 36 (.known 36 false (.skip 37 (.skip 38 (.skip 39 (.take 40 (.take 41 (.known 41 false (.skip 42 (.skip 43 (.skip 44 (.take 45 (.take 46 (.known 46 false (.skip 47 (.skip 48 (.skip 49 (.take 50 (.take 51 .stop)))))))))))))))))))))))))))))) .stop)) (.skip 24 (.skip 25 (.skip 26 (.take 27 (.take 28 (.known 28 false (.skip 29 (.skip 30 (.skip 31 (.skip 32 (.skip 33 (.skip 34 (.take 35 (.take 36 (.known 36 false (.skip 37 (.skip 38 (.skip 39 (.take 40 (.take 41 (.known 41 false (.skip 42 (.skip 43 (.skip 44 (.take 45 (.take 46 (.known 46 false (.skip 47 (.skip 48 (.skip 49 (.take 50 (.take 51 .stop)))))))))))))))))))))))))))))))))))) .stop)) (.skip 19 (.skip 20 (.skip 21 (.take 22 (.take 23 (.known 23 false (.skip 24 (.skip 25 (.skip 26 (.take 27 (.take 28 (.known 28 false (.skip 29 (.skip 30 (.skip 31 (.skip 32 (.skip 33 (.skip 34 (.take 35 (.take 36 (.known 36 false (.skip 37 (.skip 38 (.skip 39 (.take 40 (.take 41 (.known 41 false (.skip 42 (.skip 43 (.skip 44 (.take 45 (.take 46 (.known 46 false (.skip 47 (.skip 48 (.skip 49 (.take 50 (.take 51 .stop)))))))))))))))))))))))))))))))))))))))))) .stop)) (.skip 14 (.skip 15 (.skip 16 (.take 17 (.take 18 (.known 18 false (.skip 19 (.skip 20 (.skip 21 (.take 22 (.take 23 (.known 23 false (.skip 24 (.skip 25 (.skip 26 (.take 27 (.take 28 (.known 28 false (.skip 29 (.skip 30 (.skip 31 (.skip 32 (.skip 33 (.skip 34 (.take 35 (.take 36 (.known 36 false (.skip 37 (.skip 38 (.skip 39 (.take 40 (.take 41 (.known 41 false (.skip 42 (.skip 43 (.skip 44 (.take 45 (.take 46 (.known 46 false (.skip 47 (.skip 48 (.skip 49 (.take 50 (.take 51 .stop)))))))))))))))))))))))))))))))))))))))))))))))) .stop)) (.skip 9 (.skip 10 (.skip 11 (.take 12 (.take 13 (.known 13 false (.skip 14 (.skip 15 (.skip 16 (.take 17 (.take 18 (.known 18 false (.skip 19 (.skip 20 (.skip 21 (.take 22 (.take 23 (.known 23 false (.skip 24 (.skip 25 (.skip 26 (.take 27 (.take 28 (.known 28 false (.skip 29 (.skip 30 (.skip 31 (.skip 32 (.skip 33 (.skip 34 (.take 35 (.take 36 (.known 36 false (.skip 37 (.skip 38 (.skip 39 (.take 40 (.take 41 (.known 41 false (.skip 42 (.skip 43 (.skip 44 (.take 45 (.take 46 (.known 46 false (.skip 47 (.skip 48 (.skip 49 (.take 50 (.take 51 .stop)))))))))))))))))))))))))))))))))))))))))))))))))))))) .stop)) (.skip 4 (.skip 5 (.skip 6 (.take 7 (.take 8 (.known 8 false (.skip 9 (.skip 10 (.skip 11 (.take 12 (.take 13 (.known 13 false (.skip 14 (.skip 15 (.skip 16 (.take 17 (.take 18 (.known 18 false (.skip 19 (.skip 20 (.skip 21 (.take 22 (.take 23 (.known 23 false (.skip 24 (.skip 25 (.skip 26 (.take 27 (.take 28 (.known 28 false (.skip 29 (.skip 30 (.skip 31 (.skip 32 (.skip 33 (.skip 34 (.take 35 (.take 36 (.known 36 false (.skip 37 (.skip 38 (.skip 39 (.take 40 (.take 41 (.known 41 false (.skip 42 (.skip 43 (.skip 44 (.take 45 (.take 46 (.known 46 false (.skip 47 (.skip 48 (.skip 49 (.take 50 (.take 51 .stop))))))))))))))))))))))))))))))))))))))))))))))))))))))))))) .stop))) .leaf)))))))))))))))))) [] h K = p_law11_awake S G h K := by kernel_rfl
theorem c_law11_awake {R : Adts A} {h : AHeap A} {K : AVal → AHeap A → Prop} (hk : p_law11_awake (Tri Pr R) (Gives Pr R) h K) : Tri Pr R n_law11_awake [] h K :=
  tri_of_funP (by kernel_rfl) (fun _ _ _ _ h => h) (fun _ _ _ _ h => h) Tryz.func6 (by rw [q_law11_awake]; exact hk)
/-- bastion/bastionlaw11.opened -/
def p_law11_opened (S : FuncId → List AVal → AHeap A → (AVal → AHeap A → Prop) → Prop) (G : Nat → AHeap A → List AVal → (List AVal → AHeap A → Prop) → Prop) (a0 a1 a2 a3 : AVal) (h : AHeap A) (K : AVal → AHeap A → Prop) : Prop :=
 S n_journal_Open [a0, a2] h fun v1 h =>
 extP v1 0 fun v2 =>
 extP v1 1 fun v3 =>
 S n_ref1_OpenJournal [a1, a3] h fun v4 h =>
 extP v4 0 fun v5 =>
 extP v4 1 fun v6 =>
 binP .neq .other v6 (.int .i64 0) fun v7 =>
 iteP v7
 (S n_law0_Num [v3] h fun v8 h =>
 binP .eql .other v8 v6 fun v9 =>
 condP v9 true (fun k10 =>
 binP .eql .ptr v2 .nilp fun v11 =>
 k10 v11 h)
 (.bool false) h fun v12 h =>
 K (.tup [.nilp, .nilp, v12]) h)
 (S n_law0_Num [v3] h fun v13 h =>
 binP .eql .other v13 v6 fun v14 =>
 condP v14 true (fun k15 =>
 binP .neq .ptr v2 .nilp fun v16 =>
 k15 v16 h)
 (.bool false) h fun v17 h =>
 K (.tup [v2, v5, v17]) h)
theorem q_law11_opened (S : FuncId → List AVal → AHeap A → (AVal → AHeap A → Prop) → Prop) (G : Nat → AHeap A → List AVal → (List AVal → AHeap A → Prop) → Prop) (a0 a1 a2 a3 : AVal) (h : AHeap A) (K : AVal → AHeap A → Prop) : funP Tryz.prog S G Tryz.f7 .leaf [a0, a1, a2, a3] h K = p_law11_opened S G a0 a1 a2 a3 h K := by kernel_rfl
theorem c_law11_opened {R : Adts A} {h : AHeap A} {K : AVal → AHeap A → Prop} {a0 a1 a2 a3 : AVal} (hk : p_law11_opened (Tri Pr R) (Gives Pr R) a0 a1 a2 a3 h K) : Tri Pr R n_law11_opened [a0, a1, a2, a3] h K :=
  tri_of_funP (by kernel_rfl) (fun _ _ _ _ h => h) (fun _ _ _ _ h => h) Tryz.func7 (by rw [q_law11_opened]; exact hk)
/-- bastion/bastionlaw0.LendEvents -/
def p_law0_LendEvents (S : FuncId → List AVal → AHeap A → (AVal → AHeap A → Prop) → Prop) (G : Nat → AHeap A → List AVal → (List AVal → AHeap A → Prop) → Prop) (a0 : AVal) (h : AHeap A) (K : AVal → AHeap A → Prop) : Prop :=
 S n_law0_CopyEvents [a0] h fun v1 h =>
 bldP [.int .i64 0, .int .i64 0, .int .i64 0, .int .i64 0, .int .i64 0, .int .i64 0, .int .i64 0, .int .i64 0] [(7, 1, .int .i64 77777)] fun v2 =>
 bldP [.int .i64 0, .int .i64 0, .int .i64 0, .int .i64 0, .int .i64 0, .int .i64 0, .int .i64 0, .int .i64 0] [(7, 1, .int .i64 77777)] fun v3 =>
 bslP t_api_Event 2 [.int .i64 0, .int .i64 0, .int .i64 0, .int .i64 0, .int .i64 0, .int .i64 0, .int .i64 0, .int .i64 0, .int .i64 0, .int .i64 0, .int .i64 0, .int .i64 0, .int .i64 0, .int .i64 0, .int .i64 0, .int .i64 0] [(0, 8, v2), (8, 8, v3)] h fun v4 h =>
 appP t_api_Event 8 64 v1 v4 h fun v5 h =>
 lenP a0 fun v6 =>
 rslP 8 v5 none (some v6) none fun v7 =>
 K v7 h
theorem q_law0_LendEvents (S : FuncId → List AVal → AHeap A → (AVal → AHeap A → Prop) → Prop) (G : Nat → AHeap A → List AVal → (List AVal → AHeap A → Prop) → Prop) (a0 : AVal) (h : AHeap A) (K : AVal → AHeap A → Prop) : funP Tryz.prog S G Tryz.f8 .leaf [a0] h K = p_law0_LendEvents S G a0 h K := by kernel_rfl
theorem c_law0_LendEvents {R : Adts A} {h : AHeap A} {K : AVal → AHeap A → Prop} {a0 : AVal} (hk : p_law0_LendEvents (Tri Pr R) (Gives Pr R) a0 h K) : Tri Pr R n_law0_LendEvents [a0] h K :=
  tri_of_funP (by kernel_rfl) (fun _ _ _ _ h => h) (fun _ _ _ _ h => h) Tryz.func8 (by rw [q_law0_LendEvents]; exact hk)
/-- (*bastion/journal.Journal).Append -/
def p_journal_Journal_Append (S : FuncId → List AVal → AHeap A → (AVal → AHeap A → Prop) → Prop) (G : Nat → AHeap A → List AVal → (List AVal → AHeap A → Prop) → Prop) (a0 a1 : AVal) (h : AHeap A) (K : AVal → AHeap A → Prop) : Prop :=
 S n_journal_Journal_written [a0, a1] h fun v1 h =>
 extP v1 0 fun v2 =>
 extP v1 1 fun v3 =>
 joinP G h.length (fun k4 =>
 binP .eql .other v3 (.int .i64 0) fun v5 =>
 iteP v5
 (nilP a0 fun v6 =>
 fadP 1 v6 fun v7 =>
 ldP 1 false v7 h fun v8 =>
 S n_disk_Disk_Flush [v8] h fun v9 h =>
 nilP a0 fun v10 =>
 fadP 4 v10 fun v11 =>
 ldP 1 false v11 h fun v12 =>
 appP t_api_Event 8 64 v12 a1 h fun v13 h =>
 nilP a0 fun v14 =>
 fadP 4 v14 fun v15 =>
 stP 1 v15 v13 h fun h =>
 nilP a0 fun v16 =>
 fadP 3 v16 fun v17 =>
 stP 1 v17 v2 h fun h =>
 k4 [] h)
 (k4 [] h))
 (fun _ h =>
 K v3 h)
theorem q_journal_Journal_Append (S : FuncId → List AVal → AHeap A → (AVal → AHeap A → Prop) → Prop) (G : Nat → AHeap A → List AVal → (List AVal → AHeap A → Prop) → Prop) (a0 a1 : AVal) (h : AHeap A) (K : AVal → AHeap A → Prop) : funP Tryz.prog S G Tryz.f9 (.two none .leaf (.two none .leaf (.two (some []) .leaf .leaf))) [a0, a1] h K = p_journal_Journal_Append S G a0 a1 h K := by kernel_rfl
theorem c_journal_Journal_Append {R : Adts A} {h : AHeap A} {K : AVal → AHeap A → Prop} {a0 a1 : AVal} (hk : p_journal_Journal_Append (Tri Pr R) (Gives Pr R) a0 a1 h K) : Tri Pr R n_journal_Journal_Append [a0, a1] h K :=
  tri_of_funP (by kernel_rfl) (fun _ _ _ _ h => h) (fun _ _ _ _ h => h) Tryz.func9 (by rw [q_journal_Journal_Append]; exact hk)
/-- bastion/bastionlaw0.Num -/
def p_law0_Num (S : FuncId → List AVal → AHeap A → (AVal → AHeap A → Prop) → Prop) (G : Nat → AHeap A → List AVal → (List AVal → AHeap A → Prop) → Prop) (a0 : AVal) (h : AHeap A) (K : AVal → AHeap A → Prop) : Prop :=
 K a0 h
theorem q_law0_Num (S : FuncId → List AVal → AHeap A → (AVal → AHeap A → Prop) → Prop) (G : Nat → AHeap A → List AVal → (List AVal → AHeap A → Prop) → Prop) (a0 : AVal) (h : AHeap A) (K : AVal → AHeap A → Prop) : funP Tryz.prog S G Tryz.f10 .leaf [a0] h K = p_law0_Num S G a0 h K := by kernel_rfl
theorem c_law0_Num {R : Adts A} {h : AHeap A} {K : AVal → AHeap A → Prop} {a0 : AVal} (hk : p_law0_Num (Tri Pr R) (Gives Pr R) a0 h K) : Tri Pr R n_law0_Num [a0] h K :=
  tri_of_funP (by kernel_rfl) (fun _ _ _ _ h => h) (fun _ _ _ _ h => h) Tryz.func10 (by rw [q_law0_Num]; exact hk)
/-- (*bastion/bastionref1.Journal).Append -/
def p_ref1_Journal_Append (S : FuncId → List AVal → AHeap A → (AVal → AHeap A → Prop) → Prop) (G : Nat → AHeap A → List AVal → (List AVal → AHeap A → Prop) → Prop) (a0 a1 : AVal) (h : AHeap A) (K : AVal → AHeap A → Prop) : Prop :=
 S n_ref1_Journal_put [a0, a1] h fun v1 h =>
 extP v1 0 fun v2 =>
 extP v1 1 fun v3 =>
 extP v1 2 fun v4 =>
 binP .neq .other v4 (.int .i64 0) fun v5 =>
 iteP v5
 (K v4 h)
 (loopP G (fun v35 h k7 =>
 (fun v6 =>
 lenP v2 fun v8 =>
 binP .lss .other v6 v8 fun v9 =>
 iteP v9
 (nilP a0 fun v10 =>
 fadP 1 v10 fun v11 =>
 nilP a0 fun v12 =>
 fadP 5 v12 fun v13 =>
 idxP 1 v2 v6 fun v14 =>
 ldP 1 false v11 h fun v15 =>
 ldP 1 false v13 h fun v16 =>
 lenP v16 fun v17 =>
 binP .add .other (.int .i64 2) v17 fun v18 =>
 binP .add .other v18 v6 fun v19 =>
 ldP 1 false v14 h fun v20 =>
 ldV 1 false v13 h = some v16 ∧
 ldV 1 false v11 h = some v15 ∧
 S n_ref1_Disk_Write [v15, v19, v20] h fun v21 h =>
 binP .add .other v6 (.int .i64 1) fun v22 =>
 k7 [v22] h)
 (nilP a0 fun v23 =>
 fadP 1 v23 fun v24 =>
 ldP 1 false v24 h fun v25 =>
 S n_ref1_Disk_Flush [v25] h fun v26 h =>
 nilP a0 fun v27 =>
 fadP 3 v27 fun v28 =>
 stP 1 v28 v3 h fun h =>
 nilP a0 fun v29 =>
 fadP 5 v29 fun v30 =>
 ldP 1 false v30 h fun v31 =>
 appP t_api_Event 8 64 v31 a1 h fun v32 h =>
 nilP a0 fun v33 =>
 fadP 5 v33 fun v34 =>
 stP 1 v34 v32 h fun h =>
 K (.int .i64 0) h)) (v35.getD 0 .any)) [.int .i64 0] h)
theorem q_ref1_Journal_Append (S : FuncId → List AVal → AHeap A → (AVal → AHeap A → Prop) → Prop) (G : Nat → AHeap A → List AVal → (List AVal → AHeap A → Prop) → Prop) (a0 a1 : AVal) (h : AHeap A) (K : AVal → AHeap A → Prop) : funP Tryz.prog S G Tryz.f11 (.two none .leaf (.two none .leaf (.two none .leaf (.two none (.two none .leaf (.one [] (.one [8] (.two none .leaf (.two none (.one [] (.draw none (.take 0 (.take 1 (.take 2 (.take 4 (.take 5 (.take 6 (.take 10 (.take 12 (.take 13 (.take 14 (.load 3 (.load 7 (.take 8 (.take 9 (.take 11 (.alt 15 (.alt 16 .stop .stop) .stop)))))))))))))))))) .leaf))))) .leaf)))) [a0, a1] h K = p_ref1_Journal_Append S G a0 a1 h K := by kernel_rfl
theorem c_ref1_Journal_Append {R : Adts A} {h : AHeap A} {K : AVal → AHeap A → Prop} {a0 a1 : AVal} (hk : p_ref1_Journal_Append (Tri Pr R) (Gives Pr R) a0 a1 h K) : Tri Pr R n_ref1_Journal_Append [a0, a1] h K :=
  tri_of_funP (by kernel_rfl) (fun _ _ _ _ h => h) (fun _ _ _ _ h => h) Tryz.func11 (by rw [q_ref1_Journal_Append]; exact hk)
/-- (*bastion/journal.Journal).Write -/
def p_journal_Journal_Write (S : FuncId → List AVal → AHeap A → (AVal → AHeap A → Prop) → Prop) (G : Nat → AHeap A → List AVal → (List AVal → AHeap A → Prop) → Prop) (a0 a1 : AVal) (h : AHeap A) (K : AVal → AHeap A → Prop) : Prop :=
 S n_journal_Journal_written [a0, a1] h fun v1 h =>
 extP v1 0 fun v2 =>
 extP v1 1 fun v3 =>
 joinP G h.length (fun k4 =>
 binP .eql .other v3 (.int .i64 0) fun v5 =>
 iteP v5
 (nilP a0 fun v6 =>
 fadP 5 v6 fun v7 =>
 stP 1 v7 (.bool true) h fun h =>
 k4 [] h)
 (k4 [] h))
 (fun _ h =>
 K v3 h)
theorem q_journal_Journal_Write (S : FuncId → List AVal → AHeap A → (AVal → AHeap A → Prop) → Prop) (G : Nat → AHeap A → List AVal → (List AVal → AHeap A → Prop) → Prop) (a0 a1 : AVal) (h : AHeap A) (K : AVal → AHeap A → Prop) : funP Tryz.prog S G Tryz.f12 (.two none .leaf (.two none .leaf (.two (some []) .leaf .leaf))) [a0, a1] h K = p_journal_Journal_Write S G a0 a1 h K := by kernel_rfl
theorem c_journal_Journal_Write {R : Adts A} {h : AHeap A} {K : AVal → AHeap A → Prop} {a0 a1 : AVal} (hk : p_journal_Journal_Write (Tri Pr R) (Gives Pr R) a0 a1 h K) : Tri Pr R n_journal_Journal_Write [a0, a1] h K :=
  tri_of_funP (by kernel_rfl) (fun _ _ _ _ h => h) (fun _ _ _ _ h => h) Tryz.func12 (by rw [q_journal_Journal_Write]; exact hk)
/-- (*bastion/bastionref1.Journal).Write -/
def p_ref1_Journal_Write (S : FuncId → List AVal → AHeap A → (AVal → AHeap A → Prop) → Prop) (G : Nat → AHeap A → List AVal → (List AVal → AHeap A → Prop) → Prop) (a0 a1 : AVal) (h : AHeap A) (K : AVal → AHeap A → Prop) : Prop :=
 S n_ref1_Journal_put [a0, a1] h fun v1 h =>
 extP v1 0 fun v2 =>
 extP v1 1 fun v3 =>
 extP v1 2 fun v4 =>
 binP .neq .other v4 (.int .i64 0) fun v5 =>
 iteP v5
 (K v4 h)
 (loopP G (fun v25 h k7 =>
 (fun v6 =>
 lenP v2 fun v8 =>
 binP .lss .other v6 v8 fun v9 =>
 iteP v9
 (nilP a0 fun v10 =>
 fadP 1 v10 fun v11 =>
 nilP a0 fun v12 =>
 fadP 5 v12 fun v13 =>
 idxP 1 v2 v6 fun v14 =>
 ldP 1 false v11 h fun v15 =>
 ldP 1 false v13 h fun v16 =>
 lenP v16 fun v17 =>
 binP .add .other (.int .i64 2) v17 fun v18 =>
 binP .add .other v18 v6 fun v19 =>
 ldP 1 false v14 h fun v20 =>
 ldV 1 false v13 h = some v16 ∧
 ldV 1 false v11 h = some v15 ∧
 S n_ref1_Disk_Write [v15, v19, v20] h fun v21 h =>
 binP .add .other v6 (.int .i64 1) fun v22 =>
 k7 [v22] h)
 (nilP a0 fun v23 =>
 fadP 2 v23 fun v24 =>
 stP 1 v24 (.bool true) h fun h =>
 K (.int .i64 0) h)) (v25.getD 0 .any)) [.int .i64 0] h)
theorem q_ref1_Journal_Write (S : FuncId → List AVal → AHeap A → (AVal → AHeap A → Prop) → Prop) (G : Nat → AHeap A → List AVal → (List AVal → AHeap A → Prop) → Prop) (a0 a1 : AVal) (h : AHeap A) (K : AVal → AHeap A → Prop) : funP Tryz.prog S G Tryz.f13 (.two none .leaf (.two none .leaf (.two none .leaf (.two none (.two none .leaf (.one [] (.one [8] (.two none .leaf (.two none (.one [] (.draw none (.take 0 (.take 1 (.take 2 (.take 4 (.take 5 (.take 6 (.take 10 (.take 12 (.take 13 (.take 14 (.load 3 (.load 7 (.take 8 (.take 9 (.take 11 (.alt 15 (.alt 16 .stop .stop) .stop)))))))))))))))))) .leaf))))) .leaf)))) [a0, a1] h K = p_ref1_Journal_Write S G a0 a1 h K := by kernel_rfl
theorem c_ref1_Journal_Write {R : Adts A} {h : AHeap A} {K : AVal → AHeap A → Prop} {a0 a1 : AVal} (hk : p_ref1_Journal_Write (Tri Pr R) (Gives Pr R) a0 a1 h K) : Tri Pr R n_ref1_Journal_Write [a0, a1] h K :=
  tri_of_funP (by kernel_rfl) (fun _ _ _ _ h => h) (fun _ _ _ _ h => h) Tryz.func13 (by rw [q_ref1_Journal_Write]; exact hk)
/-- (*bastion/disk.Disk).Write -/
def p_disk_Disk_Write (S : FuncId → List AVal → AHeap A → (AVal → AHeap A → Prop) → Prop) (G : Nat → AHeap A → List AVal → (List AVal → AHeap A → Prop) → Prop) (a0 a1 a2 : AVal) (h : AHeap A) (K : AVal → AHeap A → Prop) : Prop :=
 binP .eql .ptr a0 .nilp fun v1 =>
 iteP v1
 (K (.int .i64 1) h)
 (nilP a0 fun v2 =>
 fadP 2 v2 fun v3 =>
 ldP 1 false v3 h fun v4 =>
 iteP v4
 (K (.int .i64 801) h)
 (S n_disk_Disk_there [a0, a1] h fun v5 h =>
 notP v5 fun v6 =>
 condP v6 false (fun k7 =>
 lnsP a2 fun v8 =>
 binP .neq .other v8 (.int .i64 64) fun v9 =>
 k7 v9 h)
 (.bool true) h fun v10 h =>
 iteP v10
 (K (.int .i64 800) h)
 (nilP a0 fun v11 =>
 fadP 1 v11 fun v12 =>
 ldP 1 false v12 h fun v13 =>
 bldP [.int .i64 0, .str []] [(0, 1, a1), (1, 1, a2)] fun v14 =>
 bslP t_disk_write 1 [.int .i64 0, .str []] [(0, 2, v14)] h fun v15 h =>
 appP t_disk_write 2 24 v13 v15 h fun v16 h =>
 nilP a0 fun v17 =>
 fadP 1 v17 fun v18 =>
 stP 1 v18 v16 h fun h =>
 K (.int .i64 0) h)))
theorem q_disk_Disk_Write (S : FuncId → List AVal → AHeap A → (AVal → AHeap A → Prop) → Prop) (G : Nat → AHeap A → List AVal → (List AVal → AHeap A → Prop) → Prop) (a0 a1 a2 : AVal) (h : AHeap A) (K : AVal → AHeap A → Prop) : funP Tryz.prog S G Tryz.f14 .leaf [a0, a1, a2] h K = p_disk_Disk_Write S G a0 a1 a2 h K := by kernel_rfl
theorem c_disk_Disk_Write {R : Adts A} {h : AHeap A} {K : AVal → AHeap A → Prop} {a0 a1 a2 : AVal} (hk : p_disk_Disk_Write (Tri Pr R) (Gives Pr R) a0 a1 a2 h K) : Tri Pr R n_disk_Disk_Write [a0, a1, a2] h K :=
  tri_of_funP (by kernel_rfl) (fun _ _ _ _ h => h) (fun _ _ _ _ h => h) Tryz.func14 (by rw [q_disk_Disk_Write]; exact hk)
/-- (*bastion/bastionref1.Disk).Write -/
def p_ref1_Disk_Write (S : FuncId → List AVal → AHeap A → (AVal → AHeap A → Prop) → Prop) (G : Nat → AHeap A → List AVal → (List AVal → AHeap A → Prop) → Prop) (a0 a1 a2 : AVal) (h : AHeap A) (K : AVal → AHeap A → Prop) : Prop :=
 nilP a0 fun v1 =>
 fadP 2 v1 fun v2 =>
 ldP 1 false v2 h fun v3 =>
 iteP v3
 (K (.int .i64 801) h)
 (binP .lss .other a1 (.int .i64 0) fun v4 =>
 condP v4 false (fun k5 =>
 nilP a0 fun v6 =>
 fadP 0 v6 fun v7 =>
 ldP 1 false v7 h fun v8 =>
 lenP v8 fun v9 =>
 binP .geq .other a1 v9 fun v10 =>
 k5 v10 h)
 (.bool true) h fun v11 h =>
 condP v11 false (fun k12 =>
 lnsP a2 fun v13 =>
 binP .neq .other v13 (.int .i64 64) fun v14 =>
 k12 v14 h)
 (.bool true) h fun v15 h =>
 iteP v15
 (K (.int .i64 800) h)
 (nilP a0 fun v16 =>
 fadP 1 v16 fun v17 =>
 ldP 1 false v17 h fun v18 =>
 bldP [.int .i64 0, .str []] [(0, 1, a1), (1, 1, a2)] fun v19 =>
 bslP t_bastionref1_write 1 [.int .i64 0, .str []] [(0, 2, v19)] h fun v20 h =>
 appP t_bastionref1_write 2 24 v18 v20 h fun v21 h =>
 nilP a0 fun v22 =>
 fadP 1 v22 fun v23 =>
 stP 1 v23 v21 h fun h =>
 K (.int .i64 0) h))
theorem q_ref1_Disk_Write (S : FuncId → List AVal → AHeap A → (AVal → AHeap A → Prop) → Prop) (G : Nat → AHeap A → List AVal → (List AVal → AHeap A → Prop) → Prop) (a0 a1 a2 : AVal) (h : AHeap A) (K : AVal → AHeap A → Prop) : funP Tryz.prog S G Tryz.f15 .leaf [a0, a1, a2] h K = p_ref1_Disk_Write S G a0 a1 a2 h K := by kernel_rfl
theorem c_ref1_Disk_Write {R : Adts A} {h : AHeap A} {K : AVal → AHeap A → Prop} {a0 a1 a2 : AVal} (hk : p_ref1_Disk_Write (Tri Pr R) (Gives Pr R) a0 a1 a2 h K) : Tri Pr R n_ref1_Disk_Write [a0, a1, a2] h K :=
  tri_of_funP (by kernel_rfl) (fun _ _ _ _ h => h) (fun _ _ _ _ h => h) Tryz.func15 (by rw [q_ref1_Disk_Write]; exact hk)
/-- (*bastion/disk.Disk).Restart -/
def p_disk_Disk_Restart (S : FuncId → List AVal → AHeap A → (AVal → AHeap A → Prop) → Prop) (G : Nat → AHeap A → List AVal → (List AVal → AHeap A → Prop) → Prop) (a0 : AVal) (h : AHeap A) (K : AVal → AHeap A → Prop) : Prop :=
 binP .eql .ptr a0 .nilp fun v1 =>
 iteP v1
 (K (.int .i64 1) h)
 (nilP a0 fun v2 =>
 fadP 2 v2 fun v3 =>
 ldP 1 false v3 h fun v4 =>
 notP v4 fun v5 =>
 iteP v5
 (K (.int .i64 800) h)
 (nilP a0 fun v6 =>
 fadP 2 v6 fun v7 =>
 stP 1 v7 (.bool false) h fun h =>
 K (.int .i64 0) h))
theorem q_disk_Disk_Restart (S : FuncId → List AVal → AHeap A → (AVal → AHeap A → Prop) → Prop) (G : Nat → AHeap A → List AVal → (List AVal → AHeap A → Prop) → Prop) (a0 : AVal) (h : AHeap A) (K : AVal → AHeap A → Prop) : funP Tryz.prog S G Tryz.f16 .leaf [a0] h K = p_disk_Disk_Restart S G a0 h K := by kernel_rfl
theorem c_disk_Disk_Restart {R : Adts A} {h : AHeap A} {K : AVal → AHeap A → Prop} {a0 : AVal} (hk : p_disk_Disk_Restart (Tri Pr R) (Gives Pr R) a0 h K) : Tri Pr R n_disk_Disk_Restart [a0] h K :=
  tri_of_funP (by kernel_rfl) (fun _ _ _ _ h => h) (fun _ _ _ _ h => h) Tryz.func16 (by rw [q_disk_Disk_Restart]; exact hk)
/-- (*bastion/bastionref1.Disk).Restart -/
def p_ref1_Disk_Restart (S : FuncId → List AVal → AHeap A → (AVal → AHeap A → Prop) → Prop) (G : Nat → AHeap A → List AVal → (List AVal → AHeap A → Prop) → Prop) (a0 : AVal) (h : AHeap A) (K : AVal → AHeap A → Prop) : Prop :=
 nilP a0 fun v1 =>
 fadP 2 v1 fun v2 =>
 ldP 1 false v2 h fun v3 =>
 notP v3 fun v4 =>
 iteP v4
 (K (.int .i64 800) h)
 (nilP a0 fun v5 =>
 fadP 2 v5 fun v6 =>
 stP 1 v6 (.bool false) h fun h =>
 K (.int .i64 0) h)
theorem q_ref1_Disk_Restart (S : FuncId → List AVal → AHeap A → (AVal → AHeap A → Prop) → Prop) (G : Nat → AHeap A → List AVal → (List AVal → AHeap A → Prop) → Prop) (a0 : AVal) (h : AHeap A) (K : AVal → AHeap A → Prop) : funP Tryz.prog S G Tryz.f17 .leaf [a0] h K = p_ref1_Disk_Restart S G a0 h K := by kernel_rfl
theorem c_ref1_Disk_Restart {R : Adts A} {h : AHeap A} {K : AVal → AHeap A → Prop} {a0 : AVal} (hk : p_ref1_Disk_Restart (Tri Pr R) (Gives Pr R) a0 h K) : Tri Pr R n_ref1_Disk_Restart [a0] h K :=
  tri_of_funP (by kernel_rfl) (fun _ _ _ _ h => h) (fun _ _ _ _ h => h) Tryz.func17 (by rw [q_ref1_Disk_Restart]; exact hk)
/-- (*bastion/disk.Disk).Crash -/
def p_disk_Disk_Crash (S : FuncId → List AVal → AHeap A → (AVal → AHeap A → Prop) → Prop) (G : Nat → AHeap A → List AVal → (List AVal → AHeap A → Prop) → Prop) (a0 a1 a2 : AVal) (h : AHeap A) (K : AVal → AHeap A → Prop) : Prop :=
 binP .eql .ptr a0 .nilp fun v1 =>
 iteP v1
 (K (.int .i64 1) h)
 (nilP a0 fun v2 =>
 fadP 2 v2 fun v3 =>
 ldP 1 false v3 h fun v4 =>
 iteP v4
 (K (.int .i64 801) h)
 (binP .lss .other a1 (.int .i64 0) fun v5 =>
 condP v5 false (fun k6 =>
 binP .lss .other a2 (.int .i64 0) fun v7 =>
 k6 v7 h)
 (.bool true) h fun v8 h =>
 iteP v8
 (K (.int .i64 800) h)
 (nilP a0 fun v9 =>
 fadP 1 v9 fun v10 =>
 ldP 1 false v10 h fun v11 =>
 lenP v11 fun v12 =>
 loopP G (fun v64 h k15 =>
 (fun v13 v14 =>
 binP .lss .other v14 v12 fun v16 =>
 iteP v16
 (joinP G h.length (fun k17 =>
 idxP 2 v11 v14 fun v18 =>
 ldP 2 true v18 h fun v19 =>
 newP t_disk_write [.int .i64 0, .str []] h fun v20 h =>
 stP 2 v20 v19 h fun h =>
 binP .lss .other v14 (.int .i64 30) fun v21 =>
 condP v21 true (fun k22 =>
 binP .shr .other a1 v14 fun v23 =>
 binP .and .other v23 (.int .i64 1) fun v24 =>
 binP .eql .other v24 (.int .i64 1) fun v25 =>
 k22 v25 h)
 (.bool false) h fun v26 h =>
 iteP v26
 (nilP a0 fun v27 =>
 fadP 0 v27 fun v28 =>
 fadP 0 v20 fun v29 =>
 fadP 1 v20 fun v30 =>
 ldP 1 false v28 h fun v31 =>
 ldP 1 false v29 h fun v32 =>
 ldP 1 false v30 h fun v33 =>
 ldV 1 false v29 h = some v32 ∧
 ldV 1 false v28 h = some v31 ∧
 idxP 1 v31 v32 fun v34 =>
 stP 1 v34 v33 h fun h =>
 k17 [v13] h)
 (iteP v13
 (fadP 1 v20 fun v35 =>
 ldP 1 false v35 h fun v36 =>
 lnsP v36 fun v37 =>
 minP [a2, v37] fun v38 =>
 nilP a0 fun v39 =>
 fadP 0 v39 fun v40 =>
 fadP 0 v20 fun v41 =>
 fadP 1 v20 fun v42 =>
 nilP a0 fun v43 =>
 fadP 0 v43 fun v44 =>
 fadP 0 v20 fun v45 =>
 ldP 1 false v40 h fun v46 =>
 ldP 1 false v41 h fun v47 =>
 ldP 1 false v42 h fun v48 =>
 subP v48 none (some v38) fun v49 =>
 ldP 1 false v44 h fun v50 =>
 ldP 1 false v45 h fun v51 =>
 ldV 1 false v44 h = some v50 ∧
 ldV 1 false v42 h = some v48 ∧
 ldV 1 false v41 h = some v47 ∧
 ldV 1 false v40 h = some v46 ∧
 idxP 1 v50 v51 fun v52 =>
 ldP 1 false v52 h fun v53 =>
 ldV 1 false v42 h = some v48 ∧
 ldV 1 false v41 h = some v47 ∧
 ldV 1 false v40 h = some v46 ∧
 subP v53 (some v38) none fun v54 =>
 binP .add .other v49 v54 fun v55 =>
 idxP 1 v46 v47 fun v56 =>
 stP 1 v56 v55 h fun h =>
 k17 [.bool false] h)
 (k17 [v13] h)))
 (fun v59 h =>
 (fun v57 =>
 binP .add .other v14 (.int .i64 1) fun v58 =>
 k15 [v57, v58] h) (v59.getD 0 .any)))
 (nilP a0 fun v60 =>
 fadP 1 v60 fun v61 =>
 stP 1 v61 .nils h fun h =>
 nilP a0 fun v62 =>
 fadP 2 v62 fun v63 =>
 stP 1 v63 (.bool true) h fun h =>
 K (.int .i64 0) h)) (v64.getD 0 .any) (v64.getD 1 .any)) [.bool true, .int .i64 0] h)))
theorem q_disk_Disk_Crash (S : FuncId → List AVal → AHeap A → (AVal → AHeap A → Prop) → Prop) (G : Nat → AHeap A → List AVal → (List AVal → AHeap A → Prop) → Prop) (a0 a1 a2 : AVal) (h : AHeap A) (K : AVal → AHeap A → Prop) : funP Tryz.prog S G Tryz.f18 (.two none .leaf (.two none .leaf (.two none .leaf (.two none (.two none .leaf (.one [] (.one [7, 31] (.two none .leaf (.two none .leaf (.two (some [7]) (.one [] (.two none .leaf (.one [] (.two none .leaf (.two none (.draw none (.take 0 (.take 1 (.take 2 (.take 4 (.take 6 (.load 3 (.load 5 (.alt 7 (.take 8 (.alt 9 .stop .stop)) .stop))))))))) (.two none .leaf (.two none (.two none .leaf (.two none (.draw none (.take 0 (.take 1 (.take 2 (.take 4 (.take 6 (.take 8 (.take 10 (.take 11 (.take 12 (.take 14 (.take 18 (.load 3 (.load 5 (.load 7 (.take 9 (.load 13 (.alt 15 (.take 16 (.alt 17 (.take 19 (.take 20 (.take 21 (.alt 22 .stop .stop)))) .stop)) .stop)))))))))))))))))) .leaf)) .leaf))))))) .leaf)))))) .leaf)))) [a0, a1, a2] h K = p_disk_Disk_Crash S G a0 a1 a2 h K := by kernel_rfl
theorem c_disk_Disk_Crash {R : Adts A} {h : AHeap A} {K : AVal → AHeap A → Prop} {a0 a1 a2 : AVal} (hk : p_disk_Disk_Crash (Tri Pr R) (Gives Pr R) a0 a1 a2 h K) : Tri Pr R n_disk_Disk_Crash [a0, a1, a2] h K :=
  tri_of_funP (by kernel_rfl) (fun _ _ _ _ h => h) (fun _ _ _ _ h => h) Tryz.func18 (by rw [q_disk_Disk_Crash]; exact hk)
/-- (*bastion/bastionref1.Disk).Crash -/
def p_ref1_Disk_Crash (S : FuncId → List AVal → AHeap A → (AVal → AHeap A → Prop) → Prop) (G : Nat → AHeap A → List AVal → (List AVal → AHeap A → Prop) → Prop) (a0 a1 a2 : AVal) (h : AHeap A) (K : AVal → AHeap A → Prop) : Prop :=
 nilP a0 fun v1 =>
 fadP 2 v1 fun v2 =>
 ldP 1 false v2 h fun v3 =>
 iteP v3
 (K (.int .i64 801) h)
 (binP .lss .other a1 (.int .i64 0) fun v4 =>
 condP v4 false (fun k5 =>
 binP .lss .other a2 (.int .i64 0) fun v6 =>
 k5 v6 h)
 (.bool true) h fun v7 h =>
 iteP v7
 (K (.int .i64 800) h)
 (loopP G (fun v65 h k10 =>
 (fun v8 v9 =>
 nilP a0 fun v11 =>
 fadP 1 v11 fun v12 =>
 ldP 1 false v12 h fun v13 =>
 lenP v13 fun v14 =>
 binP .lss .other v9 v14 fun v15 =>
 iteP v15
 (joinP G h.length (fun k16 =>
 nilP a0 fun v17 =>
 fadP 1 v17 fun v18 =>
 ldP 1 false v18 h fun v19 =>
 idxP 2 v19 v9 fun v20 =>
 ldP 2 true v20 h fun v21 =>
 newP t_bastionref1_write [.int .i64 0, .str []] h fun v22 h =>
 stP 2 v22 v21 h fun h =>
 binP .lss .other v9 (.int .i64 30) fun v23 =>
 condP v23 true (fun k24 =>
 cviP .u64 v9 fun v25 =>
 binP .shr .other a1 v25 fun v26 =>
 binP .and .other v26 (.int .i64 1) fun v27 =>
 binP .eql .other v27 (.int .i64 1) fun v28 =>
 k24 v28 h)
 (.bool false) h fun v29 h =>
 iteP v29
 (nilP a0 fun v30 =>
 fadP 0 v30 fun v31 =>
 fadP 0 v22 fun v32 =>
 fadP 1 v22 fun v33 =>
 ldP 1 false v31 h fun v34 =>
 ldP 1 false v32 h fun v35 =>
 ldP 1 false v33 h fun v36 =>
 ldV 1 false v32 h = some v35 ∧
 ldV 1 false v31 h = some v34 ∧
 idxP 1 v34 v35 fun v37 =>
 stP 1 v37 v36 h fun h =>
 k16 [v8] h)
 (notP v8 fun v38 =>
 iteP v38
 (minP [a2, .int .i64 64] fun v39 =>
 nilP a0 fun v40 =>
 fadP 0 v40 fun v41 =>
 fadP 0 v22 fun v42 =>
 fadP 1 v22 fun v43 =>
 nilP a0 fun v44 =>
 fadP 0 v44 fun v45 =>
 fadP 0 v22 fun v46 =>
 ldP 1 false v41 h fun v47 =>
 ldP 1 false v42 h fun v48 =>
 ldP 1 false v43 h fun v49 =>
 subP v49 none (some v39) fun v50 =>
 ldP 1 false v45 h fun v51 =>
 ldP 1 false v46 h fun v52 =>
 ldV 1 false v45 h = some v51 ∧
 ldV 1 false v43 h = some v49 ∧
 ldV 1 false v42 h = some v48 ∧
 ldV 1 false v41 h = some v47 ∧
 idxP 1 v51 v52 fun v53 =>
 ldP 1 false v53 h fun v54 =>
 ldV 1 false v43 h = some v49 ∧
 ldV 1 false v42 h = some v48 ∧
 ldV 1 false v41 h = some v47 ∧
 subP v54 (some v39) none fun v55 =>
 binP .add .other v50 v55 fun v56 =>
 idxP 1 v47 v48 fun v57 =>
 stP 1 v57 v56 h fun h =>
 k16 [.bool true] h)
 (k16 [v8] h)))
 (fun v60 h =>
 (fun v58 =>
 binP .add .other v9 (.int .i64 1) fun v59 =>
 k10 [v58, v59] h) (v60.getD 0 .any)))
 (nilP a0 fun v61 =>
 fadP 1 v61 fun v62 =>
 stP 1 v62 .nils h fun h =>
 nilP a0 fun v63 =>
 fadP 2 v63 fun v64 =>
 stP 1 v64 (.bool true) h fun h =>
 K (.int .i64 0) h)) (v65.getD 0 .any) (v65.getD 1 .any)) [.bool false, .int .i64 0] h))
theorem q_ref1_Disk_Crash (S : FuncId → List AVal → AHeap A → (AVal → AHeap A → Prop) → Prop) (G : Nat → AHeap A → List AVal → (List AVal → AHeap A → Prop) → Prop) (a0 a1 a2 : AVal) (h : AHeap A) (K : AVal → AHeap A → Prop) : funP Tryz.prog S G Tryz.f19 (.two none .leaf (.two none .leaf (.two none .leaf (.two none (.two none .leaf (.one [] (.one [7, 8] (.two none .leaf (.two (some [7]) (.one [] (.two none .leaf (.one [] (.two none .leaf (.two none (.draw none (.take 0 (.take 1 (.take 2 (.take 4 (.take 6 (.load 3 (.load 5 (.alt 7 (.take 8 (.alt 9 .stop .stop)) .stop))))))))) (.two none .leaf (.two none (.two none .leaf (.two none (.draw none (.take 0 (.take 1 (.take 2 (.take 4 (.take 6 (.take 8 (.take 10 (.take 11 (.take 12 (.take 14 (.take 18 (.load 3 (.load 5 (.load 7 (.take 9 (.load 13 (.alt 15 (.take 16 (.alt 17 (.take 19 (.take 20 (.take 21 (.alt 22 .stop .stop)))) .stop)) .stop)))))))))))))))))) .leaf)) .leaf))))))) .leaf))))) .leaf)))) [a0, a1, a2] h K = p_ref1_Disk_Crash S G a0 a1 a2 h K := by kernel_rfl
theorem c_ref1_Disk_Crash {R : Adts A} {h : AHeap A} {K : AVal → AHeap A → Prop} {a0 a1 a2 : AVal} (hk : p_ref1_Disk_Crash (Tri Pr R) (Gives Pr R) a0 a1 a2 h K) : Tri Pr R n_ref1_Disk_Crash [a0, a1, a2] h K :=
  tri_of_funP (by kernel_rfl) (fun _ _ _ _ h => h) (fun _ _ _ _ h => h) Tryz.func19 (by rw [q_ref1_Disk_Crash]; exact hk)
/-- (*bastion/journal.Journal).Events -/
def p_journal_Journal_Events (S : FuncId → List AVal → AHeap A → (AVal → AHeap A → Prop) → Prop) (G : Nat → AHeap A → List AVal → (List AVal → AHeap A → Prop) → Prop) (a0 : AVal) (h : AHeap A) (K : AVal → AHeap A → Prop) : Prop :=
 binP .eql .ptr a0 .nilp fun v1 =>
 iteP v1
 (K .nils h)
 (nilP a0 fun v2 =>
 fadP 4 v2 fun v3 =>
 ldP 1 false v3 h fun v4 =>
 S n_slices_Clone_api_Event [v4] h fun v5 h =>
 K v5 h)
theorem q_journal_Journal_Events (S : FuncId → List AVal → AHeap A → (AVal → AHeap A → Prop) → Prop) (G : Nat → AHeap A → List AVal → (List AVal → AHeap A → Prop) → Prop) (a0 : AVal) (h : AHeap A) (K : AVal → AHeap A → Prop) : funP Tryz.prog S G Tryz.f20 .leaf [a0] h K = p_journal_Journal_Events S G a0 h K := by kernel_rfl
theorem c_journal_Journal_Events {R : Adts A} {h : AHeap A} {K : AVal → AHeap A → Prop} {a0 : AVal} (hk : p_journal_Journal_Events (Tri Pr R) (Gives Pr R) a0 h K) : Tri Pr R n_journal_Journal_Events [a0] h K :=
  tri_of_funP (by kernel_rfl) (fun _ _ _ _ h => h) (fun _ _ _ _ h => h) Tryz.func20 (by rw [q_journal_Journal_Events]; exact hk)
end Go.AI
