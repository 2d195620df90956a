/- The functions as texts over the abstract heap. -/
import Derived.Test.YtkipdpamkchnoaaNm
import Derived.KernelRfl
set_option linter.all false
namespace Go.AI
open Go.Proofs
set_option maxRecDepth 1000000
variable {A : Type}
/-- bastion/bastionlaw9.RecordRows -/
def p_law9_RecordRows (S : FuncId → List AVal → AHeap A → (AVal → AHeap A → Prop) → Prop) (G : Nat → AHeap A → List AVal → (List AVal → AHeap A → Prop) → Prop) (a0 a1 : AVal) (h : AHeap A) (K : AVal → AHeap A → Prop) : Prop :=
 S n_law9_awake [] h fun v1 h =>
 notP v1 fun v2 =>
 iteP v2
 (K (.bool false) h)
 (S n_book_New [.int .i64 99] h fun v3 h =>
 extP v3 0 fun v4 =>
 extP v3 1 fun v5 =>
 S n_law0_Num [v5] h fun v6 h =>
 binP .neq .other v6 (.int .i64 0) fun v7 =>
 condP v7 false (fun k8 =>
 binP .eql .ptr v4 .nilp fun v9 =>
 k8 v9 h)
 (.bool true) h fun v10 h =>
 iteP v10
 (K (.bool false) h)
 (bslP t_int 1 [.int .i64 0] [(0, 1, .int .i64 0)] h fun v11 h =>
 loopP G (fun v113 h k16 =>
 (fun v12 v13 v14 v15 =>
 lenP a0 fun v17 =>
 binP .lss .other v15 v17 fun v18 =>
 condP v18 true (fun k19 =>
 binP .lss .other v15 (.int .i64 20) fun v20 =>
 k19 v20 h)
 (.bool false) h fun v21 h =>
 iteP v21
 (joinP G h.length (fun k22 =>
 joinP G h.length (fun k23 =>
 lenP a1 fun v24 =>
 binP .lss .other v15 v24 fun v25 =>
 iteP v25
 (idxP 1 a1 v15 fun v26 =>
 ldP 1 false v26 h fun v27 =>
 binP .and .other v27 (.int .i64 7) fun v28 =>
 binP .add .other (.int .i64 1) v28 fun v29 =>
 k23 [v29] h)
 (k23 [.int .i64 1] h))
 (fun v55 h =>
 (fun v30 =>
 lenP v13 fun v31 =>
 binP .add .other v31 (.int .i64 1) fun v32 =>
 lenP v14 fun v33 =>
 binP .sub .other v33 (.int .i64 1) fun v34 =>
 idxP 1 v14 v34 fun v35 =>
 idxP 8 a0 v15 fun v36 =>
 ldP 1 false v35 h fun v37 =>
 ldP 8 true v36 h fun v38 =>
 bldP [.int .i64 0, .int .i64 0, .int .i64 0, .int .i64 0, .int .i64 0, .int .i64 0, .int .i64 0, .int .i64 0, .int .i64 0, .int .i64 0, .int .i64 0] [(0, 1, v32), (1, 1, v30), (2, 1, v37), (3, 8, v38)] fun v39 =>
 newP t_api_Record (reps 11 (.int .i64 0)) h fun v40 h =>
 ldV 8 true v36 h = some v38 ∧
 ldV 1 false v35 h = some v37 ∧
 stP 11 v40 v39 h fun h =>
 ldP 11 true v40 h fun v41 =>
 S n_record_Put [v4, v41] h fun v42 h =>
 extP v42 0 fun v43 =>
 extP v42 1 fun v44 =>
 extP v42 2 fun v45 =>
 S n_law0_Num [v45] h fun v46 h =>
 binP .neq .other v46 (.int .i64 0) fun v47 =>
 iteP v47
 (k22 [v12, v13, v14] h)
 (bslP t_string 1 [.str []] [(0, 1, v43)] h fun v48 h =>
 appP t_string 1 16 v12 v48 h fun v49 h =>
 ldP 11 true v40 h fun v50 =>
 bslP t_api_Record 1 [.int .i64 0, .int .i64 0, .int .i64 0, .int .i64 0, .int .i64 0, .int .i64 0, .int .i64 0, .int .i64 0, .int .i64 0, .int .i64 0, .int .i64 0] [(0, 11, v50)] h fun v51 h =>
 appP t_api_Record 11 88 v13 v51 h fun v52 h =>
 bslP t_int 1 [.int .i64 0] [(0, 1, v44)] h fun v53 h =>
 appP t_int 1 8 v14 v53 h fun v54 h =>
 k22 [v49, v52, v54] h)) (v55.getD 0 .any)))
 (fun v60 h =>
 (fun v56 v57 v58 =>
 binP .add .other v15 (.int .i64 1) fun v59 =>
 k16 [v56, v57, v58, v59] h) (v60.getD 0 .any) (v60.getD 1 .any) (v60.getD 2 .any)))
 (loopP G (fun v112 h k62 =>
 (fun v61 =>
 lenP v12 fun v63 =>
 binP .lss .other v61 v63 fun v64 =>
 iteP v64
 (loopP G (fun v111 h k66 =>
 (fun v65 =>
 lenP v12 fun v67 =>
 binP .lss .other v65 v67 fun v68 =>
 iteP v68
 (joinP G h.length (fun k69 =>
 idxP 1 v12 v61 fun v70 =>
 binP .add .other v65 (.int .i64 1) fun v71 =>
 idxP 1 v14 v65 fun v72 =>
 ldP 1 false v70 h fun v73 =>
 ldP 1 false v72 h fun v74 =>
 (S n_record_Get [v4, v73, v71, v74] h fun v75 h =>
 extP v75 0 fun v76 =>
 extP v75 1 fun v77 =>
 extP v75 2 fun v78 =>
 newP t_api_Record (reps 11 (.int .i64 0)) h fun v79 h =>
 stP 11 v79 v76 h fun h =>
 k69 [v79, v77, v78] h) ∧
 (newP t_api_Record (reps 11 (.int .i64 0)) h fun v80 h =>
 ldV 1 false v72 h = some v74 ∧
 ldV 1 false v70 h = some v73 ∧
 S n_record_Get [v4, v73, v71, v74] h fun v81 h =>
 extP v81 0 fun v82 =>
 extP v81 1 fun v83 =>
 extP v81 2 fun v84 =>
 stP 11 v80 v82 h fun h =>
 k69 [v80, v83, v84] h))
 (fun v109 h =>
 (fun v85 v86 v87 =>
 joinP G h.length (fun k88 =>
 binP .eql .other v61 v65 fun v89 =>
 iteP v89
 (S n_law0_Num [v87] h fun v90 h =>
 binP .neq .other v90 (.int .i64 0) fun v91 =>
 iteP v91
 (k88 [.bool true] h)
 (idxP 11 v13 v61 fun v92 =>
 ldP 11 true v85 h fun v93 =>
 ldP 11 true v92 h fun v94 =>
 ldV 11 true v85 h = some v93 ∧
 binP .neq (.shape (.st [(0, 1, .i), (1, 1, .i), (2, 1, .i), (3, 8, .st [(0, 1, .i), (1, 1, .i), (2, 1, .i), (3, 1, .i), (4, 1, .i), (5, 1, .i), (6, 1, .i), (7, 1, .i)])])) v93 v94 fun v95 =>
 iteP v95
 (k88 [.bool true] h)
 (binP .add .other v61 (.int .i64 1) fun v96 =>
 idxP 1 v14 v96 fun v97 =>
 ldP 1 false v97 h fun v98 =>
 binP .neq .other v86 v98 fun v99 =>
 iteP v99
 (k88 [.bool true] h)
 (binP .neq .other v61 v65 fun v100 =>
 iteP v100
 (S n_law0_Num [v87] h fun v101 h =>
 binP .neq .other v101 (.int .i64 901) fun v102 =>
 k88 [v102] h)
 (k88 [.bool false] h)))))
 (binP .neq .other v61 v65 fun v103 =>
 iteP v103
 (S n_law0_Num [v87] h fun v104 h =>
 binP .neq .other v104 (.int .i64 901) fun v105 =>
 k88 [v105] h)
 (k88 [.bool false] h)))
 (fun v108 h =>
 (fun v106 =>
 iteP v106
 (K (.bool false) h)
 (binP .add .other v65 (.int .i64 1) fun v107 =>
 k66 [v107] h)) (v108.getD 0 .any))) (v109.getD 0 .any) (v109.getD 1 .any) (v109.getD 2 .any)))
 (binP .add .other v61 (.int .i64 1) fun v110 =>
 k62 [v110] h)) (v111.getD 0 .any)) [.int .i64 0] h)
 (K (.bool true) h)) (v112.getD 0 .any)) [.int .i64 0] h)) (v113.getD 0 .any) (v113.getD 1 .any) (v113.getD 2 .any) (v113.getD 3 .any)) [.nils, .nils, v11, .int .i64 0] h))
theorem q_law9_RecordRows (S : FuncId → List AVal → AHeap A → (AVal → AHeap A → Prop) → Prop) (G : Nat → AHeap A → List AVal → (List AVal → AHeap A → Prop) → Prop) (a0 a1 : AVal) (h : AHeap A) (K : AVal → AHeap A → Prop) : funP Try.prog S G Try.f3 (.two none .leaf (.two none .leaf (.two none .leaf (.two none .leaf (.two none .leaf (.two none .leaf (.two none .leaf (.two none (.two none .leaf (.one [] (.one [7, 8, 9, 10] (.two none .leaf (.two (some [7, 8, 9]) (.one [] (.two none .leaf (.two (some [11]) .leaf (.two none (.draw none (.take 0 (.take 1 (.take 2 (.take 3 (.take 4 (.take 5 (.take 6 (.take 7 (.take 8 (.take 10 (.take 11 (.take 12 (.load 9 (.load 13 (.take 14 (.alt 15 (.alt 16 .stop .stop) .stop))))))))))))))))) .leaf)))) .leaf))))) (.two none (.two none .leaf (.one [] (.one [16] (.two none .leaf (.two none (.one [] (.two none .leaf (.one [] (.one [17] (.two none .leaf (.two none (.one [] (.two none (.draw (some [18, 19, 20]) (.take 0 (.take 1 (.take 2 (.take 3 (.take 5 (.take 6 (.take 7 (.take 8 (.take 9 (.load 4 (.load 10 (.alt 11 (.take 12 (.take 13 (.take 14 (.take 15 (.alt 16 (.alt 17 (.take 18 (.take 19 .stop)) .stop) .stop))))) (.alt 16 (.alt 11 (.take 12 (.take 13 (.take 14 (.take 15 (.alt 17 (.take 18 (.take 19 .stop)) .stop))))) .stop) .stop)))))))))))))) (.two none (.draw (some [154]) (.take 0 (.take 1 (.take 2 (.take 3 (.split 3 (.take 4 (.alt 5 (.take 6 (.take 7 (.split 7 (.skip 8 (.skip 9 (.skip 10 (.skip 11 (.skip 12 (.skip 13 (.take 14 (.take 15 (.known 15 true (.skip 16 (.skip 17 (.skip 18 (.skip 19 (.skip 20 (.skip 21 (.skip 22 (.take 23 (.take 24 (.take 25 (.known 25 true (.skip 26 (.skip 27 (.skip 28 (.skip 29 (.skip 30 (.skip 31 (.skip 32 (.skip 33 (.take 34 .stop))))))))))))))))))))))))))))) (.take 9 (.take 10 (.take 11 (.load 8 (.alt 12 (.take 13 (.take 14 (.take 15 (.split 15 (.skip 16 (.skip 17 (.skip 18 (.skip 19 (.skip 20 (.skip 21 (.skip 22 (.take 23 (.take 24 (.take 25 (.known 25 true (.skip 26 (.skip 27 (.skip 28 (.skip 29 (.skip 30 (.skip 31 (.skip 32 (.skip 33 (.take 34 .stop)))))))))))))))))))) (.take 16 (.take 17 (.take 18 (.take 19 (.take 20 (.alt 21 (.take 22 (.take 23 (.take 24 (.take 25 (.split 25 (.skip 26 (.skip 27 (.skip 28 (.skip 29 (.skip 30 (.skip 31 (.skip 32 (.skip 33 (.take 34 .stop))))))))) (.take 26 (.take 27 (.take 28 (.take 29 (.split 29 (.take 30 (.alt 31 (.take 32 (.take 33 (.take 34 .stop))) .stop)) (.skip 30 (.skip 31 (.skip 32 (.take 33 (.take 34 .stop))))))))))))))) .stop)))))))))) .stop)))))))) .stop)) (.skip 4 (.skip 5 (.skip 6 (.skip 7 (.skip 8 (.skip 9 (.skip 10 (.skip 11 (.skip 12 (.skip 13 (.skip 14 (.skip 15 (.skip 16 (.skip 17 (.skip 18 (.skip 19 (.skip 20 (.skip 21 (.skip 22 (.skip 23 (.take 24 (.take 25 (.known 25 false (.take 26 (.take 27 (.take 28 (.take 29 (.split 29 (.take 30 (.alt 31 (.take 32 (.take 33 (.take 34 .stop))) .stop)) (.skip 30 (.skip 31 (.skip 32 (.take 33 (.take 34 .stop))))))))))))))))))))))))))))))))))))))) .leaf))) .leaf)))))) .leaf))))) .leaf))))))))) [a0, a1] h K = p_law9_RecordRows S G a0 a1 h K := by kernel_rfl
theorem c_law9_RecordRows {R : Adts A} {h : AHeap A} {K : AVal → AHeap A → Prop} {a0 a1 : AVal} (hk : p_law9_RecordRows (Tri Pr R) (Gives Pr R) a0 a1 h K) : Tri Pr R n_law9_RecordRows [a0, a1] h K :=
  tri_of_funP (by kernel_rfl) (fun _ _ _ _ h => h) (fun _ _ _ _ h => h) Try.func3 (by rw [q_law9_RecordRows]; exact hk)
/-- bastion/bastionlaw9.RecordTorn -/
def p_law9_RecordTorn (S : FuncId → List AVal → AHeap A → (AVal → AHeap A → Prop) → Prop) (G : Nat → AHeap A → List AVal → (List AVal → AHeap A → Prop) → Prop) (a0 a1 a2 a3 : AVal) (h : AHeap A) (K : AVal → AHeap A → Prop) : Prop :=
 boxP t_api_Event 8 a0 h fun v1 h =>
 boxP t_api_Event 8 a1 h fun v2 h =>
 S n_law9_awake [] h fun v3 h =>
 notP v3 fun v4 =>
 iteP v4
 (K (.bool false) h)
 (S n_book_New [.int .i64 9] h fun v5 h =>
 extP v5 0 fun v6 =>
 extP v5 1 fun v7 =>
 S n_law0_Num [v7] h fun v8 h =>
 binP .neq .other v8 (.int .i64 0) fun v9 =>
 condP v9 false (fun k10 =>
 binP .eql .ptr v6 .nilp fun v11 =>
 k10 v11 h)
 (.bool true) h fun v12 h =>
 iteP v12
 (K (.bool false) h)
 (binP .and .other a3 (.int .i64 1) fun v13 =>
 binP .add .other (.int .i64 1) v13 fun v14 =>
 ldP 8 true v1 h fun v15 =>
 bldP [.int .i64 0, .int .i64 0, .int .i64 0, .int .i64 0, .int .i64 0, .int .i64 0, .int .i64 0, .int .i64 0, .int .i64 0, .int .i64 0, .int .i64 0] [(0, 1, .int .i64 1), (1, 1, v14), (3, 8, v15)] fun v16 =>
 newP t_api_Record (reps 11 (.int .i64 0)) h fun v17 h =>
 stP 11 v17 v16 h fun h =>
 ldP 8 true v2 h fun v18 =>
 bldP [.int .i64 0, .int .i64 0, .int .i64 0, .int .i64 0, .int .i64 0, .int .i64 0, .int .i64 0, .int .i64 0, .int .i64 0, .int .i64 0, .int .i64 0] [(0, 1, .int .i64 1), (1, 1, .int .i64 3), (3, 8, v18)] fun v19 =>
 newP t_api_Record (reps 11 (.int .i64 0)) h fun v20 h =>
 stP 11 v20 v19 h fun h =>
 ldP 11 true v17 h fun v21 =>
 S n_record_Put [v6, v21] h fun v22 h =>
 extP v22 0 fun v23 =>
 extP v22 1 fun v24 =>
 extP v22 2 fun v25 =>
 ldP 11 true v20 h fun v26 =>
 S n_record_Put [v6, v26] h fun v27 h =>
 extP v27 0 fun v28 =>
 extP v27 1 fun v29 =>
 extP v27 2 fun v30 =>
 S n_law0_Num [v25] h fun v31 h =>
 binP .neq .other v31 (.int .i64 0) fun v32 =>
 condP v32 false (fun k33 =>
 S n_law0_Num [v30] h fun v34 h =>
 binP .neq .other v34 (.int .i64 0) fun v35 =>
 k33 v35 h)
 (.bool true) h fun v36 h =>
 iteP v36
 (K (.bool true) h)
 (lnsP v23 fun v37 =>
 binP .neq .other v37 (.int .i64 64) fun v38 =>
 condP v38 false (fun k39 =>
 lnsP v28 fun v40 =>
 binP .neq .other v40 (.int .i64 64) fun v41 =>
 k39 v41 h)
 (.bool true) h fun v42 h =>
 iteP v42
 (K (.bool false) h)
 (binP .and .other a2 (.int .i64 63) fun v43 =>
 subP v28 none (some v43) fun v44 =>
 binP .sub .other (.int .i64 64) v43 fun v45 =>
 mkslP t_uint8 1 1 [.int .u8 0] v45 v45 h fun v46 h =>
 b2sP v46 h fun v47 =>
 binP .add .other v44 v47 fun v48 =>
 subP v28 none (some v43) fun v49 =>
 subP v23 (some v43) none fun v50 =>
 binP .add .other v49 v50 fun v51 =>
 S n_record_Get [v6, v48, .int .i64 1, .int .i64 0] h fun v52 h =>
 extP v52 0 fun v53 =>
 extP v52 1 fun v54 =>
 extP v52 2 fun v55 =>
 newP t_api_Record (reps 11 (.int .i64 0)) h fun v56 h =>
 stP 11 v56 v53 h fun h =>
 S n_record_Get [v6, v51, .int .i64 1, .int .i64 0] h fun v57 h =>
 extP v57 0 fun v58 =>
 extP v57 1 fun v59 =>
 extP v57 2 fun v60 =>
 newP t_api_Record (reps 11 (.int .i64 0)) h fun v61 h =>
 stP 11 v61 v58 h fun h =>
 S n_law0_Num [v55] h fun v62 h =>
 binP .eql .other v62 (.int .i64 0) fun v63 =>
 binP .eql .other v48 v28 fun v64 =>
 binP .eql .bl v63 v64 fun v65 =>
 condP v65 true (fun k66 =>
 binP .neq .other v48 v28 fun v67 =>
 condP v67 false (fun k68 =>
 ldP 11 true v56 h fun v69 =>
 ldP 11 true v20 h fun v70 =>
 binP .eql (.shape (.st [(0, 1, .i), (1, 1, .i), (2, 1, .i), (3, 8, .st [(0, 1, .i), (1, 1, .i), (2, 1, .i), (3, 1, .i), (4, 1, .i), (5, 1, .i), (6, 1, .i), (7, 1, .i)])])) v69 v70 fun v71 =>
 k68 v71 h)
 (.bool true) h fun v72 h =>
 k66 v72 h)
 (.bool false) h fun v73 h =>
 condP v73 true (fun k74 =>
 S n_law0_Num [v60] h fun v75 h =>
 binP .eql .other v75 (.int .i64 0) fun v76 =>
 binP .eql .other v51 v28 fun v77 =>
 condP v77 false (fun k78 =>
 binP .eql .other v51 v23 fun v79 =>
 k78 v79 h)
 (.bool true) h fun v80 h =>
 binP .eql .bl v76 v80 fun v81 =>
 k74 v81 h)
 (.bool false) h fun v82 h =>
 condP v82 true (fun k83 =>
 binP .neq .other v51 v28 fun v84 =>
 condP v84 false (fun k85 =>
 ldP 11 true v61 h fun v86 =>
 ldP 11 true v20 h fun v87 =>
 binP .eql (.shape (.st [(0, 1, .i), (1, 1, .i), (2, 1, .i), (3, 8, .st [(0, 1, .i), (1, 1, .i), (2, 1, .i), (3, 1, .i), (4, 1, .i), (5, 1, .i), (6, 1, .i), (7, 1, .i)])])) v86 v87 fun v88 =>
 k85 v88 h)
 (.bool true) h fun v89 h =>
 k83 v89 h)
 (.bool false) h fun v90 h =>
 condP v90 true (fun k91 =>
 binP .eql .other v51 v28 fun v92 =>
 condP v92 false (fun k93 =>
 binP .neq .other v51 v23 fun v94 =>
 k93 v94 h)
 (.bool true) h fun v95 h =>
 condP v95 false (fun k96 =>
 ldP 11 true v61 h fun v97 =>
 ldP 11 true v17 h fun v98 =>
 binP .eql (.shape (.st [(0, 1, .i), (1, 1, .i), (2, 1, .i), (3, 8, .st [(0, 1, .i), (1, 1, .i), (2, 1, .i), (3, 1, .i), (4, 1, .i), (5, 1, .i), (6, 1, .i), (7, 1, .i)])])) v97 v98 fun v99 =>
 k96 v99 h)
 (.bool true) h fun v100 h =>
 k91 v100 h)
 (.bool false) h fun v101 h =>
 K v101 h))))
theorem q_law9_RecordTorn (S : FuncId → List AVal → AHeap A → (AVal → AHeap A → Prop) → Prop) (G : Nat → AHeap A → List AVal → (List AVal → AHeap A → Prop) → Prop) (a0 a1 a2 a3 : AVal) (h : AHeap A) (K : AVal → AHeap A → Prop) : funP Try.prog S G Try.f4 (.two none .leaf (.two none .leaf (.two none .leaf (.two none .leaf (.two none .leaf (.two none .leaf (.two none .leaf (.two none .leaf (.two none .leaf (.two none .leaf (.two none .leaf (.two none (.draw none (.take 0 (.take 1 (.take 2 (.take 3 (.take 4 (.alt 5 (.alt 6 (.take 7 (.take 8 .stop)) .stop) .stop))))))) (.two none (.draw none (.take 0 (.take 1 (.take 2 (.take 3 (.take 4 (.take 5 (.take 6 (.take 7 .stop))))))))) .leaf))))))))))))) [a0, a1, a2, a3] h K = p_law9_RecordTorn S G a0 a1 a2 a3 h K := by kernel_rfl
theorem c_law9_RecordTorn {R : Adts A} {h : AHeap A} {K : AVal → AHeap A → Prop} {a0 a1 a2 a3 : AVal} (hk : p_law9_RecordTorn (Tri Pr R) (Gives Pr R) a0 a1 a2 a3 h K) : Tri Pr R n_law9_RecordTorn [a0, a1, a2, a3] h K :=
  tri_of_funP (by kernel_rfl) (fun _ _ _ _ h => h) (fun _ _ _ _ h => h) Try.func4 (by rw [q_law9_RecordTorn]; exact hk)
/-- bastion/bastionlaw9.RecordBack -/
def p_law9_RecordBack (S : FuncId → List AVal → AHeap A → (AVal → AHeap A → Prop) → Prop) (G : Nat → AHeap A → List AVal → (List AVal → AHeap A → Prop) → Prop) (a0 a1 a2 : AVal) (h : AHeap A) (K : AVal → AHeap A → Prop) : Prop :=
 boxP t_api_Record 11 a0 h fun v1 h =>
 S n_law9_awake [] h fun v2 h =>
 notP v2 fun v3 =>
 iteP v3
 (K (.bool false) h)
 (S n_law9_twin [.int .i64 9, .nils] h fun v4 h =>
 extP v4 0 fun v5 =>
 extP v4 1 fun v6 =>
 binP .eql .ptr v5 .nilp fun v7 =>
 iteP v7
 (K (.bool false) h)
 (ldP 11 true v1 h fun v8 =>
 S n_record_Put [v5, v8] h fun v9 h =>
 extP v9 0 fun v10 =>
 extP v9 1 fun v11 =>
 extP v9 2 fun v12 =>
 S n_law0_Num [v12] h fun v13 h =>
 binP .neq .other v13 (.int .i64 0) fun v14 =>
 iteP v14
 (binP .eql .other v10 (.str []) fun v15 =>
 condP v15 true (fun k16 =>
 binP .eql .other v11 (.int .i64 0) fun v17 =>
 k16 v17 h)
 (.bool false) h fun v18 h =>
 K v18 h)
 (lnsP v10 fun v19 =>
 binP .neq .other v19 (.int .i64 64) fun v20 =>
 iteP v20
 (K (.bool false) h)
 (fadP 0 v1 fun v21 =>
 ldP 1 false v21 h fun v22 =>
 fadP 2 v1 fun v23 =>
 ldP 1 false v23 h fun v24 =>
 S n_record_Get [v5, v10, v22, v24] h fun v25 h =>
 extP v25 0 fun v26 =>
 extP v25 1 fun v27 =>
 extP v25 2 fun v28 =>
 newP t_api_Record (reps 11 (.int .i64 0)) h fun v29 h =>
 stP 11 v29 v26 h fun h =>
 fadP 0 v1 fun v30 =>
 ldP 1 false v30 h fun v31 =>
 binP .add .other v31 (.int .i64 1) fun v32 =>
 fadP 2 v1 fun v33 =>
 ldP 1 false v33 h fun v34 =>
 S n_record_Get [v5, v10, v32, v34] h fun v35 h =>
 extP v35 0 fun v36 =>
 extP v35 1 fun v37 =>
 extP v35 2 fun v38 =>
 newP t_api_Record (reps 11 (.int .i64 0)) h fun v39 h =>
 stP 11 v39 v36 h fun h =>
 fadP 0 v1 fun v40 =>
 ldP 1 false v40 h fun v41 =>
 fadP 2 v1 fun v42 =>
 ldP 1 false v42 h fun v43 =>
 binP .add .other v43 (.int .i64 1) fun v44 =>
 S n_record_Get [v5, v10, v41, v44] h fun v45 h =>
 extP v45 0 fun v46 =>
 extP v45 1 fun v47 =>
 extP v45 2 fun v48 =>
 newP t_api_Record (reps 11 (.int .i64 0)) h fun v49 h =>
 stP 11 v49 v46 h fun h =>
 cviP .u64 a1 fun v50 =>
 binP .rem .other v50 (.int .u64 64) fun v51 =>
 cviP .i64 v51 fun v52 =>
 s2bP t_uint8 v10 h fun v53 h =>
 idxP 1 v53 v52 fun v54 =>
 ldP 1 false v54 h fun v55 =>
 binP .and .other a2 (.int .i64 127) fun v56 =>
 binP .add .other (.int .i64 1) v56 fun v57 =>
 cviP .u8 v57 fun v58 =>
 binP .xor .other v55 v58 fun v59 =>
 idxP 1 v53 v52 fun v60 =>
 stP 1 v60 v59 h fun h =>
 b2sP v53 h fun v61 =>
 fadP 0 v1 fun v62 =>
 ldP 1 false v62 h fun v63 =>
 fadP 2 v1 fun v64 =>
 ldP 1 false v64 h fun v65 =>
 S n_record_Get [v5, v61, v63, v65] h fun v66 h =>
 extP v66 0 fun v67 =>
 extP v66 1 fun v68 =>
 extP v66 2 fun v69 =>
 newP t_api_Record (reps 11 (.int .i64 0)) h fun v70 h =>
 stP 11 v70 v67 h fun h =>
 joinP G h.length (fun k71 =>
 subP v10 (some (.int .i64 1)) none fun v72 =>
 fadP 0 v1 fun v73 =>
 fadP 2 v1 fun v74 =>
 ldP 1 false v73 h fun v75 =>
 ldP 1 false v74 h fun v76 =>
 (S n_record_Get [v5, v72, v75, v76] h fun v77 h =>
 extP v77 0 fun v78 =>
 extP v77 1 fun v79 =>
 extP v77 2 fun v80 =>
 newP t_api_Record (reps 11 (.int .i64 0)) h fun v81 h =>
 stP 11 v81 v78 h fun h =>
 k71 [v80] h) ∧
 (newP t_api_Record (reps 11 (.int .i64 0)) h fun v82 h =>
 ldV 1 false v74 h = some v76 ∧
 ldV 1 false v73 h = some v75 ∧
 S n_record_Get [v5, v72, v75, v76] h fun v83 h =>
 extP v83 0 fun v84 =>
 extP v83 1 fun v85 =>
 extP v83 2 fun v86 =>
 stP 11 v82 v84 h fun h =>
 k71 [v86] h))
 (fun v118 h =>
 (fun v87 =>
 ldP 11 true v29 h fun v88 =>
 ldP 11 true v1 h fun v89 =>
 binP .eql (.shape (.st [(0, 1, .i), (1, 1, .i), (2, 1, .i), (3, 8, .st [(0, 1, .i), (1, 1, .i), (2, 1, .i), (3, 1, .i), (4, 1, .i), (5, 1, .i), (6, 1, .i), (7, 1, .i)])])) v88 v89 fun v90 =>
 condP v90 true (fun k91 =>
 binP .eql .other v27 v11 fun v92 =>
 k91 v92 h)
 (.bool false) h fun v93 h =>
 condP v93 true (fun k94 =>
 S n_law0_Num [v28] h fun v95 h =>
 binP .eql .other v95 (.int .i64 0) fun v96 =>
 k94 v96 h)
 (.bool false) h fun v97 h =>
 condP v97 true (fun k98 =>
 S n_law0_Num [v38] h fun v99 h =>
 binP .eql .other v99 (.int .i64 901) fun v100 =>
 k98 v100 h)
 (.bool false) h fun v101 h =>
 condP v101 true (fun k102 =>
 S n_law0_Num [v48] h fun v103 h =>
 binP .eql .other v103 (.int .i64 901) fun v104 =>
 k102 v104 h)
 (.bool false) h fun v105 h =>
 condP v105 true (fun k106 =>
 S n_law0_Num [v69] h fun v107 h =>
 binP .eql .other v107 (.int .i64 900) fun v108 =>
 k106 v108 h)
 (.bool false) h fun v109 h =>
 condP v109 true (fun k110 =>
 S n_law0_Num [v87] h fun v111 h =>
 binP .eql .other v111 (.int .i64 900) fun v112 =>
 k110 v112 h)
 (.bool false) h fun v113 h =>
 condP v113 true (fun k114 =>
 S n_book_Book_Len [v5] h fun v115 h =>
 binP .eql .other v115 (.int .i64 1) fun v116 =>
 k114 v116 h)
 (.bool false) h fun v117 h =>
 K v117 h) (v118.getD 0 .any))))))
theorem q_law9_RecordBack (S : FuncId → List AVal → AHeap A → (AVal → AHeap A → Prop) → Prop) (G : Nat → AHeap A → List AVal → (List AVal → AHeap A → Prop) → Prop) (a0 a1 a2 : AVal) (h : AHeap A) (K : AVal → AHeap A → Prop) : funP Try.prog S G Try.f5 (.two none .leaf (.two none .leaf (.two none .leaf (.two none .leaf (.two none .leaf (.two none .leaf (.two none .leaf (.two none .leaf (.two none .leaf (.two none .leaf (.two none .leaf (.two none .leaf (.two none .leaf (.two none .leaf (.two none (.draw (some [28]) (.take 0 (.take 1 (.take 2 (.take 3 (.take 5 (.load 4 (.load 6 (.alt 7 (.take 8 (.take 9 (.take 10 (.take 11 (.alt 12 (.alt 13 (.take 14 (.take 15 .stop)) .stop) .stop))))) (.alt 12 (.alt 7 (.take 8 (.take 9 (.take 10 (.take 11 (.alt 13 (.take 14 (.take 15 .stop)) .stop))))) .stop) .stop)))))))))) .leaf))))))))))))))) [a0, a1, a2] h K = p_law9_RecordBack S G a0 a1 a2 h K := by kernel_rfl
theorem c_law9_RecordBack {R : Adts A} {h : AHeap A} {K : AVal → AHeap A → Prop} {a0 a1 a2 : AVal} (hk : p_law9_RecordBack (Tri Pr R) (Gives Pr R) a0 a1 a2 h K) : Tri Pr R n_law9_RecordBack [a0, a1, a2] h K :=
  tri_of_funP (by kernel_rfl) (fun _ _ _ _ h => h) (fun _ _ _ _ h => h) Try.func5 (by rw [q_law9_RecordBack]; exact hk)
/-- bastion/bastionlaw9.RecordForms -/
def p_law9_RecordForms (S : FuncId → List AVal → AHeap A → (AVal → AHeap A → Prop) → Prop) (G : Nat → AHeap A → List AVal → (List AVal → AHeap A → Prop) → Prop) (a0 a1 : AVal) (h : AHeap A) (K : AVal → AHeap A → Prop) : Prop :=
 S n_law9_awake [] h fun v1 h =>
 notP v1 fun v2 =>
 iteP v2
 (K (.bool false) h)
 (binP .and .other a1 (.int .i64 1023) fun v3 =>
 binP .add .other (.int .i64 1) v3 fun v4 =>
 S n_book_New [.int .i64 1] h fun v5 h =>
 extP v5 0 fun v6 =>
 extP v5 1 fun v7 =>
 S n_law0_Num [v7] h fun v8 h =>
 binP .neq .other v8 (.int .i64 0) fun v9 =>
 condP v9 false (fun k10 =>
 binP .eql .ptr v6 .nilp fun v11 =>
 k10 v11 h)
 (.bool true) h fun v12 h =>
 iteP v12
 (K (.bool false) h)
 (bldP [.int .i64 0, .int .i64 0, .int .i64 0, .int .i64 0, .int .i64 0, .int .i64 0, .int .i64 0, .int .i64 0] [(0, 1, .int .i64 6), (2, 1, .int .i64 1073741823), (4, 1, .int .i64 1073741823), (5, 1, .int .i64 4), (7, 1, .int .i64 1048575)] fun v13 =>
 bldP [.int .i64 0, .int .i64 0, .int .i64 0, .int .i64 0, .int .i64 0, .int .i64 0, .int .i64 0, .int .i64 0, .int .i64 0, .int .i64 0, .int .i64 0] [(0, 1, .int .i64 1073741823), (1, 1, .int .i64 1073741823), (2, 1, .int .i64 1073741823), (3, 8, v13)] fun v14 =>
 newP t_api_Record (reps 11 (.int .i64 0)) h fun v15 h =>
 stP 11 v15 v14 h fun h =>
 ldP 11 true v15 h fun v16 =>
 S n_record_Put [v6, v16] h fun v17 h =>
 extP v17 0 fun v18 =>
 extP v17 1 fun v19 =>
 extP v17 2 fun v20 =>
 ldP 11 true v15 h fun v21 =>
 newP t_api_Record (reps 11 (.int .i64 0)) h fun v22 h =>
 stP 11 v22 v21 h fun h =>
 joinP G h.length (fun k23 =>
 cviP .u64 a0 fun v24 =>
 binP .rem .other v24 (.int .u64 9) fun v25 =>
 binP .eql .other v25 (.int .u64 0) fun v26 =>
 iteP v26
 (binP .sub .other (.int .i64 1) v4 fun v27 =>
 fadP 0 v22 fun v28 =>
 stP 1 v28 v27 h fun h =>
 k23 [] h)
 (binP .eql .other v25 (.int .u64 1) fun v29 =>
 iteP v29
 (binP .add .other (.int .i64 1073741823) v4 fun v30 =>
 fadP 0 v22 fun v31 =>
 stP 1 v31 v30 h fun h =>
 k23 [] h)
 (binP .eql .other v25 (.int .u64 2) fun v32 =>
 iteP v32
 (binP .sub .other (.int .i64 1) v4 fun v33 =>
 fadP 1 v22 fun v34 =>
 stP 1 v34 v33 h fun h =>
 k23 [] h)
 (binP .eql .other v25 (.int .u64 3) fun v35 =>
 iteP v35
 (binP .add .other (.int .i64 1073741823) v4 fun v36 =>
 fadP 1 v22 fun v37 =>
 stP 1 v37 v36 h fun h =>
 k23 [] h)
 (binP .eql .other v25 (.int .u64 4) fun v38 =>
 iteP v38
 (negP v4 fun v39 =>
 fadP 2 v22 fun v40 =>
 stP 1 v40 v39 h fun h =>
 k23 [] h)
 (binP .eql .other v25 (.int .u64 5) fun v41 =>
 iteP v41
 (binP .add .other (.int .i64 1073741823) v4 fun v42 =>
 fadP 2 v22 fun v43 =>
 stP 1 v43 v42 h fun h =>
 k23 [] h)
 (binP .eql .other v25 (.int .u64 6) fun v44 =>
 iteP v44
 (binP .add .other (.int .i64 9) v4 fun v45 =>
 fadP 3 v22 fun v46 =>
 fadP 0 v46 fun v47 =>
 stP 1 v47 v45 h fun h =>
 k23 [] h)
 (binP .eql .other v25 (.int .u64 7) fun v48 =>
 iteP v48
 (fadP 3 v22 fun v49 =>
 fadP 1 v49 fun v50 =>
 stP 1 v50 v4 h fun h =>
 k23 [] h)
 (binP .sub .other (.int .i64 1073741823) v4 fun v51 =>
 fadP 0 v22 fun v52 =>
 stP 1 v52 v51 h fun h =>
 k23 [] h)))))))))
 (fun _ h =>
 ldP 11 true v22 h fun v53 =>
 S n_record_Put [v6, v53] h fun v54 h =>
 extP v54 0 fun v55 =>
 extP v54 1 fun v56 =>
 extP v54 2 fun v57 =>
 S n_record_Get [v6, v18, .int .i64 1073741823, .int .i64 1073741823] h fun v58 h =>
 extP v58 0 fun v59 =>
 extP v58 1 fun v60 =>
 extP v58 2 fun v61 =>
 newP t_api_Record (reps 11 (.int .i64 0)) h fun v62 h =>
 stP 11 v62 v59 h fun h =>
 S n_law0_Num [v20] h fun v63 h =>
 binP .eql .other v63 (.int .i64 0) fun v64 =>
 condP v64 true (fun k65 =>
 binP .eql .other v19 (.int .i64 0) fun v66 =>
 k65 v66 h)
 (.bool false) h fun v67 h =>
 condP v67 true (fun k68 =>
 lnsP v18 fun v69 =>
 binP .eql .other v69 (.int .i64 64) fun v70 =>
 k68 v70 h)
 (.bool false) h fun v71 h =>
 condP v71 true (fun k72 =>
 binP .eql .other v55 (.str []) fun v73 =>
 k72 v73 h)
 (.bool false) h fun v74 h =>
 condP v74 true (fun k75 =>
 binP .eql .other v56 (.int .i64 0) fun v76 =>
 k75 v76 h)
 (.bool false) h fun v77 h =>
 condP v77 true (fun k78 =>
 S n_law0_Num [v57] h fun v79 h =>
 binP .eql .other v79 (.int .i64 900) fun v80 =>
 k78 v80 h)
 (.bool false) h fun v81 h =>
 condP v81 true (fun k82 =>
 ldP 11 true v62 h fun v83 =>
 ldP 11 true v15 h fun v84 =>
 binP .eql (.shape (.st [(0, 1, .i), (1, 1, .i), (2, 1, .i), (3, 8, .st [(0, 1, .i), (1, 1, .i), (2, 1, .i), (3, 1, .i), (4, 1, .i), (5, 1, .i), (6, 1, .i), (7, 1, .i)])])) v83 v84 fun v85 =>
 k82 v85 h)
 (.bool false) h fun v86 h =>
 condP v86 true (fun k87 =>
 binP .eql .other v60 (.int .i64 0) fun v88 =>
 k87 v88 h)
 (.bool false) h fun v89 h =>
 condP v89 true (fun k90 =>
 S n_law0_Num [v61] h fun v91 h =>
 binP .eql .other v91 (.int .i64 0) fun v92 =>
 k90 v92 h)
 (.bool false) h fun v93 h =>
 condP v93 true (fun k94 =>
 S n_book_Book_Len [v6] h fun v95 h =>
 binP .eql .other v95 (.int .i64 1) fun v96 =>
 k94 v96 h)
 (.bool false) h fun v97 h =>
 K v97 h)))
theorem q_law9_RecordForms (S : FuncId → List AVal → AHeap A → (AVal → AHeap A → Prop) → Prop) (G : Nat → AHeap A → List AVal → (List AVal → AHeap A → Prop) → Prop) (a0 a1 : AVal) (h : AHeap A) (K : AVal → AHeap A → Prop) : funP Try.prog S G Try.f6 (.two none .leaf (.two none .leaf (.two none .leaf (.two none .leaf (.two none .leaf (.two none .leaf (.two none .leaf (.two none .leaf (.two (some []) .leaf .leaf))))))))) [a0, a1] h K = p_law9_RecordForms S G a0 a1 h K := by kernel_rfl
theorem c_law9_RecordForms {R : Adts A} {h : AHeap A} {K : AVal → AHeap A → Prop} {a0 a1 : AVal} (hk : p_law9_RecordForms (Tri Pr R) (Gives Pr R) a0 a1 h K) : Tri Pr R n_law9_RecordForms [a0, a1] h K :=
  tri_of_funP (by kernel_rfl) (fun _ _ _ _ h => h) (fun _ _ _ _ h => h) Try.func6 (by rw [q_law9_RecordForms]; exact hk)
/-- bastion/bastionlaw9.Records -/
def p_law9_Records (S : FuncId → List AVal → AHeap A → (AVal → AHeap A → Prop) → Prop) (G : Nat → AHeap A → List AVal → (List AVal → AHeap A → Prop) → Prop) (a0 a1 a2 a3 a4 : AVal) (h : AHeap A) (K : AVal → AHeap A → Prop) : Prop :=
 S n_law9_twin [a0, .nils] h fun v1 h =>
 extP v1 0 fun v2 =>
 extP v1 1 fun v3 =>
 binP .eql .ptr v2 .nilp fun v4 =>
 condP v4 false (fun k5 =>
 binP .eql .ptr v3 .nilp fun v6 =>
 k5 v6 h)
 (.bool true) h fun v7 h =>
 iteP v7
 (S n_law9_awake [] h fun v8 h =>
 K v8 h)
 (loopP G (fun v83 h k10 =>
 (fun v9 =>
 lenP a1 fun v11 =>
 binP .lss .other v9 v11 fun v12 =>
 condP v12 true (fun k13 =>
 binP .lss .other v9 (.int .i64 20) fun v14 =>
 k13 v14 h)
 (.bool false) h fun v15 h =>
 iteP v15
 (idxP 11 a1 v9 fun v16 =>
 ldP 11 true v16 h fun v17 =>
 S n_record_Put [v2, v17] h fun v18 h =>
 extP v18 0 fun v19 =>
 extP v18 1 fun v20 =>
 extP v18 2 fun v21 =>
 idxP 11 a1 v9 fun v22 =>
 ldP 11 true v22 h fun v23 =>
 S n_ref1_PutRecord [v3, v23] h fun v24 h =>
 extP v24 0 fun v25 =>
 extP v24 1 fun v26 =>
 extP v24 2 fun v27 =>
 binP .neq .other v19 v25 fun v28 =>
 condP v28 false (fun k29 =>
 binP .neq .other v20 v26 fun v30 =>
 k29 v30 h)
 (.bool true) h fun v31 h =>
 condP v31 false (fun k32 =>
 S n_law0_Num [v21] h fun v33 h =>
 binP .neq .other v33 v27 fun v34 =>
 k32 v34 h)
 (.bool true) h fun v35 h =>
 iteP v35
 (K (.bool false) h)
 (S n_record_Get [v2, v19, a3, a4] h fun v36 h =>
 extP v36 0 fun v37 =>
 extP v36 1 fun v38 =>
 extP v36 2 fun v39 =>
 newP t_api_Record (reps 11 (.int .i64 0)) h fun v40 h =>
 stP 11 v40 v37 h fun h =>
 S n_ref1_GetRecord [v3, v25, a3, a4] h fun v41 h =>
 extP v41 0 fun v42 =>
 extP v41 1 fun v43 =>
 extP v41 2 fun v44 =>
 newP t_api_Record (reps 11 (.int .i64 0)) h fun v45 h =>
 stP 11 v45 v42 h fun h =>
 ldP 11 true v40 h fun v46 =>
 ldP 11 true v45 h fun v47 =>
 binP .neq (.shape (.st [(0, 1, .i), (1, 1, .i), (2, 1, .i), (3, 8, .st [(0, 1, .i), (1, 1, .i), (2, 1, .i), (3, 1, .i), (4, 1, .i), (5, 1, .i), (6, 1, .i), (7, 1, .i)])])) v46 v47 fun v48 =>
 condP v48 false (fun k49 =>
 binP .neq .other v38 v43 fun v50 =>
 k49 v50 h)
 (.bool true) h fun v51 h =>
 condP v51 false (fun k52 =>
 S n_law0_Num [v39] h fun v53 h =>
 binP .neq .other v53 v44 fun v54 =>
 k52 v54 h)
 (.bool true) h fun v55 h =>
 iteP v55
 (K (.bool false) h)
 (binP .add .other v9 (.int .i64 1) fun v56 =>
 k10 [v56] h)))
 (S n_record_Get [v2, a2, a3, a4] h fun v57 h =>
 extP v57 0 fun v58 =>
 extP v57 1 fun v59 =>
 extP v57 2 fun v60 =>
 newP t_api_Record (reps 11 (.int .i64 0)) h fun v61 h =>
 stP 11 v61 v58 h fun h =>
 S n_ref1_GetRecord [v3, a2, a3, a4] h fun v62 h =>
 extP v62 0 fun v63 =>
 extP v62 1 fun v64 =>
 extP v62 2 fun v65 =>
 newP t_api_Record (reps 11 (.int .i64 0)) h fun v66 h =>
 stP 11 v66 v63 h fun h =>
 ldP 11 true v61 h fun v67 =>
 ldP 11 true v66 h fun v68 =>
 binP .eql (.shape (.st [(0, 1, .i), (1, 1, .i), (2, 1, .i), (3, 8, .st [(0, 1, .i), (1, 1, .i), (2, 1, .i), (3, 1, .i), (4, 1, .i), (5, 1, .i), (6, 1, .i), (7, 1, .i)])])) v67 v68 fun v69 =>
 condP v69 true (fun k70 =>
 binP .eql .other v59 v64 fun v71 =>
 k70 v71 h)
 (.bool false) h fun v72 h =>
 condP v72 true (fun k73 =>
 S n_law0_Num [v60] h fun v74 h =>
 binP .eql .other v74 v65 fun v75 =>
 k73 v75 h)
 (.bool false) h fun v76 h =>
 condP v76 true (fun k77 =>
 S n_law9_sameBooks [v2, v3] h fun v78 h =>
 k77 v78 h)
 (.bool false) h fun v79 h =>
 condP v79 true (fun k80 =>
 S n_law9_awake [] h fun v81 h =>
 k80 v81 h)
 (.bool false) h fun v82 h =>
 K v82 h)) (v83.getD 0 .any)) [.int .i64 0] h)
theorem q_law9_Records (S : FuncId → List AVal → AHeap A → (AVal → AHeap A → Prop) → Prop) (G : Nat → AHeap A → List AVal → (List AVal → AHeap A → Prop) → Prop) (a0 a1 a2 a3 a4 : AVal) (h : AHeap A) (K : AVal → AHeap A → Prop) : funP Try.prog S G Try.f7 (.two none .leaf (.two none .leaf (.two none .leaf (.two none (.two none .leaf (.one [] (.one [13] .leaf))) .leaf)))) [a0, a1, a2, a3, a4] h K = p_law9_Records S G a0 a1 a2 a3 a4 h K := by kernel_rfl
theorem c_law9_Records {R : Adts A} {h : AHeap A} {K : AVal → AHeap A → Prop} {a0 a1 a2 a3 a4 : AVal} (hk : p_law9_Records (Tri Pr R) (Gives Pr R) a0 a1 a2 a3 a4 h K) : Tri Pr R n_law9_Records [a0, a1, a2, a3, a4] h K :=
  tri_of_funP (by kernel_rfl) (fun _ _ _ _ h => h) (fun _ _ _ _ h => h) Try.func7 (by rw [q_law9_Records]; exact hk)
end Go.AI
