/- The functions as texts over the abstract heap. -/
import Derived.Test.YtlhmikjjnndjcaaNm
import Derived.KernelRfl
set_option linter.all false
namespace Go.AI
open Go.Proofs
set_option maxRecDepth 1000000
variable {A : Type}
/-- bastion/bastionlaw8.DiskForms -/
def p_law8_DiskForms (S : FuncId → List AVal → AHeap A → (AVal → AHeap A → Prop) → Prop) (G : Nat → AHeap A → List AVal → (List AVal → AHeap A → Prop) → Prop) (a0 a1 : AVal) (h : AHeap A) (K : AVal → AHeap A → Prop) : Prop :=
 S n_law8_awake [] h fun v1 h =>
 notP v1 fun v2 =>
 iteP v2
 (K (.bool false) h)
 (binP .and .other a1 (.int .i64 1023) fun v3 =>
 binP .add .other (.int .i64 1) v3 fun v4 =>
 binP .sub .other (.int .i64 1) v4 fun v5 =>
 S n_disk_New [v5] h fun v6 h =>
 extP v6 0 fun v7 =>
 extP v6 1 fun v8 =>
 binP .add .other (.int .i64 256) v4 fun v9 =>
 S n_disk_New [v9] h fun v10 h =>
 extP v10 0 fun v11 =>
 extP v10 1 fun v12 =>
 S n_disk_New [.int .i64 3] h fun v13 h =>
 extP v13 0 fun v14 =>
 extP v13 1 fun v15 =>
 S n_law0_Num [v15] h fun v16 h =>
 binP .neq .other v16 (.int .i64 0) fun v17 =>
 condP v17 false (fun k18 =>
 binP .eql .ptr v14 .nilp fun v19 =>
 k18 v19 h)
 (.bool true) h fun v20 h =>
 iteP v20
 (K (.bool false) h)
 (S n_law8_sectorOf [.str [107, 101, 112, 116]] h fun v21 h =>
 S n_disk_Disk_Write [v14, .int .i64 1, v21] h fun v22 h =>
 S n_disk_Disk_Flush [v14] h fun v23 h =>
 joinP G h.length (fun k24 =>
 cviP .u64 a0 fun v25 =>
 binP .rem .other v25 (.int .u64 9) fun v26 =>
 binP .eql .other v26 (.int .u64 0) fun v27 =>
 iteP v27
 (binP .add .other (.int .i64 2) v4 fun v28 =>
 S n_law8_sectorOf [.str []] h fun v29 h =>
 S n_disk_Disk_Write [v14, v28, v29] h fun v30 h =>
 S n_law0_Num [v30] h fun v31 h =>
 k24 [v31] h)
 (binP .eql .other v26 (.int .u64 1) fun v32 =>
 iteP v32
 (negP v4 fun v33 =>
 S n_law8_sectorOf [.str []] h fun v34 h =>
 S n_disk_Disk_Write [v14, v33, v34] h fun v35 h =>
 S n_law0_Num [v35] h fun v36 h =>
 k24 [v36] h)
 (binP .eql .other v26 (.int .u64 2) fun v37 =>
 iteP v37
 (S n_disk_Disk_Write [v14, .int .i64 1, .str [115, 104, 111, 114, 116]] h fun v38 h =>
 S n_law0_Num [v38] h fun v39 h =>
 k24 [v39] h)
 (binP .eql .other v26 (.int .u64 3) fun v40 =>
 iteP v40
 (S n_law8_sectorOf [.str []] h fun v41 h =>
 binP .add .other v41 (.str [120]) fun v42 =>
 S n_disk_Disk_Write [v14, .int .i64 1, v42] h fun v43 h =>
 S n_law0_Num [v43] h fun v44 h =>
 k24 [v44] h)
 (binP .eql .other v26 (.int .u64 4) fun v45 =>
 iteP v45
 (binP .add .other (.int .i64 2) v4 fun v46 =>
 S n_disk_Disk_Read [v14, v46] h fun v47 h =>
 extP v47 0 fun v48 =>
 extP v47 1 fun v49 =>
 S n_law0_Num [v49] h fun v50 h =>
 k24 [v50] h)
 (binP .eql .other v26 (.int .u64 5) fun v51 =>
 iteP v51
 (negP v4 fun v52 =>
 S n_disk_Disk_Read [v14, v52] h fun v53 h =>
 extP v53 0 fun v54 =>
 extP v53 1 fun v55 =>
 S n_law0_Num [v55] h fun v56 h =>
 k24 [v56] h)
 (binP .eql .other v26 (.int .u64 6) fun v57 =>
 iteP v57
 (negP v4 fun v58 =>
 S n_disk_Disk_Crash [v14, v58, .int .i64 0] h fun v59 h =>
 S n_law0_Num [v59] h fun v60 h =>
 k24 [v60] h)
 (binP .eql .other v26 (.int .u64 7) fun v61 =>
 iteP v61
 (negP v4 fun v62 =>
 S n_disk_Disk_Crash [v14, .int .i64 0, v62] h fun v63 h =>
 S n_law0_Num [v63] h fun v64 h =>
 k24 [v64] h)
 (S n_disk_Disk_Restart [v14] h fun v65 h =>
 S n_law0_Num [v65] h fun v66 h =>
 k24 [v66] h)))))))))
 (fun v124 h =>
 (fun v67 =>
 S n_disk_Disk_Read [v14, .int .i64 1] h fun v68 h =>
 extP v68 0 fun v69 =>
 extP v68 1 fun v70 =>
 S n_disk_Disk_Crash [v14, .int .i64 0, .int .i64 0] h fun v71 h =>
 S n_law8_sectorOf [.str []] h fun v72 h =>
 S n_disk_Disk_Write [v14, .int .i64 1, v72] h fun v73 h =>
 S n_disk_Disk_Flush [v14] h fun v74 h =>
 S n_disk_Disk_Crash [v14, .int .i64 0, .int .i64 0] h fun v75 h =>
 S n_disk_Disk_Restart [v14] h fun v76 h =>
 S n_disk_Disk_Read [v14, .int .i64 1] h fun v77 h =>
 extP v77 0 fun v78 =>
 extP v77 1 fun v79 =>
 S n_law0_Num [v8] h fun v80 h =>
 binP .eql .other v80 (.int .i64 800) fun v81 =>
 condP v81 true (fun k82 =>
 S n_law0_Num [v12] h fun v83 h =>
 binP .eql .other v83 (.int .i64 800) fun v84 =>
 k82 v84 h)
 (.bool false) h fun v85 h =>
 condP v85 true (fun k86 =>
 binP .eql .other v67 (.int .i64 800) fun v87 =>
 k86 v87 h)
 (.bool false) h fun v88 h =>
 condP v88 true (fun k89 =>
 S n_law8_sectorOf [.str [107, 101, 112, 116]] h fun v90 h =>
 binP .eql .other v69 v90 fun v91 =>
 k89 v91 h)
 (.bool false) h fun v92 h =>
 condP v92 true (fun k93 =>
 S n_law0_Num [v70] h fun v94 h =>
 binP .eql .other v94 (.int .i64 0) fun v95 =>
 k93 v95 h)
 (.bool false) h fun v96 h =>
 condP v96 true (fun k97 =>
 S n_law0_Num [v71] h fun v98 h =>
 binP .eql .other v98 (.int .i64 0) fun v99 =>
 k97 v99 h)
 (.bool false) h fun v100 h =>
 condP v100 true (fun k101 =>
 S n_law0_Num [v73] h fun v102 h =>
 binP .eql .other v102 (.int .i64 801) fun v103 =>
 k101 v103 h)
 (.bool false) h fun v104 h =>
 condP v104 true (fun k105 =>
 S n_law0_Num [v74] h fun v106 h =>
 binP .eql .other v106 (.int .i64 801) fun v107 =>
 k105 v107 h)
 (.bool false) h fun v108 h =>
 condP v108 true (fun k109 =>
 S n_law0_Num [v75] h fun v110 h =>
 binP .eql .other v110 (.int .i64 801) fun v111 =>
 k109 v111 h)
 (.bool false) h fun v112 h =>
 condP v112 true (fun k113 =>
 S n_law0_Num [v76] h fun v114 h =>
 binP .eql .other v114 (.int .i64 0) fun v115 =>
 k113 v115 h)
 (.bool false) h fun v116 h =>
 condP v116 true (fun k117 =>
 binP .eql .other v78 v69 fun v118 =>
 k117 v118 h)
 (.bool false) h fun v119 h =>
 condP v119 true (fun k120 =>
 S n_law0_Num [v79] h fun v121 h =>
 binP .eql .other v121 (.int .i64 0) fun v122 =>
 k120 v122 h)
 (.bool false) h fun v123 h =>
 K v123 h) (v124.getD 0 .any))))
theorem q_law8_DiskForms (S : FuncId → List AVal → AHeap A → (AVal → AHeap A → Prop) → Prop) (G : Nat → AHeap A → List AVal → (List AVal → AHeap A → Prop) → Prop) (a0 a1 : AVal) (h : AHeap A) (K : AVal → AHeap A → Prop) : funP Try.prog S G Try.f11 (.two none .leaf (.two none .leaf (.two none .leaf (.two none .leaf (.two none .leaf (.two none .leaf (.two none .leaf (.two none .leaf (.two none .leaf (.two none .leaf (.two (some [12]) .leaf .leaf))))))))))) [a0, a1] h K = p_law8_DiskForms S G a0 a1 h K := by kernel_rfl
theorem c_law8_DiskForms {R : Adts A} {h : AHeap A} {K : AVal → AHeap A → Prop} {a0 a1 : AVal} (hk : p_law8_DiskForms (Tri Pr R) (Gives Pr R) a0 a1 h K) : Tri Pr R n_law8_DiskForms [a0, a1] h K :=
  tri_of_funP (by kernel_rfl) (fun _ _ _ _ h => h) (fun _ _ _ _ h => h) Try.func11 (by rw [q_law8_DiskForms]; exact hk)
/-- bastion/bastionlaw8.DiskKeeps -/
def p_law8_DiskKeeps (S : FuncId → List AVal → AHeap A → (AVal → AHeap A → Prop) → Prop) (G : Nat → AHeap A → List AVal → (List AVal → AHeap A → Prop) → Prop) (a0 a1 a2 a3 : AVal) (h : AHeap A) (K : AVal → AHeap A → Prop) : Prop :=
 S n_law8_awake [] h fun v1 h =>
 notP v1 fun v2 =>
 iteP v2
 (K (.bool false) h)
 (S n_disk_New [.int .i64 4] h fun v3 h =>
 extP v3 0 fun v4 =>
 extP v3 1 fun v5 =>
 S n_law0_Num [v5] h fun v6 h =>
 binP .neq .other v6 (.int .i64 0) fun v7 =>
 condP v7 false (fun k8 =>
 binP .eql .ptr v4 .nilp fun v9 =>
 k8 v9 h)
 (.bool true) h fun v10 h =>
 iteP v10
 (K (.bool false) h)
 (newP t_arr4_string [.str [], .str [], .str [], .str []] h fun v11 h =>
 loopP G (fun v119 h k13 =>
 (fun v12 =>
 binP .lss .other v12 (.int .i64 4) fun v14 =>
 iteP v14
 (S n_law8_sectorOf [.str []] h fun v15 h =>
 ixaP 4 1 v11 v12 fun v16 =>
 stP 1 v16 v15 h fun h =>
 binP .add .other v12 (.int .i64 1) fun v17 =>
 k13 [v17] h)
 (lenP a0 fun v18 =>
 minP [v18, .int .i64 20] fun v19 =>
 cviP .u64 a1 fun v20 =>
 binP .add .other v19 (.int .i64 1) fun v21 =>
 cviP .u64 v21 fun v22 =>
 binP .rem .other v20 v22 fun v23 =>
 cviP .i64 v23 fun v24 =>
 loopP G (fun v118 h k28 =>
 (fun v25 v26 v27 =>
 binP .lss .other v27 v19 fun v29 =>
 iteP v29
 (joinP G h.length (fun k30 =>
 idxP 1 a0 v27 fun v31 =>
 ldP 1 false v31 h fun v32 =>
 binP .and .other v32 (.int .i64 3) fun v33 =>
 S n_ref0_Decimal [v27] h fun v34 h =>
 binP .add .other (.str [119]) v34 fun v35 =>
 S n_law8_sectorOf [v35] h fun v36 h =>
 S n_disk_Disk_Write [v4, v33, v36] h fun v37 h =>
 S n_law0_Num [v37] h fun v38 h =>
 binP .neq .other v38 (.int .i64 0) fun v39 =>
 iteP v39
 (K (.bool false) h)
 (binP .lss .other v27 v24 fun v40 =>
 iteP v40
 (S n_disk_Disk_Flush [v4] h fun v41 h =>
 ixaP 4 1 v11 v33 fun v42 =>
 stP 1 v42 v36 h fun h =>
 S n_law0_Num [v41] h fun v43 h =>
 binP .neq .other v43 (.int .i64 0) fun v44 =>
 iteP v44
 (K (.bool false) h)
 (k30 [v25, v26] h))
 (bslP t_int 1 [.int .i64 0] [(0, 1, v33)] h fun v45 h =>
 appP t_int 1 8 v25 v45 h fun v46 h =>
 bslP t_string 1 [.str []] [(0, 1, v36)] h fun v47 h =>
 appP t_string 1 16 v26 v47 h fun v48 h =>
 k30 [v46, v48] h)))
 (fun v52 h =>
 (fun v49 v50 =>
 binP .add .other v27 (.int .i64 1) fun v51 =>
 k28 [v49, v50, v51] h) (v52.getD 0 .any) (v52.getD 1 .any)))
 (S n_disk_Disk_Waits [v4] h fun v53 h =>
 lenP v25 fun v54 =>
 binP .neq .other v53 v54 fun v55 =>
 iteP v55
 (K (.bool false) h)
 (binP .and .other a2 (.int .i64 1073741823) fun v56 =>
 binP .and .other a3 (.int .i64 127) fun v57 =>
 S n_disk_Disk_Crash [v4, v56, v57] h fun v58 h =>
 S n_disk_Disk_Restart [v4] h fun v59 h =>
 loopP G (fun v117 h k62 =>
 (fun v60 v61 =>
 lenP v25 fun v63 =>
 binP .lss .other v61 v63 fun v64 =>
 iteP v64
 (joinP G h.length (fun k65 =>
 cviP .u64 v61 fun v66 =>
 binP .shr .other v56 v66 fun v67 =>
 binP .and .other v67 (.int .i64 1) fun v68 =>
 binP .eql .other v68 (.int .i64 1) fun v69 =>
 iteP v69
 (idxP 1 v25 v61 fun v70 =>
 idxP 1 v26 v61 fun v71 =>
 ldP 1 false v70 h fun v72 =>
 ldP 1 false v71 h fun v73 =>
 ldV 1 false v70 h = some v72 ∧
 ixaP 4 1 v11 v72 fun v74 =>
 stP 1 v74 v73 h fun h =>
 k65 [v60] h)
 (notP v60 fun v75 =>
 iteP v75
 (minP [v57, .int .i64 64] fun v76 =>
 idxP 1 v25 v61 fun v77 =>
 idxP 1 v26 v61 fun v78 =>
 idxP 1 v25 v61 fun v79 =>
 ldP 1 false v77 h fun v80 =>
 ldP 1 false v78 h fun v81 =>
 subP v81 none (some v76) fun v82 =>
 ldP 1 false v79 h fun v83 =>
 ldV 1 false v78 h = some v81 ∧
 ldV 1 false v77 h = some v80 ∧
 ixaP 4 1 v11 v83 fun v84 =>
 ldP 1 false v84 h fun v85 =>
 ldV 1 false v78 h = some v81 ∧
 ldV 1 false v77 h = some v80 ∧
 subP v85 (some v76) none fun v86 =>
 binP .add .other v82 v86 fun v87 =>
 ixaP 4 1 v11 v80 fun v88 =>
 stP 1 v88 v87 h fun h =>
 k65 [.bool true] h)
 (k65 [v60] h)))
 (fun v91 h =>
 (fun v89 =>
 binP .add .other v61 (.int .i64 1) fun v90 =>
 k62 [v89, v90] h) (v91.getD 0 .any)))
 (loopP G (fun v116 h k93 =>
 (fun v92 =>
 binP .lss .other v92 (.int .i64 4) fun v94 =>
 iteP v94
 (S n_disk_Disk_Read [v4, v92] h fun v95 h =>
 extP v95 0 fun v96 =>
 extP v95 1 fun v97 =>
 S n_law0_Num [v97] h fun v98 h =>
 binP .neq .other v98 (.int .i64 0) fun v99 =>
 condP v99 false (fun k100 =>
 ixaP 4 1 v11 v92 fun v101 =>
 ldP 1 false v101 h fun v102 =>
 binP .neq .other v96 v102 fun v103 =>
 k100 v103 h)
 (.bool true) h fun v104 h =>
 iteP v104
 (K (.bool false) h)
 (binP .add .other v92 (.int .i64 1) fun v105 =>
 k93 [v105] h))
 (S n_law0_Num [v58] h fun v106 h =>
 binP .eql .other v106 (.int .i64 0) fun v107 =>
 condP v107 true (fun k108 =>
 S n_law0_Num [v59] h fun v109 h =>
 binP .eql .other v109 (.int .i64 0) fun v110 =>
 k108 v110 h)
 (.bool false) h fun v111 h =>
 condP v111 true (fun k112 =>
 S n_disk_Disk_Waits [v4] h fun v113 h =>
 binP .eql .other v113 (.int .i64 0) fun v114 =>
 k112 v114 h)
 (.bool false) h fun v115 h =>
 K v115 h)) (v116.getD 0 .any)) [.int .i64 0] h)) (v117.getD 0 .any) (v117.getD 1 .any)) [.bool false, .int .i64 0] h))) (v118.getD 0 .any) (v118.getD 1 .any) (v118.getD 2 .any)) [.nils, .nils, .int .i64 0] h)) (v119.getD 0 .any)) [.int .i64 0] h))
theorem q_law8_DiskKeeps (S : FuncId → List AVal → AHeap A → (AVal → AHeap A → Prop) → Prop) (G : Nat → AHeap A → List AVal → (List AVal → AHeap A → Prop) → Prop) (a0 a1 a2 a3 : AVal) (h : AHeap A) (K : AVal → AHeap A → Prop) : funP Try.prog S G Try.f12 (.two none .leaf (.two none .leaf (.two none .leaf (.two none .leaf (.two none .leaf (.two none (.two none .leaf (.one [] (.one [12] .leaf))) (.two none .leaf (.two none .leaf (.two none .leaf (.two none .leaf (.two none (.two none .leaf (.one [] (.one [13, 14, 17] (.two none .leaf (.two (some [13, 14]) .leaf .leaf))))) (.two none .leaf (.two none .leaf (.two none .leaf (.two none .leaf (.two none .leaf (.two none (.two none .leaf (.one [] (.one [26, 27] (.two none .leaf (.two (some [26]) (.one [] (.two none .leaf (.two none (.draw none (.take 0 (.take 1 (.take 2 (.take 4 (.take 5 (.take 6 (.load 3 (.alt 7 (.take 8 (.alt 9 .stop .stop)) .stop))))))))) (.two none .leaf (.two none (.two none .leaf (.two none (.draw none (.take 0 (.take 1 (.take 2 (.take 4 (.take 5 (.take 6 (.take 8 (.take 10 (.take 11 (.take 12 (.take 16 (.load 3 (.load 7 (.take 9 (.alt 13 (.take 14 (.alt 15 (.take 17 (.take 18 (.take 19 (.alt 20 .stop .stop)))) .stop)) .stop)))))))))))))))) .leaf)) .leaf))))) .leaf))))) (.two none (.two none .leaf (.one [] (.one [29] .leaf))) .leaf)))))))))))))))))) [a0, a1, a2, a3] h K = p_law8_DiskKeeps S G a0 a1 a2 a3 h K := by kernel_rfl
theorem c_law8_DiskKeeps {R : Adts A} {h : AHeap A} {K : AVal → AHeap A → Prop} {a0 a1 a2 a3 : AVal} (hk : p_law8_DiskKeeps (Tri Pr R) (Gives Pr R) a0 a1 a2 a3 h K) : Tri Pr R n_law8_DiskKeeps [a0, a1, a2, a3] h K :=
  tri_of_funP (by kernel_rfl) (fun _ _ _ _ h => h) (fun _ _ _ _ h => h) Try.func12 (by rw [q_law8_DiskKeeps]; exact hk)
/-- bastion/bastionlaw8.DiskLast -/
def p_law8_DiskLast (S : FuncId → List AVal → AHeap A → (AVal → AHeap A → Prop) → Prop) (G : Nat → AHeap A → List AVal → (List AVal → AHeap A → Prop) → Prop) (a0 : AVal) (h : AHeap A) (K : AVal → AHeap A → Prop) : Prop :=
 S n_law8_awake [] h fun v1 h =>
 notP v1 fun v2 =>
 iteP v2
 (K (.bool false) h)
 (S n_disk_New [.int .i64 8] h fun v3 h =>
 extP v3 0 fun v4 =>
 extP v3 1 fun v5 =>
 S n_law0_Num [v5] h fun v6 h =>
 binP .neq .other v6 (.int .i64 0) fun v7 =>
 condP v7 false (fun k8 =>
 binP .eql .ptr v4 .nilp fun v9 =>
 k8 v9 h)
 (.bool true) h fun v10 h =>
 iteP v10
 (K (.bool false) h)
 (newP t_arr8_string [.str [], .str [], .str [], .str [], .str [], .str [], .str [], .str []] h fun v11 h =>
 loopP G (fun v69 h k13 =>
 (fun v12 =>
 binP .lss .other v12 (.int .i64 8) fun v14 =>
 iteP v14
 (S n_law8_sectorOf [.str []] h fun v15 h =>
 ixaP 8 1 v11 v12 fun v16 =>
 stP 1 v16 v15 h fun h =>
 binP .add .other v12 (.int .i64 1) fun v17 =>
 k13 [v17] h)
 (loopP G (fun v68 h k20 =>
 (fun v18 v19 =>
 lenP a0 fun v21 =>
 binP .lss .other v19 v21 fun v22 =>
 condP v22 true (fun k23 =>
 binP .lss .other v19 (.int .i64 50) fun v24 =>
 k23 v24 h)
 (.bool false) h fun v25 h =>
 iteP v25
 (idxP 1 a0 v19 fun v26 =>
 ldP 1 false v26 h fun v27 =>
 binP .and .other v27 (.int .i64 7) fun v28 =>
 joinP G h.length (fun k29 =>
 idxP 1 a0 v19 fun v30 =>
 ldP 1 false v30 h fun v31 =>
 binP .shr .other v31 (.int .u64 3) fun v32 =>
 binP .and .other v32 (.int .i64 7) fun v33 =>
 binP .eql .other v33 (.int .i64 7) fun v34 =>
 iteP v34
 (S n_disk_Disk_Flush [v4] h fun v35 h =>
 S n_law0_Num [v35] h fun v36 h =>
 binP .neq .other v36 (.int .i64 0) fun v37 =>
 iteP v37
 (K (.bool false) h)
 (k29 [.int .i64 0] h))
 (S n_ref0_Decimal [v19] h fun v38 h =>
 binP .add .other (.str [118]) v38 fun v39 =>
 S n_law8_sectorOf [v39] h fun v40 h =>
 ixaP 8 1 v11 v28 fun v41 =>
 stP 1 v41 v40 h fun h =>
 ixaP 8 1 v11 v28 fun v42 =>
 ldP 1 false v42 h fun v43 =>
 S n_disk_Disk_Write [v4, v28, v43] h fun v44 h =>
 binP .add .other v18 (.int .i64 1) fun v45 =>
 S n_law0_Num [v44] h fun v46 h =>
 binP .neq .other v46 (.int .i64 0) fun v47 =>
 iteP v47
 (K (.bool false) h)
 (k29 [v45] h)))
 (fun v67 h =>
 (fun v48 =>
 loopP G (fun v66 h k50 =>
 (fun v49 =>
 binP .lss .other v49 (.int .i64 8) fun v51 =>
 iteP v51
 (S n_disk_Disk_Read [v4, v49] h fun v52 h =>
 extP v52 0 fun v53 =>
 extP v52 1 fun v54 =>
 S n_law0_Num [v54] h fun v55 h =>
 binP .neq .other v55 (.int .i64 0) fun v56 =>
 condP v56 false (fun k57 =>
 ixaP 8 1 v11 v49 fun v58 =>
 ldP 1 false v58 h fun v59 =>
 binP .neq .other v53 v59 fun v60 =>
 k57 v60 h)
 (.bool true) h fun v61 h =>
 iteP v61
 (K (.bool false) h)
 (binP .add .other v49 (.int .i64 1) fun v62 =>
 k50 [v62] h))
 (S n_disk_Disk_Waits [v4] h fun v63 h =>
 binP .neq .other v63 v48 fun v64 =>
 iteP v64
 (K (.bool false) h)
 (binP .add .other v19 (.int .i64 1) fun v65 =>
 k20 [v48, v65] h))) (v66.getD 0 .any)) [.int .i64 0] h) (v67.getD 0 .any)))
 (K (.bool true) h)) (v68.getD 0 .any) (v68.getD 1 .any)) [.int .i64 0, .int .i64 0] h)) (v69.getD 0 .any)) [.int .i64 0] h))
theorem q_law8_DiskLast (S : FuncId → List AVal → AHeap A → (AVal → AHeap A → Prop) → Prop) (G : Nat → AHeap A → List AVal → (List AVal → AHeap A → Prop) → Prop) (a0 : AVal) (h : AHeap A) (K : AVal → AHeap A → Prop) : funP Try.prog S G Try.f13 (.two none .leaf (.two none .leaf (.two none .leaf (.two none .leaf (.two none .leaf (.two none (.two none .leaf (.one [] (.one [6] .leaf))) (.two none .leaf (.two none (.two none .leaf (.one [] (.one [7, 8] (.two none .leaf (.two none (.one [] (.two none .leaf (.two (some [7]) .leaf (.two none (.two none .leaf (.one [] (.one [12] .leaf))) .leaf)))) .leaf))))) .leaf)))))))) [a0] h K = p_law8_DiskLast S G a0 h K := by kernel_rfl
theorem c_law8_DiskLast {R : Adts A} {h : AHeap A} {K : AVal → AHeap A → Prop} {a0 : AVal} (hk : p_law8_DiskLast (Tri Pr R) (Gives Pr R) a0 h K) : Tri Pr R n_law8_DiskLast [a0] h K :=
  tri_of_funP (by kernel_rfl) (fun _ _ _ _ h => h) (fun _ _ _ _ h => h) Try.func13 (by rw [q_law8_DiskLast]; exact hk)
/-- bastion/bastionlaw14.Rings -/
def p_law14_Rings (S : FuncId → List AVal → AHeap A → (AVal → AHeap A → Prop) → Prop) (G : Nat → AHeap A → List AVal → (List AVal → AHeap A → Prop) → Prop) (a0 a1 a2 a3 : AVal) (h : AHeap A) (K : AVal → AHeap A → Prop) : Prop :=
 S n_law14_twin [a0, .nils] h fun v1 h =>
 extP v1 0 fun v2 =>
 extP v1 1 fun v3 =>
 binP .eql .ptr v2 .nilp fun v4 =>
 condP v4 false (fun k5 =>
 binP .eql .ptr v3 .nilp fun v6 =>
 k5 v6 h)
 (.bool true) h fun v7 h =>
 iteP v7
 (S n_law14_awake [] h fun v8 h =>
 K v8 h)
 (loopP G (fun v44 h k10 =>
 (fun v9 =>
 lenP a1 fun v11 =>
 binP .lss .other v9 v11 fun v12 =>
 condP v12 true (fun k13 =>
 binP .lss .other v9 (.int .i64 20) fun v14 =>
 k13 v14 h)
 (.bool false) h fun v15 h =>
 iteP v15
 (idxP 1 a1 v9 fun v16 =>
 ldP 1 false v16 h fun v17 =>
 S n_ring_Key [v2, v17] h fun v18 h =>
 extP v18 0 fun v19 =>
 extP v18 1 fun v20 =>
 idxP 1 a1 v9 fun v21 =>
 ldP 1 false v21 h fun v22 =>
 S n_ref12_RingKey [v3, v22] h fun v23 h =>
 extP v23 0 fun v24 =>
 extP v23 1 fun v25 =>
 joinP G h.length (fun k26 =>
 binP .neq .other v19 v24 fun v27 =>
 iteP v27
 (k26 [.bool true] h)
 (S n_law0_Num [v20] h fun v28 h =>
 binP .neq .other v28 v25 fun v29 =>
 iteP v29
 (k26 [.bool true] h)
 (idxP 1 a1 v9 fun v30 =>
 idxP 1 a1 v9 fun v31 =>
 ldP 1 false v31 h fun v32 =>
 ldP 1 false v30 h fun v33 =>
 ldV 1 false v31 h = some v32 ∧
 S n_ring_Live [v33, a2, a3] h fun v34 h =>
 ldV 1 false v31 h = some v32 ∧
 S n_ref12_RingLive [v32, a2, a3] h fun v35 h =>
 binP .neq .bl v34 v35 fun v36 =>
 k26 [v36] h)))
 (fun v39 h =>
 (fun v37 =>
 iteP v37
 (K (.bool false) h)
 (binP .add .other v9 (.int .i64 1) fun v38 =>
 k10 [v38] h)) (v39.getD 0 .any)))
 (S n_law14_sameBooks [v2, v3] h fun v40 h =>
 condP v40 true (fun k41 =>
 S n_law14_awake [] h fun v42 h =>
 k41 v42 h)
 (.bool false) h fun v43 h =>
 K v43 h)) (v44.getD 0 .any)) [.int .i64 0] h)
theorem q_law14_Rings (S : FuncId → List AVal → AHeap A → (AVal → AHeap A → Prop) → Prop) (G : Nat → AHeap A → List AVal → (List AVal → AHeap A → Prop) → Prop) (a0 a1 a2 a3 : AVal) (h : AHeap A) (K : AVal → AHeap A → Prop) : funP Try.prog S G Try.f14 (.two none .leaf (.two none .leaf (.two none .leaf (.two none (.two none .leaf (.one [] (.one [11] (.two none .leaf (.two none (.one [] (.two none .leaf (.two none .leaf (.two none (.draw (some [81]) (.take 0 (.take 1 (.take 2 (.take 3 (.split 3 (.skip 4 (.skip 5 (.skip 6 (.skip 7 (.take 8 (.take 9 (.known 9 true (.skip 10 (.skip 11 (.skip 12 (.skip 13 (.skip 14 (.skip 15 (.skip 16 (.skip 17 (.skip 18 (.skip 19 (.skip 20 (.skip 21 (.skip 22 (.skip 23 (.skip 24 (.take 25 .stop))))))))))))))))))))))) (.take 4 (.take 6 (.alt 5 (.take 7 (.take 8 (.take 9 (.split 9 (.skip 10 (.skip 11 (.skip 12 (.skip 13 (.skip 14 (.skip 15 (.skip 16 (.skip 17 (.skip 18 (.skip 19 (.skip 20 (.skip 21 (.skip 22 (.skip 23 (.skip 24 (.take 25 .stop)))))))))))))))) (.take 10 (.take 11 (.take 12 (.take 14 (.take 15 (.take 17 (.take 18 (.take 19 (.take 21 (.take 22 (.load 20 (.alt 13 (.alt 16 (.alt 23 (.take 24 (.take 25 .stop)) .stop) .stop) .stop)))))))))))))))) .stop))))))))) .leaf)))) .leaf))))) .leaf)))) [a0, a1, a2, a3] h K = p_law14_Rings S G a0 a1 a2 a3 h K := by kernel_rfl
theorem c_law14_Rings {R : Adts A} {h : AHeap A} {K : AVal → AHeap A → Prop} {a0 a1 a2 a3 : AVal} (hk : p_law14_Rings (Tri Pr R) (Gives Pr R) a0 a1 a2 a3 h K) : Tri Pr R n_law14_Rings [a0, a1, a2, a3] h K :=
  tri_of_funP (by kernel_rfl) (fun _ _ _ _ h => h) (fun _ _ _ _ h => h) Try.func14 (by rw [q_law14_Rings]; exact hk)
/-- bastion/bastionlaw12.TotpOnce -/
def p_law12_TotpOnce (S : FuncId → List AVal → AHeap A → (AVal → AHeap A → Prop) → Prop) (G : Nat → AHeap A → List AVal → (List AVal → AHeap A → Prop) → Prop) (a0 a1 : AVal) (h : AHeap A) (K : AVal → AHeap A → Prop) : Prop :=
 S n_law12_awake [] h fun v1 h =>
 notP v1 fun v2 =>
 iteP v2
 (K (.bool false) h)
 (S n_law12_twin [.int .i64 9, .nils] h fun v3 h =>
 extP v3 0 fun v4 =>
 extP v3 1 fun v5 =>
 binP .eql .ptr v4 .nilp fun v6 =>
 iteP v6
 (K (.bool false) h)
 (binP .and .other a0 (.int .i64 31) fun v7 =>
 binP .add .other (.int .i64 1) v7 fun v8 =>
 S n_totp_Code [v4, .int .i64 77, v8] h fun v9 h =>
 extP v9 0 fun v10 =>
 extP v9 1 fun v11 =>
 S n_law0_Num [v11] h fun v12 h =>
 binP .neq .other v12 (.int .i64 0) fun v13 =>
 iteP v13
 (K (.bool false) h)
 (loopP G (fun v53 h k16 =>
 (fun v14 v15 =>
 lenP a1 fun v17 =>
 binP .lss .other v15 v17 fun v18 =>
 condP v18 true (fun k19 =>
 binP .lss .other v15 (.int .i64 40) fun v20 =>
 k19 v20 h)
 (.bool false) h fun v21 h =>
 iteP v21
 (joinP G h.length (fun k22 =>
 idxP 1 a1 v15 fun v23 =>
 ldP 1 false v23 h fun v24 =>
 binP .and .other v24 (.int .i64 1023) fun v25 =>
 binP .quo .other v25 (.int .i64 30) fun v26 =>
 binP .add .other v26 (.int .i64 1) fun v27 =>
 binP .sub .other v8 (.int .i64 1) fun v28 =>
 binP .geq .other v27 v28 fun v29 =>
 condP v29 true (fun k30 =>
 binP .quo .other v25 (.int .i64 30) fun v31 =>
 binP .add .other v31 (.int .i64 1) fun v32 =>
 binP .add .other v8 (.int .i64 1) fun v33 =>
 binP .leq .other v32 v33 fun v34 =>
 k30 v34 h)
 (.bool false) h fun v35 h =>
 S n_totp_Accept [v4, .int .i64 77, v14, v25, v10] h fun v36 h =>
 extP v36 0 fun v37 =>
 extP v36 1 fun v38 =>
 condP v35 true (fun k39 =>
 binP .lss .other v14 v8 fun v40 =>
 k39 v40 h)
 (.bool false) h fun v41 h =>
 binP .neq .bl v38 v41 fun v42 =>
 condP v42 false (fun k43 =>
 condP v38 true (fun k44 =>
 binP .neq .other v37 v8 fun v45 =>
 k44 v45 h)
 (.bool false) h fun v46 h =>
 k43 v46 h)
 (.bool true) h fun v47 h =>
 iteP v47
 (K (.bool false) h)
 (iteP v38
 (k22 [v37] h)
 (k22 [v14] h)))
 (fun v50 h =>
 (fun v48 =>
 binP .add .other v15 (.int .i64 1) fun v49 =>
 k16 [v48, v49] h) (v50.getD 0 .any)))
 (S n_book_Book_Len [v4] h fun v51 h =>
 binP .eql .other v51 (.int .i64 1) fun v52 =>
 K v52 h)) (v53.getD 0 .any) (v53.getD 1 .any)) [.int .i64 0, .int .i64 0] h)))
theorem q_law12_TotpOnce (S : FuncId → List AVal → AHeap A → (AVal → AHeap A → Prop) → Prop) (G : Nat → AHeap A → List AVal → (List AVal → AHeap A → Prop) → Prop) (a0 a1 : AVal) (h : AHeap A) (K : AVal → AHeap A → Prop) : funP Try.prog S G Try.f15 (.two none .leaf (.two none .leaf (.two none .leaf (.two none .leaf (.two none .leaf (.two none .leaf (.two none .leaf (.two none .leaf (.two none (.two none .leaf (.one [] (.one [10, 11] (.two none .leaf (.two (some [10]) .leaf .leaf))))) .leaf))))))))) [a0, a1] h K = p_law12_TotpOnce S G a0 a1 h K := by kernel_rfl
theorem c_law12_TotpOnce {R : Adts A} {h : AHeap A} {K : AVal → AHeap A → Prop} {a0 a1 : AVal} (hk : p_law12_TotpOnce (Tri Pr R) (Gives Pr R) a0 a1 h K) : Tri Pr R n_law12_TotpOnce [a0, a1] h K :=
  tri_of_funP (by kernel_rfl) (fun _ _ _ _ h => h) (fun _ _ _ _ h => h) Try.func15 (by rw [q_law12_TotpOnce]; exact hk)
/-- bastion/bastionlaw12.TotpForms -/
def p_law12_TotpForms (S : FuncId → List AVal → AHeap A → (AVal → AHeap A → Prop) → Prop) (G : Nat → AHeap A → List AVal → (List AVal → AHeap A → Prop) → Prop) (a0 a1 : AVal) (h : AHeap A) (K : AVal → AHeap A → Prop) : Prop :=
 S n_law12_awake [] h fun v1 h =>
 notP v1 fun v2 =>
 iteP v2
 (K (.bool false) h)
 (binP .and .other a0 (.int .i64 1023) fun v3 =>
 binP .add .other (.int .i64 1) v3 fun v4 =>
 S n_law12_twin [.int .i64 1, .nils] h fun v5 h =>
 extP v5 0 fun v6 =>
 extP v5 1 fun v7 =>
 binP .eql .ptr v6 .nilp fun v8 =>
 iteP v8
 (K (.bool false) h)
 (binP .sub .other (.int .i64 1) v4 fun v9 =>
 S n_totp_Code [v6, .int .i64 5, v9] h fun v10 h =>
 extP v10 0 fun v11 =>
 extP v10 1 fun v12 =>
 binP .add .other (.int .i64 1048575) v4 fun v13 =>
 S n_totp_Code [v6, .int .i64 5, v13] h fun v14 h =>
 extP v14 0 fun v15 =>
 extP v14 1 fun v16 =>
 negP v4 fun v17 =>
 S n_totp_Code [v6, v17, .int .i64 1] h fun v18 h =>
 extP v18 0 fun v19 =>
 extP v18 1 fun v20 =>
 S n_totp_Code [.nilp, .int .i64 5, .int .i64 1] h fun v21 h =>
 extP v21 0 fun v22 =>
 extP v21 1 fun v23 =>
 S n_totp_Code [v6, .int .i64 5, .int .i64 1] h fun v24 h =>
 extP v24 0 fun v25 =>
 extP v24 1 fun v26 =>
 S n_totp_Code [v6, .int .i64 5, .int .i64 2] h fun v27 h =>
 extP v27 0 fun v28 =>
 extP v27 1 fun v29 =>
 negP v4 fun v30 =>
 S n_totp_Accept [v6, .int .i64 5, .int .i64 0, v30, v25] h fun v31 h =>
 extP v31 0 fun v32 =>
 extP v31 1 fun v33 =>
 binP .add .other (.int .i64 1048575) v4 fun v34 =>
 S n_totp_Accept [v6, .int .i64 5, .int .i64 0, v34, v25] h fun v35 h =>
 extP v35 0 fun v36 =>
 extP v35 1 fun v37 =>
 S n_totp_Accept [.nilp, .int .i64 5, .int .i64 0, .int .i64 0, v25] h fun v38 h =>
 extP v38 0 fun v39 =>
 extP v38 1 fun v40 =>
 S n_totp_Accept [v6, .int .i64 5, .int .i64 0, .int .i64 29, v25] h fun v41 h =>
 extP v41 0 fun v42 =>
 extP v41 1 fun v43 =>
 binP .and .other a1 (.int .i64 1048575) fun v44 =>
 S n_law0_Num [v12] h fun v45 h =>
 binP .eql .other v45 (.int .i64 1200) fun v46 =>
 condP v46 true (fun k47 =>
 S n_law0_Num [v16] h fun v48 h =>
 binP .eql .other v48 (.int .i64 1200) fun v49 =>
 k47 v49 h)
 (.bool false) h fun v50 h =>
 condP v50 true (fun k51 =>
 S n_law0_Num [v20] h fun v52 h =>
 binP .eql .other v52 (.int .i64 1200) fun v53 =>
 k51 v53 h)
 (.bool false) h fun v54 h =>
 condP v54 true (fun k55 =>
 S n_law0_Num [v23] h fun v56 h =>
 binP .eql .other v56 (.int .i64 1) fun v57 =>
 k55 v57 h)
 (.bool false) h fun v58 h =>
 condP v58 true (fun k59 =>
 S n_law0_Num [v26] h fun v60 h =>
 binP .eql .other v60 (.int .i64 0) fun v61 =>
 k59 v61 h)
 (.bool false) h fun v62 h =>
 condP v62 true (fun k63 =>
 S n_law0_Num [v29] h fun v64 h =>
 binP .eql .other v64 (.int .i64 1200) fun v65 =>
 k63 v65 h)
 (.bool false) h fun v66 h =>
 condP v66 true (fun k67 =>
 notP v33 fun v68 =>
 k67 v68 h)
 (.bool false) h fun v69 h =>
 condP v69 true (fun k70 =>
 notP v37 fun v71 =>
 k70 v71 h)
 (.bool false) h fun v72 h =>
 condP v72 true (fun k73 =>
 notP v40 fun v74 =>
 k73 v74 h)
 (.bool false) h fun v75 h =>
 condP v75 true (fun k76 =>
 binP .eql .other v42 (.int .i64 1) fun v77 =>
 k76 v77 h)
 (.bool false) h fun v78 h =>
 condP v78 true (fun k79 =>
 k79 v43 h)
 (.bool false) h fun v80 h =>
 condP v80 true (fun k81 =>
 negP v4 fun v82 =>
 S n_totp_Step [v82] h fun v83 h =>
 binP .eql .other v83 (.int .i64 0) fun v84 =>
 k81 v84 h)
 (.bool false) h fun v85 h =>
 condP v85 true (fun k86 =>
 binP .add .other (.int .i64 1048575) v4 fun v87 =>
 S n_totp_Step [v87] h fun v88 h =>
 binP .eql .other v88 (.int .i64 0) fun v89 =>
 k86 v89 h)
 (.bool false) h fun v90 h =>
 condP v90 true (fun k91 =>
 S n_totp_Step [v44] h fun v92 h =>
 binP .quo .other v44 (.int .i64 30) fun v93 =>
 binP .add .other v93 (.int .i64 1) fun v94 =>
 binP .eql .other v92 v94 fun v95 =>
 k91 v95 h)
 (.bool false) h fun v96 h =>
 condP v96 true (fun k97 =>
 S n_book_Book_Len [v6] h fun v98 h =>
 binP .eql .other v98 (.int .i64 1) fun v99 =>
 k97 v99 h)
 (.bool false) h fun v100 h =>
 K v100 h))
theorem q_law12_TotpForms (S : FuncId → List AVal → AHeap A → (AVal → AHeap A → Prop) → Prop) (G : Nat → AHeap A → List AVal → (List AVal → AHeap A → Prop) → Prop) (a0 a1 : AVal) (h : AHeap A) (K : AVal → AHeap A → Prop) : funP Try.prog S G Try.f16 .leaf [a0, a1] h K = p_law12_TotpForms S G a0 a1 h K := by kernel_rfl
theorem c_law12_TotpForms {R : Adts A} {h : AHeap A} {K : AVal → AHeap A → Prop} {a0 a1 : AVal} (hk : p_law12_TotpForms (Tri Pr R) (Gives Pr R) a0 a1 h K) : Tri Pr R n_law12_TotpForms [a0, a1] h K :=
  tri_of_funP (by kernel_rfl) (fun _ _ _ _ h => h) (fun _ _ _ _ h => h) Try.func16 (by rw [q_law12_TotpForms]; exact hk)
/-- bastion/bastionlaw12.TotpLeast -/
def p_law12_TotpLeast (S : FuncId → List AVal → AHeap A → (AVal → AHeap A → Prop) → Prop) (G : Nat → AHeap A → List AVal → (List AVal → AHeap A → Prop) → Prop) (a0 a1 a2 a3 : AVal) (h : AHeap A) (K : AVal → AHeap A → Prop) : Prop :=
 S n_law12_awake [] h fun v1 h =>
 notP v1 fun v2 =>
 iteP v2
 (K (.bool false) h)
 (S n_law12_twin [.int .i64 99, .nils] h fun v3 h =>
 extP v3 0 fun v4 =>
 extP v3 1 fun v5 =>
 binP .eql .ptr v4 .nilp fun v6 =>
 iteP v6
 (K (.bool false) h)
 (binP .and .other a2 (.int .i64 1023) fun v7 =>
 binP .quo .other v7 (.int .i64 30) fun v8 =>
 binP .add .other v8 (.int .i64 1) fun v9 =>
 binP .add .other v9 (.int .i64 3) fun v10 =>
 binP .rem .other a3 v10 fun v11 =>
 binP .sub .other v9 (.int .i64 2) fun v12 =>
 maxP [.int .i64 1, v12] fun v13 =>
 loopP G (fun v77 h k16 =>
 (fun v14 v15 =>
 binP .add .other v9 (.int .i64 2) fun v17 =>
 binP .leq .other v15 v17 fun v18 =>
 iteP v18
 (binP .and .other a0 (.int .i64 1073741823) fun v19 =>
 S n_totp_Code [v4, v19, v15] h fun v20 h =>
 extP v20 0 fun v21 =>
 extP v20 1 fun v22 =>
 binP .and .other a1 (.int .i64 1073741823) fun v23 =>
 S n_totp_Code [v4, v23, v15] h fun v24 h =>
 extP v24 0 fun v25 =>
 extP v24 1 fun v26 =>
 S n_law0_Num [v22] h fun v27 h =>
 binP .neq .other v27 (.int .i64 0) fun v28 =>
 condP v28 false (fun k29 =>
 S n_law0_Num [v26] h fun v30 h =>
 binP .neq .other v30 (.int .i64 0) fun v31 =>
 k29 v31 h)
 (.bool true) h fun v32 h =>
 condP v32 false (fun k33 =>
 binP .eql .other v21 v25 fun v34 =>
 binP .and .other a0 (.int .i64 1073741823) fun v35 =>
 binP .and .other a1 (.int .i64 1073741823) fun v36 =>
 binP .eql .other v35 v36 fun v37 =>
 binP .neq .bl v34 v37 fun v38 =>
 k33 v38 h)
 (.bool true) h fun v39 h =>
 iteP v39
 (K (.bool false) h)
 (loopP G (fun v76 h k41 =>
 (fun v40 =>
 lenP v14 fun v42 =>
 binP .lss .other v40 v42 fun v43 =>
 iteP v43
 (idxP 1 v14 v40 fun v44 =>
 ldP 1 false v44 h fun v45 =>
 binP .eql .other v45 v21 fun v46 =>
 iteP v46
 (K (.bool false) h)
 (binP .add .other v40 (.int .i64 1) fun v47 =>
 k41 [v47] h))
 (bslP t_int 1 [.int .i64 0] [(0, 1, v21)] h fun v48 h =>
 appP t_int 1 8 v14 v48 h fun v49 h =>
 binP .and .other a0 (.int .i64 1073741823) fun v50 =>
 S n_totp_Accept [v4, v50, v11, v7, v21] h fun v51 h =>
 extP v51 0 fun v52 =>
 extP v51 1 fun v53 =>
 binP .sub .other v9 (.int .i64 1) fun v54 =>
 binP .geq .other v15 v54 fun v55 =>
 condP v55 true (fun k56 =>
 binP .add .other v9 (.int .i64 1) fun v57 =>
 binP .leq .other v15 v57 fun v58 =>
 k56 v58 h)
 (.bool false) h fun v59 h =>
 condP v59 true (fun k60 =>
 binP .gtr .other v15 v11 fun v61 =>
 k60 v61 h)
 (.bool false) h fun v62 h =>
 binP .neq .bl v53 v62 fun v63 =>
 condP v63 false (fun k64 =>
 condP v53 true (fun k65 =>
 binP .neq .other v52 v15 fun v66 =>
 k65 v66 h)
 (.bool false) h fun v67 h =>
 k64 v67 h)
 (.bool true) h fun v68 h =>
 condP v68 false (fun k69 =>
 notP v53 fun v70 =>
 condP v70 true (fun k71 =>
 binP .neq .other v52 (.int .i64 0) fun v72 =>
 k71 v72 h)
 (.bool false) h fun v73 h =>
 k69 v73 h)
 (.bool true) h fun v74 h =>
 iteP v74
 (K (.bool false) h)
 (binP .add .other v15 (.int .i64 1) fun v75 =>
 k16 [v49, v75] h))) (v76.getD 0 .any)) [.int .i64 0] h))
 (K (.bool true) h)) (v77.getD 0 .any) (v77.getD 1 .any)) [.nils, v13] h))
theorem q_law12_TotpLeast (S : FuncId → List AVal → AHeap A → (AVal → AHeap A → Prop) → Prop) (G : Nat → AHeap A → List AVal → (List AVal → AHeap A → Prop) → Prop) (a0 a1 a2 a3 : AVal) (h : AHeap A) (K : AVal → AHeap A → Prop) : funP Try.prog S G Try.f17 (.two none .leaf (.two none .leaf (.two none .leaf (.two none .leaf (.two none .leaf (.two none .leaf (.two none .leaf (.two none .leaf (.two none (.two none .leaf (.one [] (.one [14, 15] (.two none .leaf (.two none (.one [] (.two none .leaf (.two none .leaf (.two none .leaf (.two none (.two none .leaf (.one [] (.one [20] .leaf))) .leaf))))) .leaf))))) .leaf))))))))) [a0, a1, a2, a3] h K = p_law12_TotpLeast S G a0 a1 a2 a3 h K := by kernel_rfl
theorem c_law12_TotpLeast {R : Adts A} {h : AHeap A} {K : AVal → AHeap A → Prop} {a0 a1 a2 a3 : AVal} (hk : p_law12_TotpLeast (Tri Pr R) (Gives Pr R) a0 a1 a2 a3 h K) : Tri Pr R n_law12_TotpLeast [a0, a1, a2, a3] h K :=
  tri_of_funP (by kernel_rfl) (fun _ _ _ _ h => h) (fun _ _ _ _ h => h) Try.func17 (by rw [q_law12_TotpLeast]; exact hk)
end Go.AI
