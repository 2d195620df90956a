/- The functions as texts over the abstract heap. -/
import Derived.Test.YtmdlhohhimdkaaaNm
import Derived.KernelRfl
set_option linter.all false
namespace Go.AI
open Go.Proofs
set_option maxRecDepth 1000000
variable {A : Type}
/-- bastion/bastionlaw25.AuditHolders -/
def p_law25_AuditHolders (S : FuncId → List AVal → AHeap A → (AVal → AHeap A → Prop) → Prop) (G : Nat → AHeap A → List AVal → (List AVal → AHeap A → Prop) → Prop) (a0 a1 : AVal) (h : AHeap A) (K : AVal → AHeap A → Prop) : Prop :=
 boxP t_api_Config 12 a0 h fun v1 h =>
 S n_law25_awake [] h fun v2 h =>
 notP v2 fun v3 =>
 iteP v3
 (K (.bool false) h)
 (ldP 12 true v1 h fun v4 =>
 S n_audit_Lines [v4, a1] h fun v5 h =>
 extP v5 0 fun v6 =>
 extP v5 1 fun v7 =>
 S n_law0_Num [v7] h fun v8 h =>
 binP .neq .other v8 (.int .i64 0) fun v9 =>
 iteP v9
 (lenP v6 fun v10 =>
 binP .eql .other v10 (.int .i64 0) fun v11 =>
 K v11 h)
 (loopP G (fun v81 h k14 =>
 (fun v12 v13 =>
 lenP v6 fun v15 =>
 binP .lss .other v13 v15 fun v16 =>
 iteP v16
 (idxP 7 v6 v13 fun v17 =>
 fadP 5 v17 fun v18 =>
 ldP 1 false v18 h fun v19 =>
 binP .add .other v12 v19 fun v20 =>
 binP .add .other v13 (.int .i64 1) fun v21 =>
 k14 [v20, v21] h)
 (loopP G (fun v80 h k25 =>
 (fun v22 v23 v24 =>
 fadP 3 v1 fun v26 =>
 ldP 1 false v26 h fun v27 =>
 binP .lss .other v24 v27 fun v28 =>
 iteP v28
 (joinP G h.length (fun k29 =>
 ldP 12 true v1 h fun v30 =>
 S n_audit_Holder [v30, v24, a1] h fun v31 h =>
 extP v31 0 fun v32 =>
 extP v31 1 fun v33 =>
 extP v31 2 fun v34 =>
 S n_law0_Num [v34] h fun v35 h =>
 binP .neq .other v35 (.int .i64 0) fun v36 =>
 condP v36 false (fun k37 =>
 binP .lss .other v32 (.int .i64 0) fun v38 =>
 binP .lss .other v33 (.int .i64 0) fun v39 =>
 binP .neq .bl v38 v39 fun v40 =>
 k37 v40 h)
 (.bool true) h fun v41 h =>
 iteP v41
 (K (.bool false) h)
 (binP .lss .other v33 (.int .i64 0) fun v42 =>
 iteP v42
 (k29 [v22, v23] h)
 (binP .add .other v22 (.int .i64 1) fun v43 =>
 loopP G (fun v54 h k45 =>
 (fun v44 =>
 lenP v23 fun v46 =>
 binP .lss .other v44 v46 fun v47 =>
 iteP v47
 (idxP 1 v23 v44 fun v48 =>
 ldP 1 false v48 h fun v49 =>
 binP .eql .other v49 v33 fun v50 =>
 iteP v50
 (K (.bool false) h)
 (binP .add .other v44 (.int .i64 1) fun v51 =>
 k45 [v51] h))
 (bslP t_int 1 [.int .i64 0] [(0, 1, v33)] h fun v52 h =>
 appP t_int 1 8 v23 v52 h fun v53 h =>
 k29 [v43, v53] h)) (v54.getD 0 .any)) [.int .i64 0] h)))
 (fun v58 h =>
 (fun v55 v56 =>
 binP .add .other v24 (.int .i64 1) fun v57 =>
 k25 [v55, v56, v57] h) (v58.getD 0 .any) (v58.getD 1 .any)))
 (ldP 12 true v1 h fun v59 =>
 fadP 3 v1 fun v60 =>
 ldP 1 false v60 h fun v61 =>
 S n_audit_Holder [v59, v61, a1] h fun v62 h =>
 extP v62 0 fun v63 =>
 extP v62 1 fun v64 =>
 extP v62 2 fun v65 =>
 ldP 12 true v1 h fun v66 =>
 S n_audit_Holder [v66, .int .i64 (-1), a1] h fun v67 h =>
 extP v67 0 fun v68 =>
 extP v67 1 fun v69 =>
 extP v67 2 fun v70 =>
 binP .eql .other v22 v12 fun v71 =>
 condP v71 true (fun k72 =>
 S n_law0_Num [v65] h fun v73 h =>
 binP .eql .other v73 (.int .i64 2500) fun v74 =>
 k72 v74 h)
 (.bool false) h fun v75 h =>
 condP v75 true (fun k76 =>
 S n_law0_Num [v70] h fun v77 h =>
 binP .eql .other v77 (.int .i64 2500) fun v78 =>
 k76 v78 h)
 (.bool false) h fun v79 h =>
 K v79 h)) (v80.getD 0 .any) (v80.getD 1 .any) (v80.getD 2 .any)) [.int .i64 0, .nils, .int .i64 0] h)) (v81.getD 0 .any) (v81.getD 1 .any)) [.int .i64 0, .int .i64 0] h))
theorem q_law25_AuditHolders (S : FuncId → List AVal → AHeap A → (AVal → AHeap A → Prop) → Prop) (G : Nat → AHeap A → List AVal → (List AVal → AHeap A → Prop) → Prop) (a0 a1 : AVal) (h : AHeap A) (K : AVal → AHeap A → Prop) : funP Try.prog S G Try.f3 (.two none .leaf (.two none .leaf (.two none .leaf (.two none .leaf (.two none .leaf (.two none (.two none .leaf (.one [] (.one [7, 8] .leaf))) (.two none .leaf (.two none .leaf (.two none (.two none .leaf (.one [] (.one [9, 10, 11] (.two none .leaf (.two (some [9, 10]) (.one [] (.two none .leaf (.two none .leaf (.two none .leaf (.two none .leaf (.two none (.two none .leaf (.one [] (.one [15] .leaf))) .leaf)))))) .leaf))))) .leaf))))))))) [a0, a1] h K = p_law25_AuditHolders S G a0 a1 h K := by kernel_rfl
theorem c_law25_AuditHolders {R : Adts A} {h : AHeap A} {K : AVal → AHeap A → Prop} {a0 a1 : AVal} (hk : p_law25_AuditHolders (Tri Pr R) (Gives Pr R) a0 a1 h K) : Tri Pr R n_law25_AuditHolders [a0, a1] h K :=
  tri_of_funP (by kernel_rfl) (fun _ _ _ _ h => h) (fun _ _ _ _ h => h) Try.func3 (by rw [q_law25_AuditHolders]; exact hk)
/-- bastion/bastionlaw25.AuditMore -/
def p_law25_AuditMore (S : FuncId → List AVal → AHeap A → (AVal → AHeap A → Prop) → Prop) (G : Nat → AHeap A → List AVal → (List AVal → AHeap A → Prop) → Prop) (a0 a1 a2 : AVal) (h : AHeap A) (K : AVal → AHeap A → Prop) : Prop :=
 boxP t_api_Config 12 a0 h fun v1 h =>
 S n_law25_awake [] h fun v2 h =>
 notP v2 fun v3 =>
 iteP v3
 (K (.bool false) h)
 (cviP .u64 a2 fun v4 =>
 lenP a1 fun v5 =>
 binP .add .other v5 (.int .i64 1) fun v6 =>
 cviP .u64 v6 fun v7 =>
 binP .rem .other v4 v7 fun v8 =>
 cviP .i64 v8 fun v9 =>
 ldP 12 true v1 h fun v10 =>
 S n_audit_Lines [v10, a1] h fun v11 h =>
 extP v11 0 fun v12 =>
 extP v11 1 fun v13 =>
 rslP 8 a1 none (some v9) none fun v14 =>
 ldP 12 true v1 h fun v15 =>
 S n_audit_Lines [v15, v14] h fun v16 h =>
 extP v16 0 fun v17 =>
 extP v16 1 fun v18 =>
 S n_law0_Num [v13] h fun v19 h =>
 binP .neq .other v19 (.int .i64 0) fun v20 =>
 iteP v20
 (lenP v12 fun v21 =>
 binP .eql .other v21 (.int .i64 0) fun v22 =>
 K v22 h)
 (S n_law0_Num [v18] h fun v23 h =>
 binP .neq .other v23 (.int .i64 0) fun v24 =>
 iteP v24
 (K (.bool false) h)
 (loopP G (fun v89 h k26 =>
 (fun v25 =>
 lenP v17 fun v27 =>
 binP .lss .other v25 v27 fun v28 =>
 iteP v28
 (loopP G (fun v85 h k31 =>
 (fun v29 v30 =>
 lenP v12 fun v32 =>
 binP .lss .other v30 v32 fun v33 =>
 iteP v33
 (joinP G h.length (fun k34 =>
 idxP 7 v12 v30 fun v35 =>
 fadP 0 v35 fun v36 =>
 idxP 7 v17 v25 fun v37 =>
 fadP 0 v37 fun v38 =>
 ldP 1 false v36 h fun v39 =>
 ldP 1 false v38 h fun v40 =>
 ldV 1 false v36 h = some v39 ∧
 binP .neq .other v39 v40 fun v41 =>
 iteP v41
 (k34 [v29] h)
 (joinP G h.length (fun k42 =>
 idxP 7 v12 v30 fun v43 =>
 fadP 1 v43 fun v44 =>
 idxP 7 v17 v25 fun v45 =>
 fadP 1 v45 fun v46 =>
 ldP 1 false v44 h fun v47 =>
 ldP 1 false v46 h fun v48 =>
 ldV 1 false v44 h = some v47 ∧
 binP .geq .other v47 v48 fun v49 =>
 iteP v49
 (idxP 7 v12 v30 fun v50 =>
 fadP 2 v50 fun v51 =>
 idxP 7 v17 v25 fun v52 =>
 fadP 2 v52 fun v53 =>
 ldP 1 false v51 h fun v54 =>
 ldP 1 false v53 h fun v55 =>
 ldV 1 false v51 h = some v54 ∧
 binP .geq .other v54 v55 fun v56 =>
 iteP v56
 (idxP 7 v12 v30 fun v57 =>
 fadP 3 v57 fun v58 =>
 idxP 7 v17 v25 fun v59 =>
 fadP 3 v59 fun v60 =>
 ldP 1 false v58 h fun v61 =>
 ldP 1 false v60 h fun v62 =>
 ldV 1 false v58 h = some v61 ∧
 binP .geq .other v61 v62 fun v63 =>
 iteP v63
 (idxP 7 v12 v30 fun v64 =>
 fadP 4 v64 fun v65 =>
 idxP 7 v17 v25 fun v66 =>
 fadP 4 v66 fun v67 =>
 ldP 1 false v65 h fun v68 =>
 ldP 1 false v67 h fun v69 =>
 ldV 1 false v65 h = some v68 ∧
 binP .geq .other v68 v69 fun v70 =>
 iteP v70
 (idxP 7 v12 v30 fun v71 =>
 fadP 6 v71 fun v72 =>
 idxP 7 v17 v25 fun v73 =>
 fadP 6 v73 fun v74 =>
 ldP 1 false v72 h fun v75 =>
 ldP 1 false v74 h fun v76 =>
 ldV 1 false v72 h = some v75 ∧
 binP .geq .other v75 v76 fun v77 =>
 k42 [v77] h)
 (k42 [.bool false] h))
 (k42 [.bool false] h))
 (k42 [.bool false] h))
 (k42 [.bool false] h))
 (fun v79 h =>
 (fun v78 =>
 k34 [v78] h) (v79.getD 0 .any))))
 (fun v82 h =>
 (fun v80 =>
 binP .add .other v30 (.int .i64 1) fun v81 =>
 k31 [v80, v81] h) (v82.getD 0 .any)))
 (notP v29 fun v83 =>
 iteP v83
 (K (.bool false) h)
 (binP .add .other v25 (.int .i64 1) fun v84 =>
 k26 [v84] h))) (v85.getD 0 .any) (v85.getD 1 .any)) [.bool false, .int .i64 0] h)
 (lenP v12 fun v86 =>
 lenP v17 fun v87 =>
 binP .geq .other v86 v87 fun v88 =>
 K v88 h)) (v89.getD 0 .any)) [.int .i64 0] h)))
theorem q_law25_AuditMore (S : FuncId → List AVal → AHeap A → (AVal → AHeap A → Prop) → Prop) (G : Nat → AHeap A → List AVal → (List AVal → AHeap A → Prop) → Prop) (a0 a1 a2 : AVal) (h : AHeap A) (K : AVal → AHeap A → Prop) : funP Try.prog S G Try.f4 (.two none .leaf (.two none .leaf (.two none .leaf (.two none .leaf (.two none (.draw none (.take 1 (.take 2 (.take 3 (.alt 0 (.alt 4 (.take 5 (.take 6 (.take 7 (.take 8 (.take 9 .stop))))) .stop) .stop))))) (.two none .leaf (.two none .leaf (.two none (.two none .leaf (.one [] (.one [12] (.two none .leaf (.two none (.one [] (.two none .leaf (.two none (.two none .leaf (.one [] (.one [13, 14] (.two none .leaf (.two (some [13]) (.one [] (.two none (.two none (.draw none (.take 0 (.take 1 (.take 2 (.take 3 (.take 5 (.take 6 (.take 7 (.take 8 (.load 4 (.alt 9 (.take 10 .stop) .stop))))))))))) .leaf) (.draw (some [13]) (.take 0 (.take 1 (.take 2 (.take 3 (.take 5 (.take 6 (.take 7 (.take 8 (.load 4 (.alt 9 (.take 10 (.take 11 (.split 11 (.take 12 (.take 13 (.take 14 (.take 15 (.take 17 (.take 18 (.take 19 (.take 20 (.load 16 (.alt 21 (.take 22 (.take 23 (.take 24 (.split 24 (.take 25 (.take 26 (.take 27 (.take 28 (.take 30 (.take 31 (.take 32 (.take 33 (.load 29 (.alt 34 (.take 35 (.take 36 (.take 37 (.split 37 (.take 38 (.take 39 (.take 40 (.take 41 (.take 43 (.take 44 (.take 45 (.take 46 (.load 42 (.alt 47 (.take 48 (.take 49 (.take 50 (.split 50 (.take 51 (.take 52 (.take 53 (.take 54 (.take 56 (.take 57 (.take 58 (.take 59 (.load 55 (.alt 60 (.take 61 (.take 62 (.take 63 .stop))) .stop)))))))))) (.skip 51 (.skip 52 (.skip 53 (.skip 54 (.skip 55 (.skip 56 (.skip 57 (.skip 58 (.skip 59 (.skip 60 (.skip 61 (.take 62 (.take 63 .stop))))))))))))))))) .stop)))))))))) (.skip 38 (.skip 39 (.skip 40 (.skip 41 (.skip 42 (.skip 43 (.skip 44 (.skip 45 (.skip 46 (.skip 47 (.skip 48 (.take 49 (.take 50 (.known 50 false (.skip 51 (.skip 52 (.skip 53 (.skip 54 (.skip 55 (.skip 56 (.skip 57 (.skip 58 (.skip 59 (.skip 60 (.skip 61 (.take 62 (.take 63 .stop))))))))))))))))))))))))))))))) .stop)))))))))) (.skip 25 (.skip 26 (.skip 27 (.skip 28 (.skip 29 (.skip 30 (.skip 31 (.skip 32 (.skip 33 (.skip 34 (.skip 35 (.take 36 (.take 37 (.known 37 false (.skip 38 (.skip 39 (.skip 40 (.skip 41 (.skip 42 (.skip 43 (.skip 44 (.skip 45 (.skip 46 (.skip 47 (.skip 48 (.take 49 (.take 50 (.known 50 false (.skip 51 (.skip 52 (.skip 53 (.skip 54 (.skip 55 (.skip 56 (.skip 57 (.skip 58 (.skip 59 (.skip 60 (.skip 61 (.take 62 (.take 63 .stop))))))))))))))))))))))))))))))))))))))))))))) .stop)))))))))) (.skip 12 (.skip 13 (.skip 14 (.skip 15 (.skip 16 (.skip 17 (.skip 18 (.skip 19 (.skip 20 (.skip 21 (.skip 22 (.take 23 (.take 24 (.known 24 false (.skip 25 (.skip 26 (.skip 27 (.skip 28 (.skip 29 (.skip 30 (.skip 31 (.skip 32 (.skip 33 (.skip 34 (.skip 35 (.take 36 (.take 37 (.known 37 false (.skip 38 (.skip 39 (.skip 40 (.skip 41 (.skip 42 (.skip 43 (.skip 44 (.skip 45 (.skip 46 (.skip 47 (.skip 48 (.take 49 (.take 50 (.known 50 false (.skip 51 (.skip 52 (.skip 53 (.skip 54 (.skip 55 (.skip 56 (.skip 57 (.skip 58 (.skip 59 (.skip 60 (.skip 61 (.take 62 (.take 63 .stop)))))))))))))))))))))))))))))))))))))))))))))))))))))))))) .stop))))))))))))) .leaf))))) .leaf))) .leaf))))) .leaf)))))))) [a0, a1, a2] h K = p_law25_AuditMore S G a0 a1 a2 h K := by kernel_rfl
theorem c_law25_AuditMore {R : Adts A} {h : AHeap A} {K : AVal → AHeap A → Prop} {a0 a1 a2 : AVal} (hk : p_law25_AuditMore (Tri Pr R) (Gives Pr R) a0 a1 a2 h K) : Tri Pr R n_law25_AuditMore [a0, a1, a2] h K :=
  tri_of_funP (by kernel_rfl) (fun _ _ _ _ h => h) (fun _ _ _ _ h => h) Try.func4 (by rw [q_law25_AuditMore]; exact hk)
/-- bastion/bastionlaw25.AuditParts -/
def p_law25_AuditParts (S : FuncId → List AVal → AHeap A → (AVal → AHeap A → Prop) → Prop) (G : Nat → AHeap A → List AVal → (List AVal → AHeap A → Prop) → Prop) (a0 a1 : AVal) (h : AHeap A) (K : AVal → AHeap A → Prop) : Prop :=
 boxP t_api_Config 12 a0 h fun v1 h =>
 S n_law25_awake [] h fun v2 h =>
 notP v2 fun v3 =>
 iteP v3
 (K (.bool false) h)
 (ldP 12 true v1 h fun v4 =>
 S n_audit_Lines [v4, a1] h fun v5 h =>
 extP v5 0 fun v6 =>
 extP v5 1 fun v7 =>
 S n_law0_Num [v7] h fun v8 h =>
 binP .neq .other v8 (.int .i64 0) fun v9 =>
 iteP v9
 (lenP v6 fun v10 =>
 binP .eql .other v10 (.int .i64 0) fun v11 =>
 K v11 h)
 (loopP G (fun v117 h k14 =>
 (fun v12 v13 =>
 lenP v6 fun v15 =>
 binP .lss .other v13 v15 fun v16 =>
 iteP v16
 (idxP 7 v6 v13 fun v17 =>
 fadP 0 v17 fun v18 =>
 ldP 12 true v1 h fun v19 =>
 ldP 1 false v18 h fun v20 =>
 ldV 12 true v1 h = some v19 ∧
 S n_audit_Trace [v19, v20, a1] h fun v21 h =>
 extP v21 0 fun v22 =>
 extP v21 1 fun v23 =>
 S n_law0_Num [v23] h fun v24 h =>
 binP .neq .other v24 (.int .i64 0) fun v25 =>
 iteP v25
 (K (.bool false) h)
 (lenP v22 fun v26 =>
 binP .add .other v12 v26 fun v27 =>
 loopP G (fun v88 h k31 =>
 (fun v28 v29 v30 =>
 lenP v22 fun v32 =>
 binP .lss .other v30 v32 fun v33 =>
 iteP v33
 (joinP G h.length (fun k34 =>
 idxP 8 v22 v30 fun v35 =>
 fadP 0 v35 fun v36 =>
 ldP 1 false v36 h fun v37 =>
 binP .eql .other v37 (.int .i64 2) fun v38 =>
 iteP v38
 (binP .add .other v28 (.int .i64 1) fun v39 =>
 k34 [v39] h)
 (k34 [v28] h))
 (fun v64 h =>
 (fun v40 =>
 joinP G h.length (fun k41 =>
 idxP 8 v22 v30 fun v42 =>
 fadP 0 v42 fun v43 =>
 ldP 1 false v43 h fun v44 =>
 binP .eql .other v44 (.int .i64 3) fun v45 =>
 iteP v45
 (binP .add .other v29 (.int .i64 1) fun v46 =>
 k41 [v46] h)
 (k41 [v29] h))
 (fun v63 h =>
 (fun v47 =>
 joinP G h.length (fun k48 =>
 idxP 8 v22 v30 fun v49 =>
 fadP 0 v49 fun v50 =>
 ldP 1 false v50 h fun v51 =>
 binP .neq .other v51 (.int .i64 6) fun v52 =>
 iteP v52
 (idxP 8 v22 v30 fun v53 =>
 fadP 1 v53 fun v54 =>
 idxP 7 v6 v13 fun v55 =>
 fadP 0 v55 fun v56 =>
 ldP 1 false v54 h fun v57 =>
 ldP 1 false v56 h fun v58 =>
 ldV 1 false v54 h = some v57 ∧
 binP .neq .other v57 v58 fun v59 =>
 k48 [v59] h)
 (k48 [.bool false] h))
 (fun v62 h =>
 (fun v60 =>
 iteP v60
 (K (.bool false) h)
 (binP .add .other v30 (.int .i64 1) fun v61 =>
 k31 [v40, v47, v61] h)) (v62.getD 0 .any))) (v63.getD 0 .any))) (v64.getD 0 .any)))
 (idxP 7 v6 v13 fun v65 =>
 fadP 3 v65 fun v66 =>
 ldP 1 false v66 h fun v67 =>
 binP .neq .other v28 v67 fun v68 =>
 condP v68 false (fun k69 =>
 idxP 7 v6 v13 fun v70 =>
 fadP 1 v70 fun v71 =>
 ldP 1 false v71 h fun v72 =>
 binP .neq .other v29 v72 fun v73 =>
 k69 v73 h)
 (.bool true) h fun v74 h =>
 condP v74 false (fun k75 =>
 idxP 7 v6 v13 fun v76 =>
 fadP 4 v76 fun v77 =>
 ldP 1 false v77 h fun v78 =>
 binP .gtr .other v78 v28 fun v79 =>
 k75 v79 h)
 (.bool true) h fun v80 h =>
 condP v80 false (fun k81 =>
 idxP 7 v6 v13 fun v82 =>
 fadP 2 v82 fun v83 =>
 ldP 1 false v83 h fun v84 =>
 binP .lss .other v84 (.int .i64 0) fun v85 =>
 k81 v85 h)
 (.bool true) h fun v86 h =>
 iteP v86
 (K (.bool false) h)
 (binP .add .other v13 (.int .i64 1) fun v87 =>
 k14 [v27, v87] h))) (v88.getD 0 .any) (v88.getD 1 .any) (v88.getD 2 .any)) [.int .i64 0, .int .i64 0, .int .i64 0] h))
 (loopP G (fun v116 h k91 =>
 (fun v89 v90 =>
 lenP a1 fun v92 =>
 binP .lss .other v90 v92 fun v93 =>
 iteP v93
 (joinP G h.length (fun k94 =>
 idxP 8 a1 v90 fun v95 =>
 fadP 0 v95 fun v96 =>
 ldP 1 false v96 h fun v97 =>
 binP .neq .other v97 (.int .i64 0) fun v98 =>
 condP v98 true (fun k99 =>
 idxP 8 a1 v90 fun v100 =>
 fadP 0 v100 fun v101 =>
 ldP 1 false v101 h fun v102 =>
 binP .neq .other v102 (.int .i64 8) fun v103 =>
 k99 v103 h)
 (.bool false) h fun v104 h =>
 condP v104 true (fun k105 =>
 idxP 8 a1 v90 fun v106 =>
 fadP 0 v106 fun v107 =>
 ldP 1 false v107 h fun v108 =>
 binP .neq .other v108 (.int .i64 9) fun v109 =>
 k105 v109 h)
 (.bool false) h fun v110 h =>
 iteP v110
 (binP .add .other v89 (.int .i64 1) fun v111 =>
 k94 [v111] h)
 (k94 [v89] h))
 (fun v114 h =>
 (fun v112 =>
 binP .add .other v90 (.int .i64 1) fun v113 =>
 k91 [v112, v113] h) (v114.getD 0 .any)))
 (binP .eql .other v12 v89 fun v115 =>
 K v115 h)) (v116.getD 0 .any) (v116.getD 1 .any)) [.int .i64 0, .int .i64 0] h)) (v117.getD 0 .any) (v117.getD 1 .any)) [.int .i64 0, .int .i64 0] h))
theorem q_law25_AuditParts (S : FuncId → List AVal → AHeap A → (AVal → AHeap A → Prop) → Prop) (G : Nat → AHeap A → List AVal → (List AVal → AHeap A → Prop) → Prop) (a0 a1 : AVal) (h : AHeap A) (K : AVal → AHeap A → Prop) : funP Try.prog S G Try.f5 (.two none .leaf (.two none .leaf (.two none .leaf (.two none .leaf (.two none .leaf (.two none (.two none .leaf (.one [] (.one [7, 9] (.two none .leaf (.two none (.one [] (.two none (.draw none (.take 1 (.take 2 (.take 3 (.take 4 (.take 6 (.load 0 (.alt 5 (.alt 7 (.take 8 (.take 9 (.take 10 (.take 11 (.take 12 .stop))))) .stop) .stop)))))))) (.two none .leaf (.two none .leaf (.two none .leaf (.two none (.two none .leaf (.one [] (.one [12, 13, 14] (.two none .leaf (.two none (.one [] (.two (some [12]) .leaf (.two (some [13]) .leaf (.two none (.draw (some [94]) (.take 0 (.take 1 (.take 2 (.take 3 (.alt 4 (.take 5 (.take 6 (.split 6 (.take 7 (.take 8 (.take 9 (.take 10 (.take 12 (.take 13 (.take 14 (.take 15 (.load 11 (.alt 16 (.take 17 (.take 18 .stop)) .stop)))))))))) (.skip 7 (.skip 8 (.skip 9 (.skip 10 (.skip 11 (.skip 12 (.skip 13 (.skip 14 (.skip 15 (.skip 16 (.skip 17 (.take 18 .stop))))))))))))))) .stop)))))) .leaf)))) .leaf))))) .leaf)))))) .leaf))))) (.two none (.two none .leaf (.one [] (.one [8, 15] (.two none .leaf (.two (some [8]) .leaf .leaf))))) .leaf))))))) [a0, a1] h K = p_law25_AuditParts S G a0 a1 h K := by kernel_rfl
theorem c_law25_AuditParts {R : Adts A} {h : AHeap A} {K : AVal → AHeap A → Prop} {a0 a1 : AVal} (hk : p_law25_AuditParts (Tri Pr R) (Gives Pr R) a0 a1 h K) : Tri Pr R n_law25_AuditParts [a0, a1] h K :=
  tri_of_funP (by kernel_rfl) (fun _ _ _ _ h => h) (fun _ _ _ _ h => h) Try.func5 (by rw [q_law25_AuditParts]; exact hk)
/-- bastion/bastionlaw25.AuditRows -/
def p_law25_AuditRows (S : FuncId → List AVal → AHeap A → (AVal → AHeap A → Prop) → Prop) (G : Nat → AHeap A → List AVal → (List AVal → AHeap A → Prop) → Prop) (a0 a1 : AVal) (h : AHeap A) (K : AVal → AHeap A → Prop) : Prop :=
 boxP t_api_Config 12 a0 h fun v1 h =>
 S n_law25_awake [] h fun v2 h =>
 notP v2 fun v3 =>
 iteP v3
 (K (.bool false) h)
 (ldP 12 true v1 h fun v4 =>
 S n_audit_Lines [v4, a1] h fun v5 h =>
 extP v5 0 fun v6 =>
 extP v5 1 fun v7 =>
 S n_law0_Num [v7] h fun v8 h =>
 binP .neq .other v8 (.int .i64 0) fun v9 =>
 iteP v9
 (lenP v6 fun v10 =>
 binP .eql .other v10 (.int .i64 0) fun v11 =>
 K v11 h)
 (loopP G (fun v74 h k13 =>
 (fun v12 =>
 lenP v6 fun v14 =>
 binP .lss .other v12 v14 fun v15 =>
 iteP v15
 (idxP 7 v6 v12 fun v16 =>
 fadP 0 v16 fun v17 =>
 ldP 12 true v1 h fun v18 =>
 ldP 1 false v17 h fun v19 =>
 ldV 12 true v1 h = some v18 ∧
 S n_audit_Trace [v18, v19, a1] h fun v20 h =>
 extP v20 0 fun v21 =>
 extP v20 1 fun v22 =>
 joinP G h.length (fun k23 =>
 S n_law0_Num [v22] h fun v24 h =>
 binP .neq .other v24 (.int .i64 0) fun v25 =>
 iteP v25
 (k23 [.bool true] h)
 (lenP v21 fun v26 =>
 binP .eql .other v26 (.int .i64 0) fun v27 =>
 iteP v27
 (k23 [.bool true] h)
 (idxP 8 v21 (.int .i64 0) fun v28 =>
 fadP 0 v28 fun v29 =>
 ldP 1 false v29 h fun v30 =>
 binP .neq .other v30 (.int .i64 1) fun v31 =>
 iteP v31
 (k23 [.bool true] h)
 (idxP 8 v21 (.int .i64 0) fun v32 =>
 fadP 1 v32 fun v33 =>
 idxP 7 v6 v12 fun v34 =>
 fadP 0 v34 fun v35 =>
 ldP 1 false v33 h fun v36 =>
 ldP 1 false v35 h fun v37 =>
 ldV 1 false v33 h = some v36 ∧
 binP .neq .other v36 v37 fun v38 =>
 k23 [v38] h))))
 (fun v73 h =>
 (fun v39 =>
 iteP v39
 (K (.bool false) h)
 (loopP G (fun v72 h k42 =>
 (fun v40 v41 =>
 lenP a1 fun v43 =>
 binP .lss .other v41 v43 fun v44 =>
 condP v44 true (fun k45 =>
 lenP v21 fun v46 =>
 binP .lss .other v40 v46 fun v47 =>
 k45 v47 h)
 (.bool false) h fun v48 h =>
 iteP v48
 (joinP G h.length (fun k49 =>
 idxP 8 a1 v41 fun v50 =>
 idxP 8 v21 v40 fun v51 =>
 ldP 8 true v50 h fun v52 =>
 ldP 8 true v51 h fun v53 =>
 ldV 8 true v50 h = some v52 ∧
 binP .eql (.shape (.st [(0, 1, .i), (1, 1, .i), (2, 1, .i), (3, 1, .i), (4, 1, .i), (5, 1, .i), (6, 1, .i), (7, 1, .i)])) v52 v53 fun v54 =>
 iteP v54
 (binP .add .other v40 (.int .i64 1) fun v55 =>
 k49 [v55] h)
 (k49 [v40] h))
 (fun v58 h =>
 (fun v56 =>
 binP .add .other v41 (.int .i64 1) fun v57 =>
 k42 [v56, v57] h) (v58.getD 0 .any)))
 (lenP v21 fun v59 =>
 binP .neq .other v40 v59 fun v60 =>
 iteP v60
 (K (.bool false) h)
 (loopP G (fun v71 h k62 =>
 (fun v61 =>
 lenP v21 fun v63 =>
 binP .lss .other v61 v63 fun v64 =>
 iteP v64
 (idxP 8 v21 v61 fun v65 =>
 fadP 0 v65 fun v66 =>
 ldP 1 false v66 h fun v67 =>
 binP .eql .other v67 (.int .i64 1) fun v68 =>
 iteP v68
 (K (.bool false) h)
 (binP .add .other v61 (.int .i64 1) fun v69 =>
 k62 [v69] h))
 (binP .add .other v12 (.int .i64 1) fun v70 =>
 k13 [v70] h)) (v71.getD 0 .any)) [.int .i64 1] h))) (v72.getD 0 .any) (v72.getD 1 .any)) [.int .i64 0, .int .i64 0] h)) (v73.getD 0 .any)))
 (K (.bool true) h)) (v74.getD 0 .any)) [.int .i64 0] h))
theorem q_law25_AuditRows (S : FuncId → List AVal → AHeap A → (AVal → AHeap A → Prop) → Prop) (G : Nat → AHeap A → List AVal → (List AVal → AHeap A → Prop) → Prop) (a0 a1 : AVal) (h : AHeap A) (K : AVal → AHeap A → Prop) : funP Try.prog S G Try.f6 (.two none .leaf (.two none .leaf (.two none .leaf (.two none .leaf (.two none (.two none .leaf (.one [] (.one [7] (.two none .leaf (.two none (.one [] (.two none (.draw none (.take 1 (.take 2 (.take 3 (.take 4 (.take 6 (.load 0 (.alt 5 (.alt 7 (.take 8 (.take 9 (.take 10 (.take 11 (.take 12 .stop))))) .stop) .stop)))))))) (.two none (.two none (.draw (some [70]) (.take 0 (.alt 1 (.take 2 (.take 3 (.split 3 (.skip 4 (.skip 5 (.skip 6 (.take 7 (.take 8 (.known 8 true (.skip 9 (.skip 10 (.skip 11 (.skip 12 (.skip 13 (.take 14 (.take 15 (.known 15 true (.skip 16 (.skip 17 (.skip 18 (.skip 19 (.skip 20 (.skip 21 (.skip 22 (.skip 23 (.skip 24 (.skip 25 (.take 26 .stop))))))))))))))))))))))))) (.take 4 (.take 5 (.take 6 (.take 7 (.take 8 (.split 8 (.skip 9 (.skip 10 (.skip 11 (.skip 12 (.skip 13 (.take 14 (.take 15 (.known 15 true (.skip 16 (.skip 17 (.skip 18 (.skip 19 (.skip 20 (.skip 21 (.skip 22 (.skip 23 (.skip 24 (.skip 25 (.take 26 .stop))))))))))))))))))) (.take 9 (.take 10 (.take 11 (.alt 12 (.take 13 (.take 14 (.take 15 (.split 15 (.skip 16 (.skip 17 (.skip 18 (.skip 19 (.skip 20 (.skip 21 (.skip 22 (.skip 23 (.skip 24 (.skip 25 (.take 26 .stop))))))))))) (.take 16 (.take 17 (.take 18 (.take 20 (.take 21 (.take 22 (.take 23 (.load 19 (.alt 24 (.take 25 (.take 26 .stop)) .stop))))))))))))) .stop))))))))))))) .stop))) .leaf) (.two none .leaf (.two none (.two none .leaf (.one [] (.one [10, 11] (.two none .leaf (.two (some [10]) (.one [] (.two none (.draw none (.take 0 (.take 1 (.take 2 (.take 4 (.take 5 (.take 6 (.load 3 (.alt 7 (.take 8 .stop) .stop))))))))) .leaf)) .leaf))))) (.two none .leaf (.two none .leaf (.one [] (.one [12] .leaf))))))))) .leaf))))) .leaf))))) [a0, a1] h K = p_law25_AuditRows S G a0 a1 h K := by kernel_rfl
theorem c_law25_AuditRows {R : Adts A} {h : AHeap A} {K : AVal → AHeap A → Prop} {a0 a1 : AVal} (hk : p_law25_AuditRows (Tri Pr R) (Gives Pr R) a0 a1 h K) : Tri Pr R n_law25_AuditRows [a0, a1] h K :=
  tri_of_funP (by kernel_rfl) (fun _ _ _ _ h => h) (fun _ _ _ _ h => h) Try.func6 (by rw [q_law25_AuditRows]; exact hk)
/-- bastion/bastionlaw25.AuditLocks -/
def p_law25_AuditLocks (S : FuncId → List AVal → AHeap A → (AVal → AHeap A → Prop) → Prop) (G : Nat → AHeap A → List AVal → (List AVal → AHeap A → Prop) → Prop) (a0 a1 : AVal) (h : AHeap A) (K : AVal → AHeap A → Prop) : Prop :=
 S n_law25_awake [] h fun v1 h =>
 notP v1 fun v2 =>
 iteP v2
 (K (.bool false) h)
 (S n_law25_Plain [] h fun v3 h =>
 newP t_api_Config (reps 12 (.int .i64 0)) h fun v4 h =>
 stP 12 v4 v3 h fun h =>
 cviP .u64 a1 fun v5 =>
 binP .rem .other v5 (.int .u64 8) fun v6 =>
 cviP .i64 v6 fun v7 =>
 binP .add .other (.int .i64 1) v7 fun v8 =>
 fadP 4 v4 fun v9 =>
 stP 1 v9 v8 h fun h =>
 bldP [.int .i64 0, .int .i64 0, .int .i64 0, .int .i64 0, .int .i64 0, .int .i64 0, .int .i64 0, .int .i64 0] [] fun v10 =>
 bldP [.int .i64 0, .int .i64 0, .int .i64 0, .int .i64 0, .int .i64 0, .int .i64 0, .int .i64 0, .int .i64 0] [(0, 1, .int .i64 1), (1, 1, .int .i64 2)] fun v11 =>
 bslP t_api_Event 2 [.int .i64 0, .int .i64 0, .int .i64 0, .int .i64 0, .int .i64 0, .int .i64 0, .int .i64 0, .int .i64 0, .int .i64 0, .int .i64 0, .int .i64 0, .int .i64 0, .int .i64 0, .int .i64 0, .int .i64 0, .int .i64 0] [(0, 8, v10), (8, 8, v11)] h fun v12 h =>
 loopP G (fun v71 h k20 =>
 (fun v13 v14 v15 v16 v17 v18 v19 =>
 lenP a0 fun v21 =>
 binP .lss .other v19 v21 fun v22 =>
 condP v22 true (fun k23 =>
 binP .lss .other v19 (.int .i64 40) fun v24 =>
 k23 v24 h)
 (.bool false) h fun v25 h =>
 iteP v25
 (joinP G h.length (fun k26 =>
 idxP 1 a0 v19 fun v27 =>
 ldP 1 false v27 h fun v28 =>
 binP .and .other v28 (.int .i64 15) fun v29 =>
 binP .add .other v14 v29 fun v30 =>
 binP .lss .other v30 v16 fun v31 =>
 iteP v31
 (k26 [v13, v30, v15, v16, v17, v18] h)
 (idxP 1 a0 v19 fun v32 =>
 ldP 1 false v32 h fun v33 =>
 binP .shr .other v33 (.int .u64 4) fun v34 =>
 binP .and .other v34 (.int .i64 7) fun v35 =>
 binP .eql .other v35 (.int .i64 7) fun v36 =>
 iteP v36
 (bldP [.int .i64 0, .int .i64 0, .int .i64 0, .int .i64 0, .int .i64 0, .int .i64 0, .int .i64 0, .int .i64 0] [(0, 1, .int .i64 4), (1, 1, .int .i64 2)] fun v37 =>
 bslP t_api_Event 1 [.int .i64 0, .int .i64 0, .int .i64 0, .int .i64 0, .int .i64 0, .int .i64 0, .int .i64 0, .int .i64 0] [(0, 8, v37)] h fun v38 h =>
 appP t_api_Event 8 64 v13 v38 h fun v39 h =>
 k26 [v39, v30, .int .i64 0, .int .i64 0, v17, v18] h)
 (bldP [.int .i64 0, .int .i64 0, .int .i64 0, .int .i64 0, .int .i64 0, .int .i64 0, .int .i64 0, .int .i64 0] [(0, 1, .int .i64 2), (1, 1, .int .i64 2), (7, 1, v30)] fun v40 =>
 bslP t_api_Event 1 [.int .i64 0, .int .i64 0, .int .i64 0, .int .i64 0, .int .i64 0, .int .i64 0, .int .i64 0, .int .i64 0] [(0, 8, v40)] h fun v41 h =>
 appP t_api_Event 8 64 v13 v41 h fun v42 h =>
 binP .add .other v17 (.int .i64 1) fun v43 =>
 binP .add .other v15 (.int .i64 1) fun v44 =>
 fadP 4 v4 fun v45 =>
 ldP 1 false v45 h fun v46 =>
 binP .eql .other v44 v46 fun v47 =>
 iteP v47
 (binP .add .other v18 (.int .i64 1) fun v48 =>
 fadP 5 v4 fun v49 =>
 ldP 1 false v49 h fun v50 =>
 binP .add .other v30 v50 fun v51 =>
 k26 [v42, v30, .int .i64 0, v51, v43, v48] h)
 (k26 [v42, v30, v44, v16, v43, v18] h))))
 (fun v59 h =>
 (fun v52 v53 v54 v55 v56 v57 =>
 binP .add .other v19 (.int .i64 1) fun v58 =>
 k20 [v52, v53, v54, v55, v56, v57, v58] h) (v59.getD 0 .any) (v59.getD 1 .any) (v59.getD 2 .any) (v59.getD 3 .any) (v59.getD 4 .any) (v59.getD 5 .any)))
 (ldP 12 true v4 h fun v60 =>
 S n_audit_Lines [v60, v13] h fun v61 h =>
 extP v61 0 fun v62 =>
 extP v61 1 fun v63 =>
 S n_law0_Num [v63] h fun v64 h =>
 binP .eql .other v64 (.int .i64 0) fun v65 =>
 condP v65 true (fun k66 =>
 bldP [.int .i64 0, .int .i64 0, .int .i64 0, .int .i64 0, .int .i64 0, .int .i64 0, .int .i64 0] [(0, 1, .int .i64 2), (3, 1, v17), (4, 1, v18)] fun v67 =>
 bslP t_api_Line 1 [.int .i64 0, .int .i64 0, .int .i64 0, .int .i64 0, .int .i64 0, .int .i64 0, .int .i64 0] [(0, 7, v67)] h fun v68 h =>
 S n_law0_SameLines [v62, v68] h fun v69 h =>
 k66 v69 h)
 (.bool false) h fun v70 h =>
 K v70 h)) (v71.getD 0 .any) (v71.getD 1 .any) (v71.getD 2 .any) (v71.getD 3 .any) (v71.getD 4 .any) (v71.getD 5 .any) (v71.getD 6 .any)) [v12, .int .i64 0, .int .i64 0, .int .i64 0, .int .i64 0, .int .i64 0, .int .i64 0] h)
theorem q_law25_AuditLocks (S : FuncId → List AVal → AHeap A → (AVal → AHeap A → Prop) → Prop) (G : Nat → AHeap A → List AVal → (List AVal → AHeap A → Prop) → Prop) (a0 a1 : AVal) (h : AHeap A) (K : AVal → AHeap A → Prop) : funP Try.prog S G Try.f7 (.two none .leaf (.two none .leaf (.two none .leaf (.two none .leaf (.two none .leaf (.two none .leaf (.two none (.two none .leaf (.one [] (.one [6, 7, 8, 9, 10, 11, 12] (.two none .leaf (.two (some [6, 7, 8, 9, 10, 11]) .leaf .leaf))))) .leaf))))))) [a0, a1] h K = p_law25_AuditLocks S G a0 a1 h K := by kernel_rfl
theorem c_law25_AuditLocks {R : Adts A} {h : AHeap A} {K : AVal → AHeap A → Prop} {a0 a1 : AVal} (hk : p_law25_AuditLocks (Tri Pr R) (Gives Pr R) a0 a1 h K) : Tri Pr R n_law25_AuditLocks [a0, a1] h K :=
  tri_of_funP (by kernel_rfl) (fun _ _ _ _ h => h) (fun _ _ _ _ h => h) Try.func7 (by rw [q_law25_AuditLocks]; exact hk)
/-- bastion/bastionlaw25.awake -/
def p_law25_awake (S : FuncId → List AVal → AHeap A → (AVal → AHeap A → Prop) → Prop) (G : Nat → AHeap A → List AVal → (List AVal → AHeap A → Prop) → Prop) (h : AHeap A) (K : AVal → AHeap A → Prop) : Prop :=
 S n_law25_Plain [] h fun v1 h =>
 newP t_api_Config (reps 12 (.int .i64 0)) h fun v2 h =>
 stP 12 v2 v1 h fun h =>
 bldP [.int .i64 0, .int .i64 0, .int .i64 0, .int .i64 0, .int .i64 0, .int .i64 0, .int .i64 0, .int .i64 0] [] fun v3 =>
 bldP [.int .i64 0, .int .i64 0, .int .i64 0, .int .i64 0, .int .i64 0, .int .i64 0, .int .i64 0, .int .i64 0] [(0, 1, .int .i64 1), (1, 1, .int .i64 3), (4, 1, .int .i64 5), (5, 1, .int .i64 6), (6, 1, .int .i64 7)] fun v4 =>
 bldP [.int .i64 0, .int .i64 0, .int .i64 0, .int .i64 0, .int .i64 0, .int .i64 0, .int .i64 0, .int .i64 0] [(0, 1, .int .i64 2), (1, 1, .int .i64 3), (7, 1, .int .i64 1)] fun v5 =>
 bldP [.int .i64 0, .int .i64 0, .int .i64 0, .int .i64 0, .int .i64 0, .int .i64 0, .int .i64 0, .int .i64 0] [(0, 1, .int .i64 2), (1, 1, .int .i64 3), (7, 1, .int .i64 2)] fun v6 =>
 bldP [.int .i64 0, .int .i64 0, .int .i64 0, .int .i64 0, .int .i64 0, .int .i64 0, .int .i64 0, .int .i64 0] [(0, 1, .int .i64 4), (1, 1, .int .i64 3)] fun v7 =>
 bldP [.int .i64 0, .int .i64 0, .int .i64 0, .int .i64 0, .int .i64 0, .int .i64 0, .int .i64 0, .int .i64 0] [(0, 1, .int .i64 3), (1, 1, .int .i64 3), (4, 1, .int .i64 1)] fun v8 =>
 bldP [.int .i64 0, .int .i64 0, .int .i64 0, .int .i64 0, .int .i64 0, .int .i64 0, .int .i64 0, .int .i64 0] [(0, 1, .int .i64 5), (1, 1, .int .i64 3), (3, 1, .int .i64 1)] fun v9 =>
 bldP [.int .i64 0, .int .i64 0, .int .i64 0, .int .i64 0, .int .i64 0, .int .i64 0, .int .i64 0, .int .i64 0] [(0, 1, .int .i64 6), (4, 1, .int .i64 9)] fun v10 =>
 bldP [.int .i64 0, .int .i64 0, .int .i64 0, .int .i64 0, .int .i64 0, .int .i64 0, .int .i64 0, .int .i64 0] [(0, 1, .int .i64 9)] fun v11 =>
 bldP [.int .i64 0, .int .i64 0, .int .i64 0, .int .i64 0, .int .i64 0, .int .i64 0, .int .i64 0, .int .i64 0] [(0, 1, .int .i64 5), (2, 1, .int .i64 1), (1, 1, .int .i64 3), (3, 1, .int .i64 2)] fun v12 =>
 bslP t_api_Event 10 [.int .i64 0, .int .i64 0, .int .i64 0, .int .i64 0, .int .i64 0, .int .i64 0, .int .i64 0, .int .i64 0, .int .i64 0, .int .i64 0, .int .i64 0, .int .i64 0, .int .i64 0, .int .i64 0, .int .i64 0, .int .i64 0, .int .i64 0, .int .i64 0, .int .i64 0, .int .i64 0, .int .i64 0, .int .i64 0, .int .i64 0, .int .i64 0, .int .i64 0, .int .i64 0, .int .i64 0, .int .i64 0, .int .i64 0, .int .i64 0, .int .i64 0, .int .i64 0, .int .i64 0, .int .i64 0, .int .i64 0, .int .i64 0, .int .i64 0, .int .i64 0, .int .i64 0, .int .i64 0, .int .i64 0, .int .i64 0, .int .i64 0, .int .i64 0, .int .i64 0, .int .i64 0, .int .i64 0, .int .i64 0, .int .i64 0, .int .i64 0, .int .i64 0, .int .i64 0, .int .i64 0, .int .i64 0, .int .i64 0, .int .i64 0, .int .i64 0, .int .i64 0, .int .i64 0, .int .i64 0, .int .i64 0, .int .i64 0, .int .i64 0, .int .i64 0, .int .i64 0, .int .i64 0, .int .i64 0, .int .i64 0, .int .i64 0, .int .i64 0, .int .i64 0, .int .i64 0, .int .i64 0, .int .i64 0, .int .i64 0, .int .i64 0, .int .i64 0, .int .i64 0, .int .i64 0, .int .i64 0] [(0, 8, v3), (8, 8, v4), (16, 8, v5), (24, 8, v6), (32, 8, v7), (40, 8, v8), (48, 8, v9), (56, 8, v10), (64, 8, v11), (72, 8, v12)] h fun v13 h =>
 ldP 12 true v2 h fun v14 =>
 S n_audit_Lines [v14, v13] h fun v15 h =>
 extP v15 0 fun v16 =>
 extP v15 1 fun v17 =>
 ldP 12 true v2 h fun v18 =>
 S n_audit_Trace [v18, .int .i64 3, v13] h fun v19 h =>
 extP v19 0 fun v20 =>
 extP v19 1 fun v21 =>
 ldP 12 true v2 h fun v22 =>
 S n_audit_Holder [v22, .int .i64 2, v13] h fun v23 h =>
 extP v23 0 fun v24 =>
 extP v23 1 fun v25 =>
 extP v23 2 fun v26 =>
 ldP 12 true v2 h fun v27 =>
 S n_audit_Holder [v27, .int .i64 0, v13] h fun v28 h =>
 extP v28 0 fun v29 =>
 extP v28 1 fun v30 =>
 extP v28 2 fun v31 =>
 ldP 12 true v2 h fun v32 =>
 bldP [.int .i64 0, .int .i64 0, .int .i64 0, .int .i64 0, .int .i64 0, .int .i64 0, .int .i64 0, .int .i64 0] [(0, 1, .int .i64 6)] fun v33 =>
 bslP t_api_Event 1 [.int .i64 0, .int .i64 0, .int .i64 0, .int .i64 0, .int .i64 0, .int .i64 0, .int .i64 0, .int .i64 0] [(0, 8, v33)] h fun v34 h =>
 S n_audit_Lines [v32, v34] h fun v35 h =>
 extP v35 0 fun v36 =>
 extP v35 1 fun v37 =>
 ldP 12 true v2 h fun v38 =>
 S n_audit_Trace [v38, .int .i64 2, v13] h fun v39 h =>
 extP v39 0 fun v40 =>
 extP v39 1 fun v41 =>
 ldP 12 true v2 h fun v42 =>
 S n_audit_Holder [v42, .int .i64 3, v13] h fun v43 h =>
 extP v43 0 fun v44 =>
 extP v43 1 fun v45 =>
 extP v43 2 fun v46 =>
 S n_law0_Num [v17] h fun v47 h =>
 binP .eql .other v47 (.int .i64 0) fun v48 =>
 condP v48 true (fun k49 =>
 bldP [.int .i64 0, .int .i64 0, .int .i64 0, .int .i64 0, .int .i64 0, .int .i64 0, .int .i64 0] [(0, 1, .int .i64 3), (1, 1, .int .i64 1), (2, 1, .int .i64 1), (3, 1, .int .i64 2), (4, 1, .int .i64 1), (5, 1, .int .i64 1), (6, 1, .int .i64 9)] fun v50 =>
 bslP t_api_Line 1 [.int .i64 0, .int .i64 0, .int .i64 0, .int .i64 0, .int .i64 0, .int .i64 0, .int .i64 0] [(0, 7, v50)] h fun v51 h =>
 S n_law0_SameLines [v16, v51] h fun v52 h =>
 k49 v52 h)
 (.bool false) h fun v53 h =>
 condP v53 true (fun k54 =>
 S n_law0_Num [v21] h fun v55 h =>
 binP .eql .other v55 (.int .i64 0) fun v56 =>
 k54 v56 h)
 (.bool false) h fun v57 h =>
 condP v57 true (fun k58 =>
 lenP v20 fun v59 =>
 binP .eql .other v59 (.int .i64 8) fun v60 =>
 k58 v60 h)
 (.bool false) h fun v61 h =>
 condP v61 true (fun k62 =>
 idxP 8 v20 (.int .i64 6) fun v63 =>
 ldP 8 true v63 h fun v64 =>
 bldP [.int .i64 0, .int .i64 0, .int .i64 0, .int .i64 0, .int .i64 0, .int .i64 0, .int .i64 0, .int .i64 0] [(0, 1, .int .i64 6), (4, 1, .int .i64 9)] fun v65 =>
 binP .eql (.shape (.st [(0, 1, .i), (1, 1, .i), (2, 1, .i), (3, 1, .i), (4, 1, .i), (5, 1, .i), (6, 1, .i), (7, 1, .i)])) v64 v65 fun v66 =>
 k62 v66 h)
 (.bool false) h fun v67 h =>
 condP v67 true (fun k68 =>
 binP .eql .other v24 (.int .i64 3) fun v69 =>
 k68 v69 h)
 (.bool false) h fun v70 h =>
 condP v70 true (fun k71 =>
 binP .eql .other v25 (.int .i64 1) fun v72 =>
 k71 v72 h)
 (.bool false) h fun v73 h =>
 condP v73 true (fun k74 =>
 S n_law0_Num [v26] h fun v75 h =>
 binP .eql .other v75 (.int .i64 0) fun v76 =>
 k74 v76 h)
 (.bool false) h fun v77 h =>
 condP v77 true (fun k78 =>
 binP .eql .other v29 (.int .i64 (-1)) fun v79 =>
 k78 v79 h)
 (.bool false) h fun v80 h =>
 condP v80 true (fun k81 =>
 binP .eql .other v30 (.int .i64 (-1)) fun v82 =>
 k81 v82 h)
 (.bool false) h fun v83 h =>
 condP v83 true (fun k84 =>
 S n_law0_Num [v31] h fun v85 h =>
 binP .eql .other v85 (.int .i64 0) fun v86 =>
 k84 v86 h)
 (.bool false) h fun v87 h =>
 condP v87 true (fun k88 =>
 S n_law0_Num [v37] h fun v89 h =>
 binP .eql .other v89 (.int .i64 2500) fun v90 =>
 k88 v90 h)
 (.bool false) h fun v91 h =>
 condP v91 true (fun k92 =>
 S n_law0_Num [v41] h fun v93 h =>
 binP .eql .other v93 (.int .i64 2500) fun v94 =>
 k92 v94 h)
 (.bool false) h fun v95 h =>
 condP v95 true (fun k96 =>
 S n_law0_Num [v46] h fun v97 h =>
 binP .eql .other v97 (.int .i64 2500) fun v98 =>
 k96 v98 h)
 (.bool false) h fun v99 h =>
 K v99 h
theorem q_law25_awake (S : FuncId → List AVal → AHeap A → (AVal → AHeap A → Prop) → Prop) (G : Nat → AHeap A → List AVal → (List AVal → AHeap A → Prop) → Prop) (h : AHeap A) (K : AVal → AHeap A → Prop) : funP Try.prog S G Try.f8 .leaf [] h K = p_law25_awake S G h K := by kernel_rfl
theorem c_law25_awake {R : Adts A} {h : AHeap A} {K : AVal → AHeap A → Prop} (hk : p_law25_awake (Tri Pr R) (Gives Pr R) h K) : Tri Pr R n_law25_awake [] h K :=
  tri_of_funP (by kernel_rfl) (fun _ _ _ _ h => h) (fun _ _ _ _ h => h) Try.func8 (by rw [q_law25_awake]; exact hk)
end Go.AI
