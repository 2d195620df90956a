/- The functions as texts over the abstract heap. -/
import Derived.Test.YtlhmikjjnndjcaaNm
import Derived.KernelRfl
set_option linter.all false
namespace Go.AI
open Go.Proofs
set_option maxRecDepth 1000000
variable {A : Type}
/-- (*bastion/bastionref1.Disk).Write -/
def p_ref1_Disk_Write (S : FuncId → List AVal → AHeap A → (AVal → AHeap A → Prop) → Prop) (G : Nat → AHeap A → List AVal → (List AVal → AHeap A → Prop) → Prop) (a0 a1 a2 : AVal) (h : AHeap A) (K : AVal → AHeap A → Prop) : Prop :=
 nilP a0 fun v1 =>
 fadP 2 v1 fun v2 =>
 ldP 1 false v2 h fun v3 =>
 iteP v3
 (K (.int .i64 801) h)
 (binP .lss .other a1 (.int .i64 0) fun v4 =>
 condP v4 false (fun k5 =>
 nilP a0 fun v6 =>
 fadP 0 v6 fun v7 =>
 ldP 1 false v7 h fun v8 =>
 lenP v8 fun v9 =>
 binP .geq .other a1 v9 fun v10 =>
 k5 v10 h)
 (.bool true) h fun v11 h =>
 condP v11 false (fun k12 =>
 lnsP a2 fun v13 =>
 binP .neq .other v13 (.int .i64 64) fun v14 =>
 k12 v14 h)
 (.bool true) h fun v15 h =>
 iteP v15
 (K (.int .i64 800) h)
 (nilP a0 fun v16 =>
 fadP 1 v16 fun v17 =>
 ldP 1 false v17 h fun v18 =>
 bldP [.int .i64 0, .str []] [(0, 1, a1), (1, 1, a2)] fun v19 =>
 bslP t_bastionref1_write 1 [.int .i64 0, .str []] [(0, 2, v19)] h fun v20 h =>
 appP t_bastionref1_write 2 24 v18 v20 h fun v21 h =>
 nilP a0 fun v22 =>
 fadP 1 v22 fun v23 =>
 stP 1 v23 v21 h fun h =>
 K (.int .i64 0) h))
theorem q_ref1_Disk_Write (S : FuncId → List AVal → AHeap A → (AVal → AHeap A → Prop) → Prop) (G : Nat → AHeap A → List AVal → (List AVal → AHeap A → Prop) → Prop) (a0 a1 a2 : AVal) (h : AHeap A) (K : AVal → AHeap A → Prop) : funP Try.prog S G Try.f46 .leaf [a0, a1, a2] h K = p_ref1_Disk_Write S G a0 a1 a2 h K := by kernel_rfl
theorem c_ref1_Disk_Write {R : Adts A} {h : AHeap A} {K : AVal → AHeap A → Prop} {a0 a1 a2 : AVal} (hk : p_ref1_Disk_Write (Tri Pr R) (Gives Pr R) a0 a1 a2 h K) : Tri Pr R n_ref1_Disk_Write [a0, a1, a2] h K :=
  tri_of_funP (by kernel_rfl) (fun _ _ _ _ h => h) (fun _ _ _ _ h => h) Try.func46 (by rw [q_ref1_Disk_Write]; exact hk)
/-- (*bastion/disk.Disk).Flush -/
def p_disk_Disk_Flush (S : FuncId → List AVal → AHeap A → (AVal → AHeap A → Prop) → Prop) (G : Nat → AHeap A → List AVal → (List AVal → AHeap A → Prop) → Prop) (a0 : AVal) (h : AHeap A) (K : AVal → AHeap A → Prop) : Prop :=
 binP .eql .ptr a0 .nilp fun v1 =>
 iteP v1
 (K (.int .i64 1) h)
 (nilP a0 fun v2 =>
 fadP 2 v2 fun v3 =>
 ldP 1 false v3 h fun v4 =>
 iteP v4
 (K (.int .i64 801) h)
 (nilP a0 fun v5 =>
 fadP 1 v5 fun v6 =>
 ldP 1 false v6 h fun v7 =>
 lenP v7 fun v8 =>
 loopP G (fun v26 h k10 =>
 (fun v9 =>
 binP .lss .other v9 v8 fun v11 =>
 iteP v11
 (idxP 2 v7 v9 fun v12 =>
 ldP 2 true v12 h fun v13 =>
 newP t_disk_write [.int .i64 0, .str []] h fun v14 h =>
 stP 2 v14 v13 h fun h =>
 nilP a0 fun v15 =>
 fadP 0 v15 fun v16 =>
 fadP 0 v14 fun v17 =>
 fadP 1 v14 fun v18 =>
 ldP 1 false v16 h fun v19 =>
 ldP 1 false v17 h fun v20 =>
 ldP 1 false v18 h fun v21 =>
 ldV 1 false v17 h = some v20 ∧
 ldV 1 false v16 h = some v19 ∧
 idxP 1 v19 v20 fun v22 =>
 stP 1 v22 v21 h fun h =>
 binP .add .other v9 (.int .i64 1) fun v23 =>
 k10 [v23] h)
 (nilP a0 fun v24 =>
 fadP 1 v24 fun v25 =>
 stP 1 v25 .nils h fun h =>
 K (.int .i64 0) h)) (v26.getD 0 .any)) [.int .i64 0] h))
theorem q_disk_Disk_Flush (S : FuncId → List AVal → AHeap A → (AVal → AHeap A → Prop) → Prop) (G : Nat → AHeap A → List AVal → (List AVal → AHeap A → Prop) → Prop) (a0 : AVal) (h : AHeap A) (K : AVal → AHeap A → Prop) : funP Try.prog S G Try.f47 (.two none .leaf (.two none .leaf (.two none (.two none .leaf (.one [] (.one [18] (.two none .leaf (.two none .leaf (.two none (.one [] (.two none .leaf (.draw none (.take 0 (.take 1 (.take 2 (.take 4 (.take 6 (.load 3 (.load 5 (.alt 7 (.take 8 (.alt 9 .stop .stop)) .stop))))))))))) .leaf)))))) .leaf))) [a0] h K = p_disk_Disk_Flush S G a0 h K := by kernel_rfl
theorem c_disk_Disk_Flush {R : Adts A} {h : AHeap A} {K : AVal → AHeap A → Prop} {a0 : AVal} (hk : p_disk_Disk_Flush (Tri Pr R) (Gives Pr R) a0 h K) : Tri Pr R n_disk_Disk_Flush [a0] h K :=
  tri_of_funP (by kernel_rfl) (fun _ _ _ _ h => h) (fun _ _ _ _ h => h) Try.func47 (by rw [q_disk_Disk_Flush]; exact hk)
/-- (*bastion/bastionref1.Disk).Flush -/
def p_ref1_Disk_Flush (S : FuncId → List AVal → AHeap A → (AVal → AHeap A → Prop) → Prop) (G : Nat → AHeap A → List AVal → (List AVal → AHeap A → Prop) → Prop) (a0 : AVal) (h : AHeap A) (K : AVal → AHeap A → Prop) : Prop :=
 nilP a0 fun v1 =>
 fadP 2 v1 fun v2 =>
 ldP 1 false v2 h fun v3 =>
 iteP v3
 (K (.int .i64 801) h)
 (loopP G (fun v30 h k5 =>
 (fun v4 =>
 nilP a0 fun v6 =>
 fadP 1 v6 fun v7 =>
 ldP 1 false v7 h fun v8 =>
 lenP v8 fun v9 =>
 binP .lss .other v4 v9 fun v10 =>
 iteP v10
 (nilP a0 fun v11 =>
 fadP 0 v11 fun v12 =>
 nilP a0 fun v13 =>
 fadP 1 v13 fun v14 =>
 nilP a0 fun v15 =>
 fadP 1 v15 fun v16 =>
 ldP 1 false v12 h fun v17 =>
 ldP 1 false v14 h fun v18 =>
 idxP 2 v18 v4 fun v19 =>
 fadP 0 v19 fun v20 =>
 ldP 1 false v20 h fun v21 =>
 ldP 1 false v16 h fun v22 =>
 ldV 1 false v20 h = some v21 ∧
 ldV 1 false v14 h = some v18 ∧
 ldV 1 false v12 h = some v17 ∧
 idxP 2 v22 v4 fun v23 =>
 fadP 1 v23 fun v24 =>
 ldP 1 false v24 h fun v25 =>
 ldV 1 false v20 h = some v21 ∧
 ldV 1 false v14 h = some v18 ∧
 ldV 1 false v12 h = some v17 ∧
 idxP 1 v17 v21 fun v26 =>
 stP 1 v26 v25 h fun h =>
 binP .add .other v4 (.int .i64 1) fun v27 =>
 k5 [v27] h)
 (nilP a0 fun v28 =>
 fadP 1 v28 fun v29 =>
 stP 1 v29 .nils h fun h =>
 K (.int .i64 0) h)) (v30.getD 0 .any)) [.int .i64 0] h)
theorem q_ref1_Disk_Flush (S : FuncId → List AVal → AHeap A → (AVal → AHeap A → Prop) → Prop) (G : Nat → AHeap A → List AVal → (List AVal → AHeap A → Prop) → Prop) (a0 : AVal) (h : AHeap A) (K : AVal → AHeap A → Prop) : funP Try.prog S G Try.f48 (.two none .leaf (.two none .leaf (.two none (.two none .leaf (.one [] (.one [3] (.two none .leaf (.two none (.one [] (.draw none (.take 0 (.take 1 (.take 2 (.take 4 (.take 5 (.take 6 (.take 8 (.take 12 (.take 13 (.take 14 (.take 16 (.load 3 (.load 7 (.take 9 (.take 10 (.load 11 (.alt 15 (.take 17 (.take 18 (.alt 19 (.take 20 (.alt 21 .stop .stop)) .stop))) .stop))))))))))))))))))) .leaf))))) .leaf))) [a0] h K = p_ref1_Disk_Flush S G a0 h K := by kernel_rfl
theorem c_ref1_Disk_Flush {R : Adts A} {h : AHeap A} {K : AVal → AHeap A → Prop} {a0 : AVal} (hk : p_ref1_Disk_Flush (Tri Pr R) (Gives Pr R) a0 h K) : Tri Pr R n_ref1_Disk_Flush [a0] h K :=
  tri_of_funP (by kernel_rfl) (fun _ _ _ _ h => h) (fun _ _ _ _ h => h) Try.func48 (by rw [q_ref1_Disk_Flush]; exact hk)
/-- (*bastion/disk.Disk).Crash -/
def p_disk_Disk_Crash (S : FuncId → List AVal → AHeap A → (AVal → AHeap A → Prop) → Prop) (G : Nat → AHeap A → List AVal → (List AVal → AHeap A → Prop) → Prop) (a0 a1 a2 : AVal) (h : AHeap A) (K : AVal → AHeap A → Prop) : Prop :=
 binP .eql .ptr a0 .nilp fun v1 =>
 iteP v1
 (K (.int .i64 1) h)
 (nilP a0 fun v2 =>
 fadP 2 v2 fun v3 =>
 ldP 1 false v3 h fun v4 =>
 iteP v4
 (K (.int .i64 801) h)
 (binP .lss .other a1 (.int .i64 0) fun v5 =>
 condP v5 false (fun k6 =>
 binP .lss .other a2 (.int .i64 0) fun v7 =>
 k6 v7 h)
 (.bool true) h fun v8 h =>
 iteP v8
 (K (.int .i64 800) h)
 (nilP a0 fun v9 =>
 fadP 1 v9 fun v10 =>
 ldP 1 false v10 h fun v11 =>
 lenP v11 fun v12 =>
 loopP G (fun v64 h k15 =>
 (fun v13 v14 =>
 binP .lss .other v14 v12 fun v16 =>
 iteP v16
 (joinP G h.length (fun k17 =>
 idxP 2 v11 v14 fun v18 =>
 ldP 2 true v18 h fun v19 =>
 newP t_disk_write [.int .i64 0, .str []] h fun v20 h =>
 stP 2 v20 v19 h fun h =>
 binP .lss .other v14 (.int .i64 30) fun v21 =>
 condP v21 true (fun k22 =>
 binP .shr .other a1 v14 fun v23 =>
 binP .and .other v23 (.int .i64 1) fun v24 =>
 binP .eql .other v24 (.int .i64 1) fun v25 =>
 k22 v25 h)
 (.bool false) h fun v26 h =>
 iteP v26
 (nilP a0 fun v27 =>
 fadP 0 v27 fun v28 =>
 fadP 0 v20 fun v29 =>
 fadP 1 v20 fun v30 =>
 ldP 1 false v28 h fun v31 =>
 ldP 1 false v29 h fun v32 =>
 ldP 1 false v30 h fun v33 =>
 ldV 1 false v29 h = some v32 ∧
 ldV 1 false v28 h = some v31 ∧
 idxP 1 v31 v32 fun v34 =>
 stP 1 v34 v33 h fun h =>
 k17 [v13] h)
 (iteP v13
 (fadP 1 v20 fun v35 =>
 ldP 1 false v35 h fun v36 =>
 lnsP v36 fun v37 =>
 minP [a2, v37] fun v38 =>
 nilP a0 fun v39 =>
 fadP 0 v39 fun v40 =>
 fadP 0 v20 fun v41 =>
 fadP 1 v20 fun v42 =>
 nilP a0 fun v43 =>
 fadP 0 v43 fun v44 =>
 fadP 0 v20 fun v45 =>
 ldP 1 false v40 h fun v46 =>
 ldP 1 false v41 h fun v47 =>
 ldP 1 false v42 h fun v48 =>
 subP v48 none (some v38) fun v49 =>
 ldP 1 false v44 h fun v50 =>
 ldP 1 false v45 h fun v51 =>
 ldV 1 false v44 h = some v50 ∧
 ldV 1 false v42 h = some v48 ∧
 ldV 1 false v41 h = some v47 ∧
 ldV 1 false v40 h = some v46 ∧
 idxP 1 v50 v51 fun v52 =>
 ldP 1 false v52 h fun v53 =>
 ldV 1 false v42 h = some v48 ∧
 ldV 1 false v41 h = some v47 ∧
 ldV 1 false v40 h = some v46 ∧
 subP v53 (some v38) none fun v54 =>
 binP .add .other v49 v54 fun v55 =>
 idxP 1 v46 v47 fun v56 =>
 stP 1 v56 v55 h fun h =>
 k17 [.bool false] h)
 (k17 [v13] h)))
 (fun v59 h =>
 (fun v57 =>
 binP .add .other v14 (.int .i64 1) fun v58 =>
 k15 [v57, v58] h) (v59.getD 0 .any)))
 (nilP a0 fun v60 =>
 fadP 1 v60 fun v61 =>
 stP 1 v61 .nils h fun h =>
 nilP a0 fun v62 =>
 fadP 2 v62 fun v63 =>
 stP 1 v63 (.bool true) h fun h =>
 K (.int .i64 0) h)) (v64.getD 0 .any) (v64.getD 1 .any)) [.bool true, .int .i64 0] h)))
theorem q_disk_Disk_Crash (S : FuncId → List AVal → AHeap A → (AVal → AHeap A → Prop) → Prop) (G : Nat → AHeap A → List AVal → (List AVal → AHeap A → Prop) → Prop) (a0 a1 a2 : AVal) (h : AHeap A) (K : AVal → AHeap A → Prop) : funP Try.prog S G Try.f49 (.two none .leaf (.two none .leaf (.two none .leaf (.two none (.two none .leaf (.one [] (.one [7, 31] (.two none .leaf (.two none .leaf (.two (some [7]) (.one [] (.two none .leaf (.one [] (.two none .leaf (.two none (.draw none (.take 0 (.take 1 (.take 2 (.take 4 (.take 6 (.load 3 (.load 5 (.alt 7 (.take 8 (.alt 9 .stop .stop)) .stop))))))))) (.two none .leaf (.two none (.two none .leaf (.two none (.draw none (.take 0 (.take 1 (.take 2 (.take 4 (.take 6 (.take 8 (.take 10 (.take 11 (.take 12 (.take 14 (.take 18 (.load 3 (.load 5 (.load 7 (.take 9 (.load 13 (.alt 15 (.take 16 (.alt 17 (.take 19 (.take 20 (.take 21 (.alt 22 .stop .stop)))) .stop)) .stop)))))))))))))))))) .leaf)) .leaf))))))) .leaf)))))) .leaf)))) [a0, a1, a2] h K = p_disk_Disk_Crash S G a0 a1 a2 h K := by kernel_rfl
theorem c_disk_Disk_Crash {R : Adts A} {h : AHeap A} {K : AVal → AHeap A → Prop} {a0 a1 a2 : AVal} (hk : p_disk_Disk_Crash (Tri Pr R) (Gives Pr R) a0 a1 a2 h K) : Tri Pr R n_disk_Disk_Crash [a0, a1, a2] h K :=
  tri_of_funP (by kernel_rfl) (fun _ _ _ _ h => h) (fun _ _ _ _ h => h) Try.func49 (by rw [q_disk_Disk_Crash]; exact hk)
/-- (*bastion/bastionref1.Disk).Crash -/
def p_ref1_Disk_Crash (S : FuncId → List AVal → AHeap A → (AVal → AHeap A → Prop) → Prop) (G : Nat → AHeap A → List AVal → (List AVal → AHeap A → Prop) → Prop) (a0 a1 a2 : AVal) (h : AHeap A) (K : AVal → AHeap A → Prop) : Prop :=
 nilP a0 fun v1 =>
 fadP 2 v1 fun v2 =>
 ldP 1 false v2 h fun v3 =>
 iteP v3
 (K (.int .i64 801) h)
 (binP .lss .other a1 (.int .i64 0) fun v4 =>
 condP v4 false (fun k5 =>
 binP .lss .other a2 (.int .i64 0) fun v6 =>
 k5 v6 h)
 (.bool true) h fun v7 h =>
 iteP v7
 (K (.int .i64 800) h)
 (loopP G (fun v65 h k10 =>
 (fun v8 v9 =>
 nilP a0 fun v11 =>
 fadP 1 v11 fun v12 =>
 ldP 1 false v12 h fun v13 =>
 lenP v13 fun v14 =>
 binP .lss .other v9 v14 fun v15 =>
 iteP v15
 (joinP G h.length (fun k16 =>
 nilP a0 fun v17 =>
 fadP 1 v17 fun v18 =>
 ldP 1 false v18 h fun v19 =>
 idxP 2 v19 v9 fun v20 =>
 ldP 2 true v20 h fun v21 =>
 newP t_bastionref1_write [.int .i64 0, .str []] h fun v22 h =>
 stP 2 v22 v21 h fun h =>
 binP .lss .other v9 (.int .i64 30) fun v23 =>
 condP v23 true (fun k24 =>
 cviP .u64 v9 fun v25 =>
 binP .shr .other a1 v25 fun v26 =>
 binP .and .other v26 (.int .i64 1) fun v27 =>
 binP .eql .other v27 (.int .i64 1) fun v28 =>
 k24 v28 h)
 (.bool false) h fun v29 h =>
 iteP v29
 (nilP a0 fun v30 =>
 fadP 0 v30 fun v31 =>
 fadP 0 v22 fun v32 =>
 fadP 1 v22 fun v33 =>
 ldP 1 false v31 h fun v34 =>
 ldP 1 false v32 h fun v35 =>
 ldP 1 false v33 h fun v36 =>
 ldV 1 false v32 h = some v35 ∧
 ldV 1 false v31 h = some v34 ∧
 idxP 1 v34 v35 fun v37 =>
 stP 1 v37 v36 h fun h =>
 k16 [v8] h)
 (notP v8 fun v38 =>
 iteP v38
 (minP [a2, .int .i64 64] fun v39 =>
 nilP a0 fun v40 =>
 fadP 0 v40 fun v41 =>
 fadP 0 v22 fun v42 =>
 fadP 1 v22 fun v43 =>
 nilP a0 fun v44 =>
 fadP 0 v44 fun v45 =>
 fadP 0 v22 fun v46 =>
 ldP 1 false v41 h fun v47 =>
 ldP 1 false v42 h fun v48 =>
 ldP 1 false v43 h fun v49 =>
 subP v49 none (some v39) fun v50 =>
 ldP 1 false v45 h fun v51 =>
 ldP 1 false v46 h fun v52 =>
 ldV 1 false v45 h = some v51 ∧
 ldV 1 false v43 h = some v49 ∧
 ldV 1 false v42 h = some v48 ∧
 ldV 1 false v41 h = some v47 ∧
 idxP 1 v51 v52 fun v53 =>
 ldP 1 false v53 h fun v54 =>
 ldV 1 false v43 h = some v49 ∧
 ldV 1 false v42 h = some v48 ∧
 ldV 1 false v41 h = some v47 ∧
 subP v54 (some v39) none fun v55 =>
 binP .add .other v50 v55 fun v56 =>
 idxP 1 v47 v48 fun v57 =>
 stP 1 v57 v56 h fun h =>
 k16 [.bool true] h)
 (k16 [v8] h)))
 (fun v60 h =>
 (fun v58 =>
 binP .add .other v9 (.int .i64 1) fun v59 =>
 k10 [v58, v59] h) (v60.getD 0 .any)))
 (nilP a0 fun v61 =>
 fadP 1 v61 fun v62 =>
 stP 1 v62 .nils h fun h =>
 nilP a0 fun v63 =>
 fadP 2 v63 fun v64 =>
 stP 1 v64 (.bool true) h fun h =>
 K (.int .i64 0) h)) (v65.getD 0 .any) (v65.getD 1 .any)) [.bool false, .int .i64 0] h))
theorem q_ref1_Disk_Crash (S : FuncId → List AVal → AHeap A → (AVal → AHeap A → Prop) → Prop) (G : Nat → AHeap A → List AVal → (List AVal → AHeap A → Prop) → Prop) (a0 a1 a2 : AVal) (h : AHeap A) (K : AVal → AHeap A → Prop) : funP Try.prog S G Try.f50 (.two none .leaf (.two none .leaf (.two none .leaf (.two none (.two none .leaf (.one [] (.one [7, 8] (.two none .leaf (.two (some [7]) (.one [] (.two none .leaf (.one [] (.two none .leaf (.two none (.draw none (.take 0 (.take 1 (.take 2 (.take 4 (.take 6 (.load 3 (.load 5 (.alt 7 (.take 8 (.alt 9 .stop .stop)) .stop))))))))) (.two none .leaf (.two none (.two none .leaf (.two none (.draw none (.take 0 (.take 1 (.take 2 (.take 4 (.take 6 (.take 8 (.take 10 (.take 11 (.take 12 (.take 14 (.take 18 (.load 3 (.load 5 (.load 7 (.take 9 (.load 13 (.alt 15 (.take 16 (.alt 17 (.take 19 (.take 20 (.take 21 (.alt 22 .stop .stop)))) .stop)) .stop)))))))))))))))))) .leaf)) .leaf))))))) .leaf))))) .leaf)))) [a0, a1, a2] h K = p_ref1_Disk_Crash S G a0 a1 a2 h K := by kernel_rfl
theorem c_ref1_Disk_Crash {R : Adts A} {h : AHeap A} {K : AVal → AHeap A → Prop} {a0 a1 a2 : AVal} (hk : p_ref1_Disk_Crash (Tri Pr R) (Gives Pr R) a0 a1 a2 h K) : Tri Pr R n_ref1_Disk_Crash [a0, a1, a2] h K :=
  tri_of_funP (by kernel_rfl) (fun _ _ _ _ h => h) (fun _ _ _ _ h => h) Try.func50 (by rw [q_ref1_Disk_Crash]; exact hk)
/-- (*bastion/disk.Disk).Restart -/
def p_disk_Disk_Restart (S : FuncId → List AVal → AHeap A → (AVal → AHeap A → Prop) → Prop) (G : Nat → AHeap A → List AVal → (List AVal → AHeap A → Prop) → Prop) (a0 : AVal) (h : AHeap A) (K : AVal → AHeap A → Prop) : Prop :=
 binP .eql .ptr a0 .nilp fun v1 =>
 iteP v1
 (K (.int .i64 1) h)
 (nilP a0 fun v2 =>
 fadP 2 v2 fun v3 =>
 ldP 1 false v3 h fun v4 =>
 notP v4 fun v5 =>
 iteP v5
 (K (.int .i64 800) h)
 (nilP a0 fun v6 =>
 fadP 2 v6 fun v7 =>
 stP 1 v7 (.bool false) h fun h =>
 K (.int .i64 0) h))
theorem q_disk_Disk_Restart (S : FuncId → List AVal → AHeap A → (AVal → AHeap A → Prop) → Prop) (G : Nat → AHeap A → List AVal → (List AVal → AHeap A → Prop) → Prop) (a0 : AVal) (h : AHeap A) (K : AVal → AHeap A → Prop) : funP Try.prog S G Try.f51 .leaf [a0] h K = p_disk_Disk_Restart S G a0 h K := by kernel_rfl
theorem c_disk_Disk_Restart {R : Adts A} {h : AHeap A} {K : AVal → AHeap A → Prop} {a0 : AVal} (hk : p_disk_Disk_Restart (Tri Pr R) (Gives Pr R) a0 h K) : Tri Pr R n_disk_Disk_Restart [a0] h K :=
  tri_of_funP (by kernel_rfl) (fun _ _ _ _ h => h) (fun _ _ _ _ h => h) Try.func51 (by rw [q_disk_Disk_Restart]; exact hk)
/-- (*bastion/bastionref1.Disk).Restart -/
def p_ref1_Disk_Restart (S : FuncId → List AVal → AHeap A → (AVal → AHeap A → Prop) → Prop) (G : Nat → AHeap A → List AVal → (List AVal → AHeap A → Prop) → Prop) (a0 : AVal) (h : AHeap A) (K : AVal → AHeap A → Prop) : Prop :=
 nilP a0 fun v1 =>
 fadP 2 v1 fun v2 =>
 ldP 1 false v2 h fun v3 =>
 notP v3 fun v4 =>
 iteP v4
 (K (.int .i64 800) h)
 (nilP a0 fun v5 =>
 fadP 2 v5 fun v6 =>
 stP 1 v6 (.bool false) h fun h =>
 K (.int .i64 0) h)
theorem q_ref1_Disk_Restart (S : FuncId → List AVal → AHeap A → (AVal → AHeap A → Prop) → Prop) (G : Nat → AHeap A → List AVal → (List AVal → AHeap A → Prop) → Prop) (a0 : AVal) (h : AHeap A) (K : AVal → AHeap A → Prop) : funP Try.prog S G Try.f52 .leaf [a0] h K = p_ref1_Disk_Restart S G a0 h K := by kernel_rfl
theorem c_ref1_Disk_Restart {R : Adts A} {h : AHeap A} {K : AVal → AHeap A → Prop} {a0 : AVal} (hk : p_ref1_Disk_Restart (Tri Pr R) (Gives Pr R) a0 h K) : Tri Pr R n_ref1_Disk_Restart [a0] h K :=
  tri_of_funP (by kernel_rfl) (fun _ _ _ _ h => h) (fun _ _ _ _ h => h) Try.func52 (by rw [q_ref1_Disk_Restart]; exact hk)
/-- (*bastion/disk.Disk).Waits -/
def p_disk_Disk_Waits (S : FuncId → List AVal → AHeap A → (AVal → AHeap A → Prop) → Prop) (G : Nat → AHeap A → List AVal → (List AVal → AHeap A → Prop) → Prop) (a0 : AVal) (h : AHeap A) (K : AVal → AHeap A → Prop) : Prop :=
 binP .eql .ptr a0 .nilp fun v1 =>
 iteP v1
 (K (.int .i64 0) h)
 (nilP a0 fun v2 =>
 fadP 1 v2 fun v3 =>
 ldP 1 false v3 h fun v4 =>
 lenP v4 fun v5 =>
 K v5 h)
theorem q_disk_Disk_Waits (S : FuncId → List AVal → AHeap A → (AVal → AHeap A → Prop) → Prop) (G : Nat → AHeap A → List AVal → (List AVal → AHeap A → Prop) → Prop) (a0 : AVal) (h : AHeap A) (K : AVal → AHeap A → Prop) : funP Try.prog S G Try.f53 .leaf [a0] h K = p_disk_Disk_Waits S G a0 h K := by kernel_rfl
theorem c_disk_Disk_Waits {R : Adts A} {h : AHeap A} {K : AVal → AHeap A → Prop} {a0 : AVal} (hk : p_disk_Disk_Waits (Tri Pr R) (Gives Pr R) a0 h K) : Tri Pr R n_disk_Disk_Waits [a0] h K :=
  tri_of_funP (by kernel_rfl) (fun _ _ _ _ h => h) (fun _ _ _ _ h => h) Try.func53 (by rw [q_disk_Disk_Waits]; exact hk)
/-- (*bastion/bastionref1.Disk).Waits -/
def p_ref1_Disk_Waits (S : FuncId → List AVal → AHeap A → (AVal → AHeap A → Prop) → Prop) (G : Nat → AHeap A → List AVal → (List AVal → AHeap A → Prop) → Prop) (a0 : AVal) (h : AHeap A) (K : AVal → AHeap A → Prop) : Prop :=
 nilP a0 fun v1 =>
 fadP 1 v1 fun v2 =>
 ldP 1 false v2 h fun v3 =>
 lenP v3 fun v4 =>
 K v4 h
theorem q_ref1_Disk_Waits (S : FuncId → List AVal → AHeap A → (AVal → AHeap A → Prop) → Prop) (G : Nat → AHeap A → List AVal → (List AVal → AHeap A → Prop) → Prop) (a0 : AVal) (h : AHeap A) (K : AVal → AHeap A → Prop) : funP Try.prog S G Try.f54 .leaf [a0] h K = p_ref1_Disk_Waits S G a0 h K := by kernel_rfl
theorem c_ref1_Disk_Waits {R : Adts A} {h : AHeap A} {K : AVal → AHeap A → Prop} {a0 : AVal} (hk : p_ref1_Disk_Waits (Tri Pr R) (Gives Pr R) a0 h K) : Tri Pr R n_ref1_Disk_Waits [a0] h K :=
  tri_of_funP (by kernel_rfl) (fun _ _ _ _ h => h) (fun _ _ _ _ h => h) Try.func54 (by rw [q_ref1_Disk_Waits]; exact hk)
/-- (*bastion/disk.Disk).Read -/
def p_disk_Disk_Read (S : FuncId → List AVal → AHeap A → (AVal → AHeap A → Prop) → Prop) (G : Nat → AHeap A → List AVal → (List AVal → AHeap A → Prop) → Prop) (a0 a1 : AVal) (h : AHeap A) (K : AVal → AHeap A → Prop) : Prop :=
 binP .eql .ptr a0 .nilp fun v1 =>
 iteP v1
 (K (.tup [.str [], .int .i64 1]) h)
 (nilP a0 fun v2 =>
 fadP 2 v2 fun v3 =>
 ldP 1 false v3 h fun v4 =>
 iteP v4
 (K (.tup [.str [], .int .i64 801]) h)
 (S n_disk_Disk_there [a0, a1] h fun v5 h =>
 notP v5 fun v6 =>
 iteP v6
 (K (.tup [.str [], .int .i64 800]) h)
 (nilP a0 fun v7 =>
 fadP 0 v7 fun v8 =>
 ldP 1 false v8 h fun v9 =>
 idxP 1 v9 a1 fun v10 =>
 ldP 1 false v10 h fun v11 =>
 nilP a0 fun v12 =>
 fadP 1 v12 fun v13 =>
 ldP 1 false v13 h fun v14 =>
 lenP v14 fun v15 =>
 loopP G (fun v32 h k18 =>
 (fun v16 v17 =>
 binP .lss .other v17 v15 fun v19 =>
 iteP v19
 (joinP G h.length (fun k20 =>
 idxP 2 v14 v17 fun v21 =>
 ldP 2 true v21 h fun v22 =>
 newP t_disk_write [.int .i64 0, .str []] h fun v23 h =>
 stP 2 v23 v22 h fun h =>
 fadP 0 v23 fun v24 =>
 ldP 1 false v24 h fun v25 =>
 binP .eql .other v25 a1 fun v26 =>
 iteP v26
 (fadP 1 v23 fun v27 =>
 ldP 1 false v27 h fun v28 =>
 k20 [v28] h)
 (k20 [v16] h))
 (fun v31 h =>
 (fun v29 =>
 binP .add .other v17 (.int .i64 1) fun v30 =>
 k18 [v29, v30] h) (v31.getD 0 .any)))
 (K (.tup [v16, .int .i64 0]) h)) (v32.getD 0 .any) (v32.getD 1 .any)) [v11, .int .i64 0] h)))
theorem q_disk_Disk_Read (S : FuncId → List AVal → AHeap A → (AVal → AHeap A → Prop) → Prop) (G : Nat → AHeap A → List AVal → (List AVal → AHeap A → Prop) → Prop) (a0 a1 : AVal) (h : AHeap A) (K : AVal → AHeap A → Prop) : funP Try.prog S G Try.f55 (.two none .leaf (.two none .leaf (.two none .leaf (.two none (.two none .leaf (.one [] (.one [6, 34] (.two none .leaf (.two none .leaf (.two (some [6]) .leaf .leaf)))))) .leaf)))) [a0, a1] h K = p_disk_Disk_Read S G a0 a1 h K := by kernel_rfl
theorem c_disk_Disk_Read {R : Adts A} {h : AHeap A} {K : AVal → AHeap A → Prop} {a0 a1 : AVal} (hk : p_disk_Disk_Read (Tri Pr R) (Gives Pr R) a0 a1 h K) : Tri Pr R n_disk_Disk_Read [a0, a1] h K :=
  tri_of_funP (by kernel_rfl) (fun _ _ _ _ h => h) (fun _ _ _ _ h => h) Try.func55 (by rw [q_disk_Disk_Read]; exact hk)
/-- (*bastion/bastionref1.Disk).Read -/
def p_ref1_Disk_Read (S : FuncId → List AVal → AHeap A → (AVal → AHeap A → Prop) → Prop) (G : Nat → AHeap A → List AVal → (List AVal → AHeap A → Prop) → Prop) (a0 a1 : AVal) (h : AHeap A) (K : AVal → AHeap A → Prop) : Prop :=
 nilP a0 fun v1 =>
 fadP 2 v1 fun v2 =>
 ldP 1 false v2 h fun v3 =>
 iteP v3
 (K (.tup [.str [], .int .i64 801]) h)
 (binP .lss .other a1 (.int .i64 0) fun v4 =>
 condP v4 false (fun k5 =>
 nilP a0 fun v6 =>
 fadP 0 v6 fun v7 =>
 ldP 1 false v7 h fun v8 =>
 lenP v8 fun v9 =>
 binP .geq .other a1 v9 fun v10 =>
 k5 v10 h)
 (.bool true) h fun v11 h =>
 iteP v11
 (K (.tup [.str [], .int .i64 800]) h)
 (nilP a0 fun v12 =>
 fadP 1 v12 fun v13 =>
 ldP 1 false v13 h fun v14 =>
 lenP v14 fun v15 =>
 binP .sub .other v15 (.int .i64 1) fun v16 =>
 loopP G (fun v39 h k18 =>
 (fun v17 =>
 binP .geq .other v17 (.int .i64 0) fun v19 =>
 iteP v19
 (nilP a0 fun v20 =>
 fadP 1 v20 fun v21 =>
 ldP 1 false v21 h fun v22 =>
 idxP 2 v22 v17 fun v23 =>
 fadP 0 v23 fun v24 =>
 ldP 1 false v24 h fun v25 =>
 binP .eql .other v25 a1 fun v26 =>
 iteP v26
 (nilP a0 fun v27 =>
 fadP 1 v27 fun v28 =>
 ldP 1 false v28 h fun v29 =>
 idxP 2 v29 v17 fun v30 =>
 fadP 1 v30 fun v31 =>
 ldP 1 false v31 h fun v32 =>
 K (.tup [v32, .int .i64 0]) h)
 (binP .sub .other v17 (.int .i64 1) fun v33 =>
 k18 [v33] h))
 (nilP a0 fun v34 =>
 fadP 0 v34 fun v35 =>
 ldP 1 false v35 h fun v36 =>
 idxP 1 v36 a1 fun v37 =>
 ldP 1 false v37 h fun v38 =>
 K (.tup [v38, .int .i64 0]) h)) (v39.getD 0 .any)) [v16] h))
theorem q_ref1_Disk_Read (S : FuncId → List AVal → AHeap A → (AVal → AHeap A → Prop) → Prop) (G : Nat → AHeap A → List AVal → (List AVal → AHeap A → Prop) → Prop) (a0 a1 : AVal) (h : AHeap A) (K : AVal → AHeap A → Prop) : funP Try.prog S G Try.f56 (.two none .leaf (.two none .leaf (.two none (.two none .leaf (.one [] (.one [6] .leaf))) .leaf))) [a0, a1] h K = p_ref1_Disk_Read S G a0 a1 h K := by kernel_rfl
theorem c_ref1_Disk_Read {R : Adts A} {h : AHeap A} {K : AVal → AHeap A → Prop} {a0 a1 : AVal} (hk : p_ref1_Disk_Read (Tri Pr R) (Gives Pr R) a0 a1 h K) : Tri Pr R n_ref1_Disk_Read [a0, a1] h K :=
  tri_of_funP (by kernel_rfl) (fun _ _ _ _ h => h) (fun _ _ _ _ h => h) Try.func56 (by rw [q_ref1_Disk_Read]; exact hk)
/-- bastion/bastionref0.Decimal -/
def p_ref0_Decimal (S : FuncId → List AVal → AHeap A → (AVal → AHeap A → Prop) → Prop) (G : Nat → AHeap A → List AVal → (List AVal → AHeap A → Prop) → Prop) (a0 : AVal) (h : AHeap A) (K : AVal → AHeap A → Prop) : Prop :=
 cviP .u64 a0 fun v1 =>
 joinP G h.length (fun k2 =>
 binP .lss .other a0 (.int .i64 0) fun v3 =>
 iteP v3
 (binP .add .other a0 (.int .i64 1) fun v4 =>
 negP v4 fun v5 =>
 cviP .u64 v5 fun v6 =>
 binP .add .other v6 (.int .u64 1) fun v7 =>
 k2 [v7] h)
 (k2 [v1] h))
 (fun v31 h =>
 (fun v8 =>
 loopP G (fun v30 h k11 =>
 (fun v9 v10 =>
 binP .gtr .other v9 (.int .u64 0) fun v12 =>
 condP v12 false (fun k13 =>
 lenP v10 fun v14 =>
 binP .eql .other v14 (.int .i64 0) fun v15 =>
 k13 v15 h)
 (.bool true) h fun v16 h =>
 iteP v16
 (binP .rem .other v9 (.int .u64 10) fun v17 =>
 binP .add .other (.int .u64 48) v17 fun v18 =>
 cviP .u8 v18 fun v19 =>
 bslP t_uint8 1 [.int .u8 0] [(0, 1, v19)] h fun v20 h =>
 appP t_uint8 1 1 v20 v10 h fun v21 h =>
 binP .quo .other v9 (.int .u64 10) fun v22 =>
 k11 [v22, v21] h)
 (joinP G h.length (fun k23 =>
 binP .lss .other a0 (.int .i64 0) fun v24 =>
 iteP v24
 (bslP t_uint8 1 [.int .u8 0] [(0, 1, .int .u8 45)] h fun v25 h =>
 appP t_uint8 1 1 v25 v10 h fun v26 h =>
 k23 [v26] h)
 (k23 [v10] h))
 (fun v29 h =>
 (fun v27 =>
 b2sP v27 h fun v28 =>
 K v28 h) (v29.getD 0 .any)))) (v30.getD 0 .any) (v30.getD 1 .any)) [v8, .nils] h) (v31.getD 0 .any))
theorem q_ref0_Decimal (S : FuncId → List AVal → AHeap A → (AVal → AHeap A → Prop) → Prop) (G : Nat → AHeap A → List AVal → (List AVal → AHeap A → Prop) → Prop) (a0 : AVal) (h : AHeap A) (K : AVal → AHeap A → Prop) : funP Try.prog S G Try.f57 (.two none .leaf (.two none .leaf (.two (some [3]) .leaf (.two none .leaf (.two none (.one [] (.one [3, 4] .leaf)) (.two (some [4]) .leaf .leaf)))))) [a0] h K = p_ref0_Decimal S G a0 h K := by kernel_rfl
theorem c_ref0_Decimal {R : Adts A} {h : AHeap A} {K : AVal → AHeap A → Prop} {a0 : AVal} (hk : p_ref0_Decimal (Tri Pr R) (Gives Pr R) a0 h K) : Tri Pr R n_ref0_Decimal [a0] h K :=
  tri_of_funP (by kernel_rfl) (fun _ _ _ _ h => h) (fun _ _ _ _ h => h) Try.func57 (by rw [q_ref0_Decimal]; exact hk)
/-- bastion/bastionref12.RingKey -/
def p_ref12_RingKey (S : FuncId → List AVal → AHeap A → (AVal → AHeap A → Prop) → Prop) (G : Nat → AHeap A → List AVal → (List AVal → AHeap A → Prop) → Prop) (a0 a1 : AVal) (h : AHeap A) (K : AVal → AHeap A → Prop) : Prop :=
 S n_ref12_num [a1] h fun v1 h =>
 notP v1 fun v2 =>
 iteP v2
 (K (.tup [.int .i64 0, .int .i64 1400]) h)
 (bslP t_int 1 [.int .i64 0] [(0, 1, a1)] h fun v3 h =>
 S n_ref1_Nums [v3] h fun v4 h =>
 binP .add .other (.str [101, 112, 111, 99, 104]) v4 fun v5 =>
 S n_ref1_Atom [a0, v5] h fun v6 h =>
 extP v6 0 fun v7 =>
 extP v6 1 fun v8 =>
 binP .neq .other v8 (.int .i64 0) fun v9 =>
 iteP v9
 (K (.tup [.int .i64 0, .int .i64 1400]) h)
 (K (.tup [v7, .int .i64 0]) h))
theorem q_ref12_RingKey (S : FuncId → List AVal → AHeap A → (AVal → AHeap A → Prop) → Prop) (G : Nat → AHeap A → List AVal → (List AVal → AHeap A → Prop) → Prop) (a0 a1 : AVal) (h : AHeap A) (K : AVal → AHeap A → Prop) : funP Try.prog S G Try.f58 .leaf [a0, a1] h K = p_ref12_RingKey S G a0 a1 h K := by kernel_rfl
theorem c_ref12_RingKey {R : Adts A} {h : AHeap A} {K : AVal → AHeap A → Prop} {a0 a1 : AVal} (hk : p_ref12_RingKey (Tri Pr R) (Gives Pr R) a0 a1 h K) : Tri Pr R n_ref12_RingKey [a0, a1] h K :=
  tri_of_funP (by kernel_rfl) (fun _ _ _ _ h => h) (fun _ _ _ _ h => h) Try.func58 (by rw [q_ref12_RingKey]; exact hk)
/-- bastion/bastionref12.RingLive -/
def p_ref12_RingLive (S : FuncId → List AVal → AHeap A → (AVal → AHeap A → Prop) → Prop) (G : Nat → AHeap A → List AVal → (List AVal → AHeap A → Prop) → Prop) (a0 a1 a2 : AVal) (h : AHeap A) (K : AVal → AHeap A → Prop) : Prop :=
 S n_ref12_num [a0] h fun v1 h =>
 condP v1 true (fun k2 =>
 S n_ref12_num [a1] h fun v3 h =>
 k2 v3 h)
 (.bool false) h fun v4 h =>
 condP v4 true (fun k5 =>
 S n_ref12_num [a2] h fun v6 h =>
 k5 v6 h)
 (.bool false) h fun v7 h =>
 condP v7 true (fun k8 =>
 binP .leq .other a0 a1 fun v9 =>
 k8 v9 h)
 (.bool false) h fun v10 h =>
 condP v10 true (fun k11 =>
 binP .sub .other a1 a0 fun v12 =>
 binP .leq .other v12 a2 fun v13 =>
 k11 v13 h)
 (.bool false) h fun v14 h =>
 K v14 h
theorem q_ref12_RingLive (S : FuncId → List AVal → AHeap A → (AVal → AHeap A → Prop) → Prop) (G : Nat → AHeap A → List AVal → (List AVal → AHeap A → Prop) → Prop) (a0 a1 a2 : AVal) (h : AHeap A) (K : AVal → AHeap A → Prop) : funP Try.prog S G Try.f59 .leaf [a0, a1, a2] h K = p_ref12_RingLive S G a0 a1 a2 h K := by kernel_rfl
theorem c_ref12_RingLive {R : Adts A} {h : AHeap A} {K : AVal → AHeap A → Prop} {a0 a1 a2 : AVal} (hk : p_ref12_RingLive (Tri Pr R) (Gives Pr R) a0 a1 a2 h K) : Tri Pr R n_ref12_RingLive [a0, a1, a2] h K :=
  tri_of_funP (by kernel_rfl) (fun _ _ _ _ h => h) (fun _ _ _ _ h => h) Try.func59 (by rw [q_ref12_RingLive]; exact hk)
/-- bastion/bastionlaw14.sameBooks -/
def p_law14_sameBooks (S : FuncId → List AVal → AHeap A → (AVal → AHeap A → Prop) → Prop) (G : Nat → AHeap A → List AVal → (List AVal → AHeap A → Prop) → Prop) (a0 a1 : AVal) (h : AHeap A) (K : AVal → AHeap A → Prop) : Prop :=
 nilP a1 fun v1 =>
 fadP 1 v1 fun v2 =>
 ldP 1 false v2 h fun v3 =>
 lenP v3 fun v4 =>
 S n_book_Book_Len [a0] h fun v5 h =>
 ldV 1 false v2 h = some v3 ∧
 binP .neq .other v5 v4 fun v6 =>
 iteP v6
 (K (.bool false) h)
 (nilP a1 fun v7 =>
 fadP 1 v7 fun v8 =>
 ldP 1 false v8 h fun v9 =>
 lenP v9 fun v10 =>
 binP .sub .other v10 (.int .i64 40) fun v11 =>
 maxP [.int .i64 0, v11] fun v12 =>
 loopP G (fun v34 h k14 =>
 (fun v13 =>
 nilP a1 fun v15 =>
 fadP 1 v15 fun v16 =>
 ldP 1 false v16 h fun v17 =>
 lenP v17 fun v18 =>
 binP .lss .other v13 v18 fun v19 =>
 iteP v19
 (S n_book_Book_Term [a0, v13] h fun v20 h =>
 extP v20 0 fun v21 =>
 extP v20 1 fun v22 =>
 S n_law0_Num [v22] h fun v23 h =>
 binP .neq .other v23 (.int .i64 0) fun v24 =>
 condP v24 false (fun k25 =>
 nilP a1 fun v26 =>
 fadP 1 v26 fun v27 =>
 ldP 1 false v27 h fun v28 =>
 idxP 1 v28 v13 fun v29 =>
 ldP 1 false v29 h fun v30 =>
 binP .neq .other v21 v30 fun v31 =>
 k25 v31 h)
 (.bool true) h fun v32 h =>
 iteP v32
 (K (.bool false) h)
 (binP .add .other v13 (.int .i64 1) fun v33 =>
 k14 [v33] h))
 (K (.bool true) h)) (v34.getD 0 .any)) [v12] h)
theorem q_law14_sameBooks (S : FuncId → List AVal → AHeap A → (AVal → AHeap A → Prop) → Prop) (G : Nat → AHeap A → List AVal → (List AVal → AHeap A → Prop) → Prop) (a0 a1 : AVal) (h : AHeap A) (K : AVal → AHeap A → Prop) : funP Try.prog S G Try.f60 (.two none .leaf (.two none (.two none (.draw none (.take 0 (.take 2 (.take 3 (.take 4 (.load 5 (.take 6 (.alt 1 (.take 7 .stop) .stop)))))))) .leaf) (.two none (.two none .leaf (.one [] (.one [5] .leaf))) .leaf))) [a0, a1] h K = p_law14_sameBooks S G a0 a1 h K := by kernel_rfl
theorem c_law14_sameBooks {R : Adts A} {h : AHeap A} {K : AVal → AHeap A → Prop} {a0 a1 : AVal} (hk : p_law14_sameBooks (Tri Pr R) (Gives Pr R) a0 a1 h K) : Tri Pr R n_law14_sameBooks [a0, a1] h K :=
  tri_of_funP (by kernel_rfl) (fun _ _ _ _ h => h) (fun _ _ _ _ h => h) Try.func60 (by rw [q_law14_sameBooks]; exact hk)
/-- bastion/bastionlaw12.awake -/
def p_law12_awake (S : FuncId → List AVal → AHeap A → (AVal → AHeap A → Prop) → Prop) (G : Nat → AHeap A → List AVal → (List AVal → AHeap A → Prop) → Prop) (h : AHeap A) (K : AVal → AHeap A → Prop) : Prop :=
 S n_law12_twin [.int .i64 9, .nils] h fun v1 h =>
 extP v1 0 fun v2 =>
 extP v1 1 fun v3 =>
 binP .eql .ptr v2 .nilp fun v4 =>
 iteP v4
 (K (.bool false) h)
 (S n_totp_Code [v2, .int .i64 5, .int .i64 3] h fun v5 h =>
 extP v5 0 fun v6 =>
 extP v5 1 fun v7 =>
 S n_totp_Code [v2, .int .i64 5, .int .i64 0] h fun v8 h =>
 extP v8 0 fun v9 =>
 extP v8 1 fun v10 =>
 S n_totp_Accept [v2, .int .i64 5, .int .i64 0, .int .i64 30, v6] h fun v11 h =>
 extP v11 0 fun v12 =>
 extP v11 1 fun v13 =>
 S n_totp_Accept [v2, .int .i64 5, .int .i64 3, .int .i64 30, v6] h fun v14 h =>
 extP v14 0 fun v15 =>
 extP v14 1 fun v16 =>
 S n_totp_Accept [v2, .int .i64 5, .int .i64 0, .int .i64 120, v6] h fun v17 h =>
 extP v17 0 fun v18 =>
 extP v17 1 fun v19 =>
 S n_totp_Accept [v2, .int .i64 6, .int .i64 0, .int .i64 60, v6] h fun v20 h =>
 extP v20 0 fun v21 =>
 extP v20 1 fun v22 =>
 S n_totp_Step [.int .i64 0] h fun v23 h =>
 binP .eql .other v23 (.int .i64 1) fun v24 =>
 condP v24 true (fun k25 =>
 S n_totp_Step [.int .i64 59] h fun v26 h =>
 binP .eql .other v26 (.int .i64 2) fun v27 =>
 k25 v27 h)
 (.bool false) h fun v28 h =>
 condP v28 true (fun k29 =>
 S n_totp_Step [.int .i64 (-1)] h fun v30 h =>
 binP .eql .other v30 (.int .i64 0) fun v31 =>
 k29 v31 h)
 (.bool false) h fun v32 h =>
 condP v32 true (fun k33 =>
 S n_law0_Num [v7] h fun v34 h =>
 binP .eql .other v34 (.int .i64 0) fun v35 =>
 k33 v35 h)
 (.bool false) h fun v36 h =>
 condP v36 true (fun k37 =>
 S n_law0_Num [v10] h fun v38 h =>
 binP .eql .other v38 (.int .i64 1200) fun v39 =>
 k37 v39 h)
 (.bool false) h fun v40 h =>
 condP v40 true (fun k41 =>
 binP .eql .other v12 (.int .i64 3) fun v42 =>
 k41 v42 h)
 (.bool false) h fun v43 h =>
 condP v43 true (fun k44 =>
 k44 v13 h)
 (.bool false) h fun v45 h =>
 condP v45 true (fun k46 =>
 notP v16 fun v47 =>
 k46 v47 h)
 (.bool false) h fun v48 h =>
 condP v48 true (fun k49 =>
 notP v19 fun v50 =>
 k49 v50 h)
 (.bool false) h fun v51 h =>
 condP v51 true (fun k52 =>
 notP v22 fun v53 =>
 k52 v53 h)
 (.bool false) h fun v54 h =>
 condP v54 true (fun k55 =>
 S n_book_Book_Len [v2] h fun v56 h =>
 binP .eql .other v56 (.int .i64 1) fun v57 =>
 k55 v57 h)
 (.bool false) h fun v58 h =>
 K v58 h)
theorem q_law12_awake (S : FuncId → List AVal → AHeap A → (AVal → AHeap A → Prop) → Prop) (G : Nat → AHeap A → List AVal → (List AVal → AHeap A → Prop) → Prop) (h : AHeap A) (K : AVal → AHeap A → Prop) : funP Try.prog S G Try.f61 .leaf [] h K = p_law12_awake S G h K := by kernel_rfl
theorem c_law12_awake {R : Adts A} {h : AHeap A} {K : AVal → AHeap A → Prop} (hk : p_law12_awake (Tri Pr R) (Gives Pr R) h K) : Tri Pr R n_law12_awake [] h K :=
  tri_of_funP (by kernel_rfl) (fun _ _ _ _ h => h) (fun _ _ _ _ h => h) Try.func61 (by rw [q_law12_awake]; exact hk)
/-- bastion/bastionlaw12.twin -/
def p_law12_twin (S : FuncId → List AVal → AHeap A → (AVal → AHeap A → Prop) → Prop) (G : Nat → AHeap A → List AVal → (List AVal → AHeap A → Prop) → Prop) (a0 a1 : AVal) (h : AHeap A) (K : AVal → AHeap A → Prop) : Prop :=
 S n_book_New [a0] h fun v1 h =>
 extP v1 0 fun v2 =>
 extP v1 1 fun v3 =>
 S n_ref1_NewBook [a0] h fun v4 h =>
 extP v4 0 fun v5 =>
 extP v4 1 fun v6 =>
 S n_law0_Num [v3] h fun v7 h =>
 binP .neq .other v7 (.int .i64 0) fun v8 =>
 condP v8 false (fun k9 =>
 binP .neq .other v6 (.int .i64 0) fun v10 =>
 k9 v10 h)
 (.bool true) h fun v11 h =>
 condP v11 false (fun k12 =>
 binP .eql .ptr v2 .nilp fun v13 =>
 k12 v13 h)
 (.bool true) h fun v14 h =>
 iteP v14
 (K (.tup [.nilp, .nilp]) h)
 (loopP G (fun v29 h k16 =>
 (fun v15 =>
 lenP a1 fun v17 =>
 binP .lss .other v15 v17 fun v18 =>
 condP v18 true (fun k19 =>
 binP .lss .other v15 (.int .i64 400) fun v20 =>
 k19 v20 h)
 (.bool false) h fun v21 h =>
 iteP v21
 (idxP 1 a1 v15 fun v22 =>
 ldP 1 false v22 h fun v23 =>
 S n_book_Book_Name [v2, v23] h fun v24 h =>
 idxP 1 a1 v15 fun v25 =>
 ldP 1 false v25 h fun v26 =>
 S n_ref1_Book_Name [v5, v26] h fun v27 h =>
 binP .add .other v15 (.int .i64 1) fun v28 =>
 k16 [v28] h)
 (K (.tup [v2, v5]) h)) (v29.getD 0 .any)) [.int .i64 0] h)
theorem q_law12_twin (S : FuncId → List AVal → AHeap A → (AVal → AHeap A → Prop) → Prop) (G : Nat → AHeap A → List AVal → (List AVal → AHeap A → Prop) → Prop) (a0 a1 : AVal) (h : AHeap A) (K : AVal → AHeap A → Prop) : funP Try.prog S G Try.f62 (.two none .leaf (.two none .leaf (.two none .leaf (.two none .leaf (.two none (.two none .leaf (.one [] (.one [10] .leaf))) .leaf))))) [a0, a1] h K = p_law12_twin S G a0 a1 h K := by kernel_rfl
theorem c_law12_twin {R : Adts A} {h : AHeap A} {K : AVal → AHeap A → Prop} {a0 a1 : AVal} (hk : p_law12_twin (Tri Pr R) (Gives Pr R) a0 a1 h K) : Tri Pr R n_law12_twin [a0, a1] h K :=
  tri_of_funP (by kernel_rfl) (fun _ _ _ _ h => h) (fun _ _ _ _ h => h) Try.func62 (by rw [q_law12_twin]; exact hk)
/-- bastion/totp.Code -/
def p_totp_Code (S : FuncId → List AVal → AHeap A → (AVal → AHeap A → Prop) → Prop) (G : Nat → AHeap A → List AVal → (List AVal → AHeap A → Prop) → Prop) (a0 a1 a2 : AVal) (h : AHeap A) (K : AVal → AHeap A → Prop) : Prop :=
 binP .eql .ptr a0 .nilp fun v1 =>
 iteP v1
 (K (.tup [.int .i64 0, .int .i64 1]) h)
 (S n_field_Num [a2] h fun v2 h =>
 extP v2 0 fun v3 =>
 extP v2 1 fun v4 =>
 joinP G h.length (fun k5 =>
 S n_totp_stepMay [a2] h fun v6 h =>
 iteP v6
 (binP .add .other (.str [99, 111, 100, 101]) v3 fun v7 =>
 S n_craft_Mac [a0, a1, v7] h fun v8 h =>
 extP v8 0 fun v9 =>
 extP v8 1 fun v10 =>
 k5 [v9, v10] h)
 (k5 [.int .i64 0, .int .i64 300] h))
 (fun v14 h =>
 (fun v11 v12 =>
 binP .neq .other v12 (.int .i64 0) fun v13 =>
 iteP v13
 (K (.tup [.int .i64 0, .int .i64 1200]) h)
 (K (.tup [v11, .int .i64 0]) h)) (v14.getD 0 .any) (v14.getD 1 .any)))
theorem q_totp_Code (S : FuncId → List AVal → AHeap A → (AVal → AHeap A → Prop) → Prop) (G : Nat → AHeap A → List AVal → (List AVal → AHeap A → Prop) → Prop) (a0 a1 a2 : AVal) (h : AHeap A) (K : AVal → AHeap A → Prop) : funP Try.prog S G Try.f63 (.two none .leaf (.two none .leaf (.two none .leaf (.two none .leaf (.two (some [10, 11]) .leaf .leaf))))) [a0, a1, a2] h K = p_totp_Code S G a0 a1 a2 h K := by kernel_rfl
theorem c_totp_Code {R : Adts A} {h : AHeap A} {K : AVal → AHeap A → Prop} {a0 a1 a2 : AVal} (hk : p_totp_Code (Tri Pr R) (Gives Pr R) a0 a1 a2 h K) : Tri Pr R n_totp_Code [a0, a1, a2] h K :=
  tri_of_funP (by kernel_rfl) (fun _ _ _ _ h => h) (fun _ _ _ _ h => h) Try.func63 (by rw [q_totp_Code]; exact hk)
/-- bastion/totp.Accept -/
def p_totp_Accept (S : FuncId → List AVal → AHeap A → (AVal → AHeap A → Prop) → Prop) (G : Nat → AHeap A → List AVal → (List AVal → AHeap A → Prop) → Prop) (a0 a1 a2 a3 a4 : AVal) (h : AHeap A) (K : AVal → AHeap A → Prop) : Prop :=
 S n_totp_Step [a3] h fun v1 h =>
 binP .sub .other v1 (.int .i64 1) fun v2 =>
 maxP [.int .i64 1, v2] fun v3 =>
 loopP G (fun v20 h k5 =>
 (fun v4 =>
 binP .gtr .other v1 (.int .i64 0) fun v6 =>
 condP v6 true (fun k7 =>
 binP .add .other v1 (.int .i64 1) fun v8 =>
 binP .leq .other v4 v8 fun v9 =>
 k7 v9 h)
 (.bool false) h fun v10 h =>
 iteP v10
 (S n_field_Num [v4] h fun v11 h =>
 extP v11 0 fun v12 =>
 extP v11 1 fun v13 =>
 binP .gtr .other v4 a2 fun v14 =>
 condP v14 true (fun k15 =>
 binP .add .other (.str [99, 111, 100, 101]) v12 fun v16 =>
 S n_craft_IsMac [a0, a1, v16, a4] h fun v17 h =>
 k15 v17 h)
 (.bool false) h fun v18 h =>
 iteP v18
 (K (.tup [v4, .bool true]) h)
 (binP .add .other v4 (.int .i64 1) fun v19 =>
 k5 [v19] h))
 (K (.tup [.int .i64 0, .bool false]) h)) (v20.getD 0 .any)) [v3] h
theorem q_totp_Accept (S : FuncId → List AVal → AHeap A → (AVal → AHeap A → Prop) → Prop) (G : Nat → AHeap A → List AVal → (List AVal → AHeap A → Prop) → Prop) (a0 a1 a2 a3 a4 : AVal) (h : AHeap A) (K : AVal → AHeap A → Prop) : funP Try.prog S G Try.f64 (.two none .leaf (.two none .leaf (.two none (.two none .leaf (.one [] (.one [13] .leaf))) .leaf))) [a0, a1, a2, a3, a4] h K = p_totp_Accept S G a0 a1 a2 a3 a4 h K := by kernel_rfl
theorem c_totp_Accept {R : Adts A} {h : AHeap A} {K : AVal → AHeap A → Prop} {a0 a1 a2 a3 a4 : AVal} (hk : p_totp_Accept (Tri Pr R) (Gives Pr R) a0 a1 a2 a3 a4 h K) : Tri Pr R n_totp_Accept [a0, a1, a2, a3, a4] h K :=
  tri_of_funP (by kernel_rfl) (fun _ _ _ _ h => h) (fun _ _ _ _ h => h) Try.func64 (by rw [q_totp_Accept]; exact hk)
/-- (*bastion/book.Book).Len -/
def p_book_Book_Len (S : FuncId → List AVal → AHeap A → (AVal → AHeap A → Prop) → Prop) (G : Nat → AHeap A → List AVal → (List AVal → AHeap A → Prop) → Prop) (a0 : AVal) (h : AHeap A) (K : AVal → AHeap A → Prop) : Prop :=
 binP .eql .ptr a0 .nilp fun v1 =>
 iteP v1
 (K (.int .i64 0) h)
 (nilP a0 fun v2 =>
 fadP 1 v2 fun v3 =>
 ldP 1 false v3 h fun v4 =>
 lenP v4 fun v5 =>
 K v5 h)
theorem q_book_Book_Len (S : FuncId → List AVal → AHeap A → (AVal → AHeap A → Prop) → Prop) (G : Nat → AHeap A → List AVal → (List AVal → AHeap A → Prop) → Prop) (a0 : AVal) (h : AHeap A) (K : AVal → AHeap A → Prop) : funP Try.prog S G Try.f65 .leaf [a0] h K = p_book_Book_Len S G a0 h K := by kernel_rfl
theorem c_book_Book_Len {R : Adts A} {h : AHeap A} {K : AVal → AHeap A → Prop} {a0 : AVal} (hk : p_book_Book_Len (Tri Pr R) (Gives Pr R) a0 h K) : Tri Pr R n_book_Book_Len [a0] h K :=
  tri_of_funP (by kernel_rfl) (fun _ _ _ _ h => h) (fun _ _ _ _ h => h) Try.func65 (by rw [q_book_Book_Len]; exact hk)
/-- bastion/totp.Step -/
def p_totp_Step (S : FuncId → List AVal → AHeap A → (AVal → AHeap A → Prop) → Prop) (G : Nat → AHeap A → List AVal → (List AVal → AHeap A → Prop) → Prop) (a0 : AVal) (h : AHeap A) (K : AVal → AHeap A → Prop) : Prop :=
 S n_totp_TickMay [a0] h fun v1 h =>
 notP v1 fun v2 =>
 iteP v2
 (K (.int .i64 0) h)
 (binP .quo .other a0 (.int .i64 30) fun v3 =>
 binP .add .other v3 (.int .i64 1) fun v4 =>
 K v4 h)
theorem q_totp_Step (S : FuncId → List AVal → AHeap A → (AVal → AHeap A → Prop) → Prop) (G : Nat → AHeap A → List AVal → (List AVal → AHeap A → Prop) → Prop) (a0 : AVal) (h : AHeap A) (K : AVal → AHeap A → Prop) : funP Try.prog S G Try.f66 .leaf [a0] h K = p_totp_Step S G a0 h K := by kernel_rfl
theorem c_totp_Step {R : Adts A} {h : AHeap A} {K : AVal → AHeap A → Prop} {a0 : AVal} (hk : p_totp_Step (Tri Pr R) (Gives Pr R) a0 h K) : Tri Pr R n_totp_Step [a0] h K :=
  tri_of_funP (by kernel_rfl) (fun _ _ _ _ h => h) (fun _ _ _ _ h => h) Try.func66 (by rw [q_totp_Step]; exact hk)
/-- bastion/bastionlaw3.twin -/
def p_law3_twin (S : FuncId → List AVal → AHeap A → (AVal → AHeap A → Prop) → Prop) (G : Nat → AHeap A → List AVal → (List AVal → AHeap A → Prop) → Prop) (a0 a1 : AVal) (h : AHeap A) (K : AVal → AHeap A → Prop) : Prop :=
 S n_book_New [a0] h fun v1 h =>
 extP v1 0 fun v2 =>
 extP v1 1 fun v3 =>
 S n_ref1_NewBook [a0] h fun v4 h =>
 extP v4 0 fun v5 =>
 extP v4 1 fun v6 =>
 S n_law0_Num [v3] h fun v7 h =>
 binP .neq .other v7 (.int .i64 0) fun v8 =>
 condP v8 false (fun k9 =>
 binP .neq .other v6 (.int .i64 0) fun v10 =>
 k9 v10 h)
 (.bool true) h fun v11 h =>
 condP v11 false (fun k12 =>
 binP .eql .ptr v2 .nilp fun v13 =>
 k12 v13 h)
 (.bool true) h fun v14 h =>
 iteP v14
 (K (.tup [.nilp, .nilp]) h)
 (loopP G (fun v29 h k16 =>
 (fun v15 =>
 lenP a1 fun v17 =>
 binP .lss .other v15 v17 fun v18 =>
 condP v18 true (fun k19 =>
 binP .lss .other v15 (.int .i64 400) fun v20 =>
 k19 v20 h)
 (.bool false) h fun v21 h =>
 iteP v21
 (idxP 1 a1 v15 fun v22 =>
 ldP 1 false v22 h fun v23 =>
 S n_book_Book_Name [v2, v23] h fun v24 h =>
 idxP 1 a1 v15 fun v25 =>
 ldP 1 false v25 h fun v26 =>
 S n_ref1_Book_Name [v5, v26] h fun v27 h =>
 binP .add .other v15 (.int .i64 1) fun v28 =>
 k16 [v28] h)
 (K (.tup [v2, v5]) h)) (v29.getD 0 .any)) [.int .i64 0] h)
theorem q_law3_twin (S : FuncId → List AVal → AHeap A → (AVal → AHeap A → Prop) → Prop) (G : Nat → AHeap A → List AVal → (List AVal → AHeap A → Prop) → Prop) (a0 a1 : AVal) (h : AHeap A) (K : AVal → AHeap A → Prop) : funP Try.prog S G Try.f67 (.two none .leaf (.two none .leaf (.two none .leaf (.two none .leaf (.two none (.two none .leaf (.one [] (.one [10] .leaf))) .leaf))))) [a0, a1] h K = p_law3_twin S G a0 a1 h K := by kernel_rfl
theorem c_law3_twin {R : Adts A} {h : AHeap A} {K : AVal → AHeap A → Prop} {a0 a1 : AVal} (hk : p_law3_twin (Tri Pr R) (Gives Pr R) a0 a1 h K) : Tri Pr R n_law3_twin [a0, a1] h K :=
  tri_of_funP (by kernel_rfl) (fun _ _ _ _ h => h) (fun _ _ _ _ h => h) Try.func67 (by rw [q_law3_twin]; exact hk)
/-- bastion/bastionlaw3.awake -/
def p_law3_awake (S : FuncId → List AVal → AHeap A → (AVal → AHeap A → Prop) → Prop) (G : Nat → AHeap A → List AVal → (List AVal → AHeap A → Prop) → Prop) (h : AHeap A) (K : AVal → AHeap A → Prop) : Prop :=
 S n_law3_twin [.int .i64 9, .nils] h fun v1 h =>
 extP v1 0 fun v2 =>
 extP v1 1 fun v3 =>
 binP .eql .ptr v2 .nilp fun v4 =>
 condP v4 false (fun k5 =>
 binP .eql .ptr v3 .nilp fun v6 =>
 k5 v6 h)
 (.bool true) h fun v7 h =>
 iteP v7
 (K (.bool false) h)
 (S n_craft_Atom [v2, .str [107]] h fun v8 h =>
 extP v8 0 fun v9 =>
 extP v8 1 fun v10 =>
 S n_craft_Hash [v2, .str [120]] h fun v11 h =>
 extP v11 0 fun v12 =>
 extP v11 1 fun v13 =>
 S n_craft_Mac [v2, v9, .str [120]] h fun v14 h =>
 extP v14 0 fun v15 =>
 extP v14 1 fun v16 =>
 S n_craft_Seal [v2, v9, .str [98, 111, 100, 121]] h fun v17 h =>
 extP v17 0 fun v18 =>
 extP v17 1 fun v19 =>
 S n_craft_Open [v2, v9, v18] h fun v20 h =>
 extP v20 0 fun v21 =>
 extP v20 1 fun v22 =>
 S n_craft_Open [v2, v12, v18] h fun v23 h =>
 extP v23 0 fun v24 =>
 extP v23 1 fun v25 =>
 S n_craft_Mac [v2, .int .i64 (-1), .str [120]] h fun v26 h =>
 extP v26 0 fun v27 =>
 extP v26 1 fun v28 =>
 S n_craft_Atom [.nilp, .str [120]] h fun v29 h =>
 extP v29 0 fun v30 =>
 extP v29 1 fun v31 =>
 binP .eql .other v9 (.int .i64 0) fun v32 =>
 condP v32 true (fun k33 =>
 S n_law0_Num [v10] h fun v34 h =>
 binP .eql .other v34 (.int .i64 0) fun v35 =>
 k33 v35 h)
 (.bool false) h fun v36 h =>
 condP v36 true (fun k37 =>
 binP .eql .other v12 (.int .i64 1) fun v38 =>
 k37 v38 h)
 (.bool false) h fun v39 h =>
 condP v39 true (fun k40 =>
 S n_law0_Num [v13] h fun v41 h =>
 binP .eql .other v41 (.int .i64 0) fun v42 =>
 k40 v42 h)
 (.bool false) h fun v43 h =>
 condP v43 true (fun k44 =>
 binP .eql .other v15 (.int .i64 2) fun v45 =>
 k44 v45 h)
 (.bool false) h fun v46 h =>
 condP v46 true (fun k47 =>
 S n_law0_Num [v16] h fun v48 h =>
 binP .eql .other v48 (.int .i64 0) fun v49 =>
 k47 v49 h)
 (.bool false) h fun v50 h =>
 condP v50 true (fun k51 =>
 binP .eql .other v18 (.int .i64 3) fun v52 =>
 k51 v52 h)
 (.bool false) h fun v53 h =>
 condP v53 true (fun k54 =>
 S n_law0_Num [v19] h fun v55 h =>
 binP .eql .other v55 (.int .i64 0) fun v56 =>
 k54 v56 h)
 (.bool false) h fun v57 h =>
 condP v57 true (fun k58 =>
 binP .eql .other v21 (.str [98, 111, 100, 121]) fun v59 =>
 k58 v59 h)
 (.bool false) h fun v60 h =>
 condP v60 true (fun k61 =>
 S n_law0_Num [v22] h fun v62 h =>
 binP .eql .other v62 (.int .i64 0) fun v63 =>
 k61 v63 h)
 (.bool false) h fun v64 h =>
 condP v64 true (fun k65 =>
 S n_law0_Num [v25] h fun v66 h =>
 binP .eql .other v66 (.int .i64 301) fun v67 =>
 k65 v67 h)
 (.bool false) h fun v68 h =>
 condP v68 true (fun k69 =>
 S n_law0_Num [v28] h fun v70 h =>
 binP .eql .other v70 (.int .i64 300) fun v71 =>
 k69 v71 h)
 (.bool false) h fun v72 h =>
 condP v72 true (fun k73 =>
 S n_law0_Num [v31] h fun v74 h =>
 binP .eql .other v74 (.int .i64 1) fun v75 =>
 k73 v75 h)
 (.bool false) h fun v76 h =>
 condP v76 true (fun k77 =>
 S n_craft_IsMac [v2, v9, .str [120], v15] h fun v78 h =>
 k77 v78 h)
 (.bool false) h fun v79 h =>
 condP v79 true (fun k80 =>
 S n_craft_IsMac [v2, v9, .str [121], .int .i64 4] h fun v81 h =>
 notP v81 fun v82 =>
 k80 v82 h)
 (.bool false) h fun v83 h =>
 condP v83 true (fun k84 =>
 S n_craft_IsHash [v2, .str [120], v12] h fun v85 h =>
 k84 v85 h)
 (.bool false) h fun v86 h =>
 condP v86 true (fun k87 =>
 S n_craft_IsHash [.nilp, .str [120], v12] h fun v88 h =>
 notP v88 fun v89 =>
 k87 v89 h)
 (.bool false) h fun v90 h =>
 condP v90 true (fun k91 =>
 S n_book_Book_Len [v2] h fun v92 h =>
 binP .eql .other v92 (.int .i64 4) fun v93 =>
 k91 v93 h)
 (.bool false) h fun v94 h =>
 K v94 h)
theorem q_law3_awake (S : FuncId → List AVal → AHeap A → (AVal → AHeap A → Prop) → Prop) (G : Nat → AHeap A → List AVal → (List AVal → AHeap A → Prop) → Prop) (h : AHeap A) (K : AVal → AHeap A → Prop) : funP Try.prog S G Try.f68 .leaf [] h K = p_law3_awake S G h K := by kernel_rfl
theorem c_law3_awake {R : Adts A} {h : AHeap A} {K : AVal → AHeap A → Prop} (hk : p_law3_awake (Tri Pr R) (Gives Pr R) h K) : Tri Pr R n_law3_awake [] h K :=
  tri_of_funP (by kernel_rfl) (fun _ _ _ _ h => h) (fun _ _ _ _ h => h) Try.func68 (by rw [q_law3_awake]; exact hk)
/-- bastion/craft.IsHash -/
def p_craft_IsHash (S : FuncId → List AVal → AHeap A → (AVal → AHeap A → Prop) → Prop) (G : Nat → AHeap A → List AVal → (List AVal → AHeap A → Prop) → Prop) (a0 a1 a2 : AVal) (h : AHeap A) (K : AVal → AHeap A → Prop) : Prop :=
 binP .add .other (.str [72]) a1 fun v1 =>
 S n_craft_is [a0, v1, a2] h fun v2 h =>
 K v2 h
theorem q_craft_IsHash (S : FuncId → List AVal → AHeap A → (AVal → AHeap A → Prop) → Prop) (G : Nat → AHeap A → List AVal → (List AVal → AHeap A → Prop) → Prop) (a0 a1 a2 : AVal) (h : AHeap A) (K : AVal → AHeap A → Prop) : funP Try.prog S G Try.f69 .leaf [a0, a1, a2] h K = p_craft_IsHash S G a0 a1 a2 h K := by kernel_rfl
theorem c_craft_IsHash {R : Adts A} {h : AHeap A} {K : AVal → AHeap A → Prop} {a0 a1 a2 : AVal} (hk : p_craft_IsHash (Tri Pr R) (Gives Pr R) a0 a1 a2 h K) : Tri Pr R n_craft_IsHash [a0, a1, a2] h K :=
  tri_of_funP (by kernel_rfl) (fun _ _ _ _ h => h) (fun _ _ _ _ h => h) Try.func69 (by rw [q_craft_IsHash]; exact hk)
end Go.AI
