/- The functions as texts over the abstract heap. -/
import Derived.Test.YtlhmikjjnndjcaaNm
import Derived.KernelRfl
set_option linter.all false
namespace Go.AI
open Go.Proofs
set_option maxRecDepth 1000000
variable {A : Type}
/-- bastion/bastionlaw0.BastionNames -/
def p_law0_BastionNames (S : FuncId → List AVal → AHeap A → (AVal → AHeap A → Prop) → Prop) (G : Nat → AHeap A → List AVal → (List AVal → AHeap A → Prop) → Prop) (h : AHeap A) (K : AVal → AHeap A → Prop) : Prop :=
 iteP (.bool false)
 (K (.bool false) h)
 (S n_law0_errors1 [] h fun v1 h =>
 condP v1 true (fun k2 =>
 S n_law0_errors2 [] h fun v3 h =>
 k2 v3 h)
 (.bool false) h fun v4 h =>
 condP v4 true (fun k5 =>
 S n_law0_errors3 [] h fun v6 h =>
 k5 v6 h)
 (.bool false) h fun v7 h =>
 condP v7 true (fun k8 =>
 S n_law0_numbers1 [] h fun v9 h =>
 k8 v9 h)
 (.bool false) h fun v10 h =>
 condP v10 true (fun k11 =>
 S n_law0_numbers2 [] h fun v12 h =>
 k11 v12 h)
 (.bool false) h fun v13 h =>
 condP v13 true (fun k14 =>
 S n_law0_numbers3 [] h fun v15 h =>
 k14 v15 h)
 (.bool false) h fun v16 h =>
 condP v16 true (fun k17 =>
 S n_law0_numbers4 [] h fun v18 h =>
 k17 v18 h)
 (.bool false) h fun v19 h =>
 condP v19 true (fun k20 =>
 S n_law0_numbers5 [] h fun v21 h =>
 k20 v21 h)
 (.bool false) h fun v22 h =>
 K v22 h)
theorem q_law0_BastionNames (S : FuncId → List AVal → AHeap A → (AVal → AHeap A → Prop) → Prop) (G : Nat → AHeap A → List AVal → (List AVal → AHeap A → Prop) → Prop) (h : AHeap A) (K : AVal → AHeap A → Prop) : funP Try.prog S G Try.f3 .leaf [] h K = p_law0_BastionNames S G h K := by kernel_rfl
theorem c_law0_BastionNames {R : Adts A} {h : AHeap A} {K : AVal → AHeap A → Prop} (hk : p_law0_BastionNames (Tri Pr R) (Gives Pr R) h K) : Tri Pr R n_law0_BastionNames [] h K :=
  tri_of_funP (by kernel_rfl) (fun _ _ _ _ h => h) (fun _ _ _ _ h => h) Try.func3 (by rw [q_law0_BastionNames]; exact hk)
/-- bastion/bastionlaw17.Windows -/
def p_law17_Windows (S : FuncId → List AVal → AHeap A → (AVal → AHeap A → Prop) → Prop) (G : Nat → AHeap A → List AVal → (List AVal → AHeap A → Prop) → Prop) (a0 a1 : AVal) (h : AHeap A) (K : AVal → AHeap A → Prop) : Prop :=
 boxP t_api_Window 2 a0 h fun v1 h =>
 ldP 2 true v1 h fun v2 =>
 S n_window_Add [v2, a1] h fun v3 h =>
 extP v3 0 fun v4 =>
 extP v3 1 fun v5 =>
 newP t_api_Window [.int .i64 0, .int .i64 0] h fun v6 h =>
 stP 2 v6 v4 h fun h =>
 ldP 2 true v1 h fun v7 =>
 S n_ref12_AddSeq [v7, a1] h fun v8 h =>
 extP v8 0 fun v9 =>
 extP v8 1 fun v10 =>
 newP t_api_Window [.int .i64 0, .int .i64 0] h fun v11 h =>
 stP 2 v11 v9 h fun h =>
 joinP G h.length (fun k12 =>
 ldP 2 true v6 h fun v13 =>
 ldP 2 true v11 h fun v14 =>
 ldV 2 true v6 h = some v13 ∧
 binP .eql (.shape (.st [(0, 1, .i), (1, 1, .i)])) v13 v14 fun v15 =>
 iteP v15
 (S n_law0_Num [v5] h fun v16 h =>
 binP .eql .other v16 v10 fun v17 =>
 iteP v17
 (ldP 2 true v1 h fun v18 =>
 ldP 2 true v1 h fun v19 =>
 ldV 2 true v1 h = some v18 ∧
 S n_window_May [v19] h fun v20 h =>
 ldV 2 true v1 h = some v18 ∧
 S n_ref12_WindowMay [v18] h fun v21 h =>
 binP .eql .bl v20 v21 fun v22 =>
 iteP v22
 (S n_law17_awake [] h fun v23 h =>
 k12 [v23] h)
 (k12 [.bool false] h))
 (k12 [.bool false] h))
 (k12 [.bool false] h))
 (fun v25 h =>
 (fun v24 =>
 K v24 h) (v25.getD 0 .any))
theorem q_law17_Windows (S : FuncId → List AVal → AHeap A → (AVal → AHeap A → Prop) → Prop) (G : Nat → AHeap A → List AVal → (List AVal → AHeap A → Prop) → Prop) (a0 a1 : AVal) (h : AHeap A) (K : AVal → AHeap A → Prop) : funP Try.prog S G Try.f4 (.two none .leaf (.two none .leaf (.two none .leaf (.two none (.draw (some [4]) (.load 0 (.alt 1 (.take 2 (.take 3 (.split 3 (.take 4 (.take 6 (.alt 5 (.take 7 (.take 8 (.take 9 (.split 9 (.load 12 (.alt 10 (.alt 11 (.alt 13 (.take 14 (.take 15 (.take 16 (.split 16 (.alt 17 (.take 18 (.take 19 .stop)) .stop) (.skip 17 (.take 18 (.take 19 .stop))))))) .stop) .stop) .stop)) (.skip 10 (.skip 11 (.skip 12 (.skip 13 (.skip 14 (.take 15 (.take 16 (.known 16 false (.skip 17 (.take 18 (.take 19 .stop))))))))))))))) .stop))) (.skip 4 (.skip 5 (.skip 6 (.skip 7 (.take 8 (.take 9 (.known 9 false (.skip 10 (.skip 11 (.skip 12 (.skip 13 (.skip 14 (.take 15 (.take 16 (.known 16 false (.skip 17 (.take 18 (.take 19 .stop))))))))))))))))))))) .stop))) .leaf)))) [a0, a1] h K = p_law17_Windows S G a0 a1 h K := by kernel_rfl
theorem c_law17_Windows {R : Adts A} {h : AHeap A} {K : AVal → AHeap A → Prop} {a0 a1 : AVal} (hk : p_law17_Windows (Tri Pr R) (Gives Pr R) a0 a1 h K) : Tri Pr R n_law17_Windows [a0, a1] h K :=
  tri_of_funP (by kernel_rfl) (fun _ _ _ _ h => h) (fun _ _ _ _ h => h) Try.func4 (by rw [q_law17_Windows]; exact hk)
/-- bastion/bastionlaw17.WindowOnce -/
def p_law17_WindowOnce (S : FuncId → List AVal → AHeap A → (AVal → AHeap A → Prop) → Prop) (G : Nat → AHeap A → List AVal → (List AVal → AHeap A → Prop) → Prop) (a0 : AVal) (h : AHeap A) (K : AVal → AHeap A → Prop) : Prop :=
 S n_law17_awake [] h fun v1 h =>
 notP v1 fun v2 =>
 iteP v2
 (K (.bool false) h)
 (bldP [.int .i64 0, .int .i64 0] [(0, 1, .int .i64 (-1))] fun v3 =>
 newP t_api_Window [.int .i64 0, .int .i64 0] h fun v4 h =>
 stP 2 v4 v3 h fun h =>
 newP t_arr256_bool (reps 256 (.bool false)) h fun v5 h =>
 loopP G (fun v54 h k8 =>
 (fun v6 v7 =>
 lenP a0 fun v9 =>
 binP .lss .other v7 v9 fun v10 =>
 condP v10 true (fun k11 =>
 binP .lss .other v7 (.int .i64 60) fun v12 =>
 k11 v12 h)
 (.bool false) h fun v13 h =>
 iteP v13
 (joinP G h.length (fun k14 =>
 idxP 1 a0 v7 fun v15 =>
 ldP 1 false v15 h fun v16 =>
 binP .and .other v16 (.int .i64 255) fun v17 =>
 ldP 2 true v4 h fun v18 =>
 S n_window_Add [v18, v17] h fun v19 h =>
 extP v19 0 fun v20 =>
 extP v19 1 fun v21 =>
 newP t_api_Window [.int .i64 0, .int .i64 0] h fun v22 h =>
 stP 2 v22 v20 h fun h =>
 ixaP 256 1 v5 v17 fun v23 =>
 ldP 1 false v23 h fun v24 =>
 notP v24 fun v25 =>
 condP v25 true (fun k26 =>
 binP .sub .other v6 (.int .i64 32) fun v27 =>
 binP .gtr .other v17 v27 fun v28 =>
 k26 v28 h)
 (.bool false) h fun v29 h =>
 S n_law0_Num [v21] h fun v30 h =>
 binP .eql .other v30 (.int .i64 0) fun v31 =>
 binP .neq .bl v31 v29 fun v32 =>
 condP v32 false (fun k33 =>
 notP v29 fun v34 =>
 condP v34 true (fun k35 =>
 S n_law0_Num [v21] h fun v36 h =>
 binP .neq .other v36 (.int .i64 1701) fun v37 =>
 k35 v37 h)
 (.bool false) h fun v38 h =>
 k33 v38 h)
 (.bool true) h fun v39 h =>
 iteP v39
 (K (.bool false) h)
 (iteP v29
 (ldP 2 true v22 h fun v40 =>
 stP 2 v4 v40 h fun h =>
 ixaP 256 1 v5 v17 fun v41 =>
 stP 1 v41 (.bool true) h fun h =>
 maxP [v6, v17] fun v42 =>
 ldP 2 true v4 h fun v43 =>
 S n_window_May [v43] h fun v44 h =>
 notP v44 fun v45 =>
 condP v45 false (fun k46 =>
 fadP 0 v4 fun v47 =>
 ldP 1 false v47 h fun v48 =>
 binP .neq .other v48 v42 fun v49 =>
 k46 v49 h)
 (.bool true) h fun v50 h =>
 iteP v50
 (K (.bool false) h)
 (k14 [v42] h))
 (k14 [v6] h)))
 (fun v53 h =>
 (fun v51 =>
 binP .add .other v7 (.int .i64 1) fun v52 =>
 k8 [v51, v52] h) (v53.getD 0 .any)))
 (K (.bool true) h)) (v54.getD 0 .any) (v54.getD 1 .any)) [.int .i64 (-1), .int .i64 0] h)
theorem q_law17_WindowOnce (S : FuncId → List AVal → AHeap A → (AVal → AHeap A → Prop) → Prop) (G : Nat → AHeap A → List AVal → (List AVal → AHeap A → Prop) → Prop) (a0 : AVal) (h : AHeap A) (K : AVal → AHeap A → Prop) : funP Try.prog S G Try.f5 (.two none .leaf (.two none .leaf (.two none .leaf (.two none .leaf (.two none .leaf (.two none (.two none .leaf (.one [] (.one [5, 6] (.two none .leaf (.two (some [5]) .leaf .leaf))))) .leaf)))))) [a0] h K = p_law17_WindowOnce S G a0 h K := by kernel_rfl
theorem c_law17_WindowOnce {R : Adts A} {h : AHeap A} {K : AVal → AHeap A → Prop} {a0 : AVal} (hk : p_law17_WindowOnce (Tri Pr R) (Gives Pr R) a0 h K) : Tri Pr R n_law17_WindowOnce [a0] h K :=
  tri_of_funP (by kernel_rfl) (fun _ _ _ _ h => h) (fun _ _ _ _ h => h) Try.func5 (by rw [q_law17_WindowOnce]; exact hk)
/-- bastion/bastionlaw17.WindowForms -/
def p_law17_WindowForms (S : FuncId → List AVal → AHeap A → (AVal → AHeap A → Prop) → Prop) (G : Nat → AHeap A → List AVal → (List AVal → AHeap A → Prop) → Prop) (a0 a1 : AVal) (h : AHeap A) (K : AVal → AHeap A → Prop) : Prop :=
 S n_law17_awake [] h fun v1 h =>
 notP v1 fun v2 =>
 iteP v2
 (K (.bool false) h)
 (binP .and .other a1 (.int .i64 1023) fun v3 =>
 binP .add .other (.int .i64 1) v3 fun v4 =>
 binP .sub .other (.int .i64 (-1)) v4 fun v5 =>
 bldP [.int .i64 0, .int .i64 0] [(0, 1, v5)] fun v6 =>
 bldP [.int .i64 0, .int .i64 0] [(0, 1, .int .i64 (-1)), (1, 1, v4)] fun v7 =>
 binP .add .other (.int .i64 1048575) v4 fun v8 =>
 bldP [.int .i64 0, .int .i64 0] [(0, 1, v8), (1, 1, .int .i64 1)] fun v9 =>
 bldP [.int .i64 0, .int .i64 0] [(0, 1, .int .i64 50), (1, 1, .int .i64 0)] fun v10 =>
 bldP [.int .i64 0, .int .i64 0] [(0, 1, .int .i64 50), (1, 1, .int .i64 2)] fun v11 =>
 negP v4 fun v12 =>
 bldP [.int .i64 0, .int .i64 0] [(0, 1, .int .i64 50), (1, 1, v12)] fun v13 =>
 bldP [.int .i64 0, .int .i64 0] [(0, 1, .int .i64 50), (1, 1, .int .i64 4294967297)] fun v14 =>
 bldP [.int .i64 0, .int .i64 0] [(0, 1, .int .i64 3), (1, 1, .int .i64 17)] fun v15 =>
 bldP [.int .i64 0, .int .i64 0] [] fun v16 =>
 bslP t_api_Window 9 [.int .i64 0, .int .i64 0, .int .i64 0, .int .i64 0, .int .i64 0, .int .i64 0, .int .i64 0, .int .i64 0, .int .i64 0, .int .i64 0, .int .i64 0, .int .i64 0, .int .i64 0, .int .i64 0, .int .i64 0, .int .i64 0, .int .i64 0, .int .i64 0] [(0, 2, v6), (2, 2, v7), (4, 2, v9), (6, 2, v10), (8, 2, v11), (10, 2, v13), (12, 2, v14), (14, 2, v15), (16, 2, v16)] h fun v17 h =>
 cviP .u64 a0 fun v18 =>
 binP .rem .other v18 (.int .u64 9) fun v19 =>
 cviP .i64 v19 fun v20 =>
 idxP 2 v17 v20 fun v21 =>
 ldP 2 true v21 h fun v22 =>
 newP t_api_Window [.int .i64 0, .int .i64 0] h fun v23 h =>
 stP 2 v23 v22 h fun h =>
 ldP 2 true v23 h fun v24 =>
 S n_window_Add [v24, .int .i64 9] h fun v25 h =>
 extP v25 0 fun v26 =>
 extP v25 1 fun v27 =>
 newP t_api_Window [.int .i64 0, .int .i64 0] h fun v28 h =>
 stP 2 v28 v26 h fun h =>
 bldP [.int .i64 0, .int .i64 0] [(0, 1, .int .i64 1048575), (1, 1, .int .i64 4294967295)] fun v29 =>
 newP t_api_Window [.int .i64 0, .int .i64 0] h fun v30 h =>
 stP 2 v30 v29 h fun h =>
 ldP 2 true v30 h fun v31 =>
 binP .add .other (.int .i64 1048575) v4 fun v32 =>
 S n_window_Add [v31, v32] h fun v33 h =>
 extP v33 0 fun v34 =>
 extP v33 1 fun v35 =>
 newP t_api_Window [.int .i64 0, .int .i64 0] h fun v36 h =>
 stP 2 v36 v34 h fun h =>
 ldP 2 true v30 h fun v37 =>
 negP v4 fun v38 =>
 S n_window_Add [v37, v38] h fun v39 h =>
 extP v39 0 fun v40 =>
 extP v39 1 fun v41 =>
 newP t_api_Window [.int .i64 0, .int .i64 0] h fun v42 h =>
 stP 2 v42 v40 h fun h =>
 ldP 2 true v30 h fun v43 =>
 S n_window_Add [v43, .int .i64 1048575] h fun v44 h =>
 extP v44 0 fun v45 =>
 extP v44 1 fun v46 =>
 newP t_api_Window [.int .i64 0, .int .i64 0] h fun v47 h =>
 stP 2 v47 v45 h fun h =>
 bldP [.int .i64 0, .int .i64 0] [(0, 1, .int .i64 3), (1, 1, .int .i64 1)] fun v48 =>
 S n_window_Add [v48, .int .i64 0] h fun v49 h =>
 extP v49 0 fun v50 =>
 extP v49 1 fun v51 =>
 newP t_api_Window [.int .i64 0, .int .i64 0] h fun v52 h =>
 stP 2 v52 v50 h fun h =>
 ldP 2 true v23 h fun v53 =>
 S n_window_May [v53] h fun v54 h =>
 notP v54 fun v55 =>
 condP v55 true (fun k56 =>
 S n_law0_Num [v27] h fun v57 h =>
 binP .eql .other v57 (.int .i64 1700) fun v58 =>
 k56 v58 h)
 (.bool false) h fun v59 h =>
 condP v59 true (fun k60 =>
 ldP 2 true v30 h fun v61 =>
 S n_window_May [v61] h fun v62 h =>
 k60 v62 h)
 (.bool false) h fun v63 h =>
 condP v63 true (fun k64 =>
 S n_law0_Num [v35] h fun v65 h =>
 binP .eql .other v65 (.int .i64 1700) fun v66 =>
 k64 v66 h)
 (.bool false) h fun v67 h =>
 condP v67 true (fun k68 =>
 S n_law0_Num [v41] h fun v69 h =>
 binP .eql .other v69 (.int .i64 1700) fun v70 =>
 k68 v70 h)
 (.bool false) h fun v71 h =>
 condP v71 true (fun k72 =>
 S n_law0_Num [v46] h fun v73 h =>
 binP .eql .other v73 (.int .i64 1701) fun v74 =>
 k72 v74 h)
 (.bool false) h fun v75 h =>
 condP v75 true (fun k76 =>
 ldP 2 true v52 h fun v77 =>
 bldP [.int .i64 0, .int .i64 0] [(0, 1, .int .i64 3), (1, 1, .int .i64 9)] fun v78 =>
 binP .eql (.shape (.st [(0, 1, .i), (1, 1, .i)])) v77 v78 fun v79 =>
 k76 v79 h)
 (.bool false) h fun v80 h =>
 condP v80 true (fun k81 =>
 S n_law0_Num [v51] h fun v82 h =>
 binP .eql .other v82 (.int .i64 0) fun v83 =>
 k81 v83 h)
 (.bool false) h fun v84 h =>
 K v84 h)
theorem q_law17_WindowForms (S : FuncId → List AVal → AHeap A → (AVal → AHeap A → Prop) → Prop) (G : Nat → AHeap A → List AVal → (List AVal → AHeap A → Prop) → Prop) (a0 a1 : AVal) (h : AHeap A) (K : AVal → AHeap A → Prop) : funP Try.prog S G Try.f6 .leaf [a0, a1] h K = p_law17_WindowForms S G a0 a1 h K := by kernel_rfl
theorem c_law17_WindowForms {R : Adts A} {h : AHeap A} {K : AVal → AHeap A → Prop} {a0 a1 : AVal} (hk : p_law17_WindowForms (Tri Pr R) (Gives Pr R) a0 a1 h K) : Tri Pr R n_law17_WindowForms [a0, a1] h K :=
  tri_of_funP (by kernel_rfl) (fun _ _ _ _ h => h) (fun _ _ _ _ h => h) Try.func6 (by rw [q_law17_WindowForms]; exact hk)
/-- bastion/bastionlaw17.WindowRows -/
def p_law17_WindowRows (S : FuncId → List AVal → AHeap A → (AVal → AHeap A → Prop) → Prop) (G : Nat → AHeap A → List AVal → (List AVal → AHeap A → Prop) → Prop) (a0 a1 : AVal) (h : AHeap A) (K : AVal → AHeap A → Prop) : Prop :=
 S n_law17_awake [] h fun v1 h =>
 notP v1 fun v2 =>
 iteP v2
 (K (.bool false) h)
 (binP .and .other a1 (.int .i64 65535) fun v3 =>
 bldP [.int .i64 0, .int .i64 0] [(0, 1, .int .i64 (-1))] fun v4 =>
 bldP [.int .i64 0, .int .i64 0] [(0, 1, .int .i64 (-1))] fun v5 =>
 newP t_api_Window [.int .i64 0, .int .i64 0] h fun v6 h =>
 newP t_api_Window [.int .i64 0, .int .i64 0] h fun v7 h =>
 stP 2 v6 v4 h fun h =>
 stP 2 v7 v5 h fun h =>
 newP t_arr32_bool (reps 32 (.bool false)) h fun v8 h =>
 loopP G (fun v81 h k11 =>
 (fun v9 v10 =>
 lenP a0 fun v12 =>
 binP .lss .other v10 v12 fun v13 =>
 condP v13 true (fun k14 =>
 binP .lss .other v10 (.int .i64 40) fun v15 =>
 k14 v15 h)
 (.bool false) h fun v16 h =>
 iteP v16
 (joinP G h.length (fun k17 =>
 idxP 1 a0 v10 fun v18 =>
 ldP 1 false v18 h fun v19 =>
 binP .and .other v19 (.int .i64 31) fun v20 =>
 ixaP 32 1 v8 v20 fun v21 =>
 ldP 1 false v21 h fun v22 =>
 notP v22 fun v23 =>
 iteP v23
 (ixaP 32 1 v8 v20 fun v24 =>
 stP 1 v24 (.bool true) h fun h =>
 binP .add .other v3 v20 fun v25 =>
 bslP t_int 1 [.int .i64 0] [(0, 1, v25)] h fun v26 h =>
 appP t_int 1 8 v9 v26 h fun v27 h =>
 k17 [v27] h)
 (k17 [v9] h))
 (fun v30 h =>
 (fun v28 =>
 binP .add .other v10 (.int .i64 1) fun v29 =>
 k11 [v28, v29] h) (v30.getD 0 .any)))
 (loopP G (fun v80 h k32 =>
 (fun v31 =>
 lenP v9 fun v33 =>
 binP .lss .other v31 v33 fun v34 =>
 iteP v34
 (joinP G h.length (fun k35 =>
 idxP 1 v9 v31 fun v36 =>
 ldP 2 true v6 h fun v37 =>
 ldP 1 false v36 h fun v38 =>
 (S n_window_Add [v37, v38] h fun v39 h =>
 extP v39 0 fun v40 =>
 extP v39 1 fun v41 =>
 newP t_api_Window [.int .i64 0, .int .i64 0] h fun v42 h =>
 stP 2 v42 v40 h fun h =>
 k35 [v42, v41] h) ∧
 (newP t_api_Window [.int .i64 0, .int .i64 0] h fun v43 h =>
 ldV 1 false v36 h = some v38 ∧
 ldV 2 true v6 h = some v37 ∧
 S n_window_Add [v37, v38] h fun v44 h =>
 extP v44 0 fun v45 =>
 extP v44 1 fun v46 =>
 stP 2 v43 v45 h fun h =>
 k35 [v43, v46] h))
 (fun v76 h =>
 (fun v47 v48 =>
 joinP G h.length (fun k49 =>
 lenP v9 fun v50 =>
 binP .sub .other v50 (.int .i64 1) fun v51 =>
 binP .sub .other v51 v31 fun v52 =>
 idxP 1 v9 v52 fun v53 =>
 ldP 2 true v7 h fun v54 =>
 ldP 1 false v53 h fun v55 =>
 (S n_window_Add [v54, v55] h fun v56 h =>
 extP v56 0 fun v57 =>
 extP v56 1 fun v58 =>
 newP t_api_Window [.int .i64 0, .int .i64 0] h fun v59 h =>
 stP 2 v59 v57 h fun h =>
 k49 [v59, v58] h) ∧
 (newP t_api_Window [.int .i64 0, .int .i64 0] h fun v60 h =>
 ldV 1 false v53 h = some v55 ∧
 ldV 2 true v7 h = some v54 ∧
 S n_window_Add [v54, v55] h fun v61 h =>
 extP v61 0 fun v62 =>
 extP v61 1 fun v63 =>
 stP 2 v60 v62 h fun h =>
 k49 [v60, v63] h))
 (fun v75 h =>
 (fun v64 v65 =>
 S n_law0_Num [v48] h fun v66 h =>
 binP .neq .other v66 (.int .i64 0) fun v67 =>
 condP v67 false (fun k68 =>
 S n_law0_Num [v65] h fun v69 h =>
 binP .neq .other v69 (.int .i64 0) fun v70 =>
 k68 v70 h)
 (.bool true) h fun v71 h =>
 iteP v71
 (K (.bool false) h)
 (ldP 2 true v47 h fun v72 =>
 stP 2 v6 v72 h fun h =>
 ldP 2 true v64 h fun v73 =>
 stP 2 v7 v73 h fun h =>
 binP .add .other v31 (.int .i64 1) fun v74 =>
 k32 [v74] h)) (v75.getD 0 .any) (v75.getD 1 .any))) (v76.getD 0 .any) (v76.getD 1 .any)))
 (ldP 2 true v6 h fun v77 =>
 ldP 2 true v7 h fun v78 =>
 binP .eql (.shape (.st [(0, 1, .i), (1, 1, .i)])) v77 v78 fun v79 =>
 K v79 h)) (v80.getD 0 .any)) [.int .i64 0] h)) (v81.getD 0 .any) (v81.getD 1 .any)) [.nils, .int .i64 0] h)
theorem q_law17_WindowRows (S : FuncId → List AVal → AHeap A → (AVal → AHeap A → Prop) → Prop) (G : Nat → AHeap A → List AVal → (List AVal → AHeap A → Prop) → Prop) (a0 a1 : AVal) (h : AHeap A) (K : AVal → AHeap A → Prop) : funP Try.prog S G Try.f7 (.two none .leaf (.two none .leaf (.two none .leaf (.two none .leaf (.two none .leaf (.two none .leaf (.two none (.two none .leaf (.one [] (.one [9, 10] (.two none .leaf (.two (some [9]) .leaf .leaf))))) (.two none (.two none .leaf (.one [] (.one [12] (.two none .leaf (.two none (.one [] (.two none (.draw (some [13, 14]) (.take 1 (.take 2 (.take 3 (.load 0 (.load 4 (.alt 5 (.take 6 (.take 7 (.take 8 (.alt 9 (.alt 10 (.take 11 .stop) .stop) .stop)))) (.alt 9 (.alt 5 (.take 6 (.take 7 (.take 8 (.alt 10 (.take 11 .stop) .stop)))) .stop) .stop)))))))) (.two none (.draw (some [15, 16]) (.take 1 (.take 2 (.take 3 (.take 4 (.take 5 (.take 6 (.take 7 (.load 0 (.load 8 (.alt 9 (.take 10 (.take 11 (.take 12 (.alt 13 (.alt 14 (.take 15 .stop) .stop) .stop)))) (.alt 13 (.alt 9 (.take 10 (.take 11 (.take 12 (.alt 14 (.take 15 .stop) .stop)))) .stop) .stop)))))))))))) .leaf))) .leaf))))) .leaf)))))))) [a0, a1] h K = p_law17_WindowRows S G a0 a1 h K := by kernel_rfl
theorem c_law17_WindowRows {R : Adts A} {h : AHeap A} {K : AVal → AHeap A → Prop} {a0 a1 : AVal} (hk : p_law17_WindowRows (Tri Pr R) (Gives Pr R) a0 a1 h K) : Tri Pr R n_law17_WindowRows [a0, a1] h K :=
  tri_of_funP (by kernel_rfl) (fun _ _ _ _ h => h) (fun _ _ _ _ h => h) Try.func7 (by rw [q_law17_WindowRows]; exact hk)
/-- bastion/bastionlaw17.WindowBits -/
def p_law17_WindowBits (S : FuncId → List AVal → AHeap A → (AVal → AHeap A → Prop) → Prop) (G : Nat → AHeap A → List AVal → (List AVal → AHeap A → Prop) → Prop) (a0 a1 : AVal) (h : AHeap A) (K : AVal → AHeap A → Prop) : Prop :=
 S n_law17_awake [] h fun v1 h =>
 notP v1 fun v2 =>
 iteP v2
 (K (.bool false) h)
 (bldP [.int .i64 0, .int .i64 0] [(0, 1, .int .i64 (-1))] fun v3 =>
 newP t_api_Window [.int .i64 0, .int .i64 0] h fun v4 h =>
 stP 2 v4 v3 h fun h =>
 loopP G (fun v90 h k7 =>
 (fun v5 v6 =>
 lenP a0 fun v8 =>
 binP .lss .other v6 v8 fun v9 =>
 condP v9 true (fun k10 =>
 binP .lss .other v6 (.int .i64 40) fun v11 =>
 k10 v11 h)
 (.bool false) h fun v12 h =>
 iteP v12
 (joinP G h.length (fun k13 =>
 idxP 1 a0 v6 fun v14 =>
 ldP 1 false v14 h fun v15 =>
 binP .and .other v15 (.int .i64 63) fun v16 =>
 ldP 2 true v4 h fun v17 =>
 S n_window_Add [v17, v16] h fun v18 h =>
 extP v18 0 fun v19 =>
 extP v18 1 fun v20 =>
 newP t_api_Window [.int .i64 0, .int .i64 0] h fun v21 h =>
 stP 2 v21 v19 h fun h =>
 S n_law0_Num [v20] h fun v22 h =>
 binP .eql .other v22 (.int .i64 0) fun v23 =>
 iteP v23
 (ldP 2 true v21 h fun v24 =>
 stP 2 v4 v24 h fun h =>
 bslP t_int 1 [.int .i64 0] [(0, 1, v16)] h fun v25 h =>
 appP t_int 1 8 v5 v25 h fun v26 h =>
 k13 [v26] h)
 (k13 [v5] h))
 (fun v29 h =>
 (fun v27 =>
 binP .add .other v6 (.int .i64 1) fun v28 =>
 k7 [v27, v28] h) (v29.getD 0 .any)))
 (fadP 0 v4 fun v30 =>
 ldP 1 false v30 h fun v31 =>
 binP .sub .other v31 (.int .i64 32) fun v32 =>
 binP .add .other v32 (.int .i64 1) fun v33 =>
 maxP [.int .i64 0, v33] fun v34 =>
 loopP G (fun v89 h k36 =>
 (fun v35 =>
 fadP 0 v4 fun v37 =>
 ldP 1 false v37 h fun v38 =>
 binP .leq .other v35 v38 fun v39 =>
 iteP v39
 (ldP 2 true v4 h fun v40 =>
 S n_window_Add [v40, v35] h fun v41 h =>
 extP v41 0 fun v42 =>
 extP v41 1 fun v43 =>
 newP t_api_Window [.int .i64 0, .int .i64 0] h fun v44 h =>
 stP 2 v44 v42 h fun h =>
 loopP G (fun v60 h k47 =>
 (fun v45 v46 =>
 lenP v5 fun v48 =>
 binP .lss .other v46 v48 fun v49 =>
 iteP v49
 (condP v45 false (fun k50 =>
 idxP 1 v5 v46 fun v51 =>
 ldP 1 false v51 h fun v52 =>
 binP .eql .other v52 v35 fun v53 =>
 k50 v53 h)
 (.bool true) h fun v54 h =>
 binP .add .other v46 (.int .i64 1) fun v55 =>
 k47 [v54, v55] h)
 (S n_law0_Num [v43] h fun v56 h =>
 binP .eql .other v56 (.int .i64 0) fun v57 =>
 binP .eql .bl v57 v45 fun v58 =>
 iteP v58
 (K (.bool false) h)
 (binP .add .other v35 (.int .i64 1) fun v59 =>
 k36 [v59] h))) (v60.getD 0 .any) (v60.getD 1 .any)) [.bool false, .int .i64 0] h)
 (ldP 2 true v4 h fun v61 =>
 fadP 0 v4 fun v62 =>
 ldP 1 false v62 h fun v63 =>
 binP .add .other v63 (.int .i64 1) fun v64 =>
 binP .and .other a1 (.int .i64 31) fun v65 =>
 binP .add .other v64 v65 fun v66 =>
 S n_window_Add [v61, v66] h fun v67 h =>
 extP v67 0 fun v68 =>
 extP v67 1 fun v69 =>
 newP t_api_Window [.int .i64 0, .int .i64 0] h fun v70 h =>
 stP 2 v70 v68 h fun h =>
 S n_law0_Num [v69] h fun v71 h =>
 binP .eql .other v71 (.int .i64 0) fun v72 =>
 condP v72 true (fun k73 =>
 fadP 0 v70 fun v74 =>
 ldP 1 false v74 h fun v75 =>
 fadP 0 v4 fun v76 =>
 ldP 1 false v76 h fun v77 =>
 binP .add .other v77 (.int .i64 1) fun v78 =>
 binP .and .other a1 (.int .i64 31) fun v79 =>
 binP .add .other v78 v79 fun v80 =>
 binP .eql .other v75 v80 fun v81 =>
 k73 v81 h)
 (.bool false) h fun v82 h =>
 condP v82 true (fun k83 =>
 fadP 1 v70 fun v84 =>
 ldP 1 false v84 h fun v85 =>
 binP .and .other v85 (.int .i64 1) fun v86 =>
 binP .eql .other v86 (.int .i64 1) fun v87 =>
 k83 v87 h)
 (.bool false) h fun v88 h =>
 K v88 h)) (v89.getD 0 .any)) [v34] h)) (v90.getD 0 .any) (v90.getD 1 .any)) [.nils, .int .i64 0] h)
theorem q_law17_WindowBits (S : FuncId → List AVal → AHeap A → (AVal → AHeap A → Prop) → Prop) (G : Nat → AHeap A → List AVal → (List AVal → AHeap A → Prop) → Prop) (a0 a1 : AVal) (h : AHeap A) (K : AVal → AHeap A → Prop) : funP Try.prog S G Try.f8 (.two none .leaf (.two none .leaf (.two none .leaf (.two none .leaf (.two none (.two none .leaf (.one [] (.one [6, 7] (.two none .leaf (.two (some [6]) .leaf .leaf))))) (.two none (.two none .leaf (.one [] (.one [11] (.two none .leaf (.two none (.one [] (.two none .leaf (.two none .leaf (.two none (.two none .leaf (.one [] (.one [14, 15] .leaf))) .leaf)))) .leaf))))) .leaf)))))) [a0, a1] h K = p_law17_WindowBits S G a0 a1 h K := by kernel_rfl
theorem c_law17_WindowBits {R : Adts A} {h : AHeap A} {K : AVal → AHeap A → Prop} {a0 a1 : AVal} (hk : p_law17_WindowBits (Tri Pr R) (Gives Pr R) a0 a1 h K) : Tri Pr R n_law17_WindowBits [a0, a1] h K :=
  tri_of_funP (by kernel_rfl) (fun _ _ _ _ h => h) (fun _ _ _ _ h => h) Try.func8 (by rw [q_law17_WindowBits]; exact hk)
/-- bastion/bastionlaw14.RingForms -/
def p_law14_RingForms (S : FuncId → List AVal → AHeap A → (AVal → AHeap A → Prop) → Prop) (G : Nat → AHeap A → List AVal → (List AVal → AHeap A → Prop) → Prop) (a0 a1 a2 a3 : AVal) (h : AHeap A) (K : AVal → AHeap A → Prop) : Prop :=
 S n_law14_awake [] h fun v1 h =>
 notP v1 fun v2 =>
 iteP v2
 (K (.bool false) h)
 (binP .and .other a0 (.int .i64 1023) fun v3 =>
 binP .add .other (.int .i64 1) v3 fun v4 =>
 S n_law14_twin [.int .i64 2, .nils] h fun v5 h =>
 extP v5 0 fun v6 =>
 extP v5 1 fun v7 =>
 binP .eql .ptr v6 .nilp fun v8 =>
 iteP v8
 (K (.bool false) h)
 (binP .and .other a1 (.int .i64 1023) fun v9 =>
 binP .and .other a2 (.int .i64 1023) fun v10 =>
 S n_ring_Key [v6, v9] h fun v11 h =>
 extP v11 0 fun v12 =>
 extP v11 1 fun v13 =>
 S n_ring_Key [v6, v10] h fun v14 h =>
 extP v14 0 fun v15 =>
 extP v14 1 fun v16 =>
 negP v4 fun v17 =>
 S n_ring_Key [v6, v17] h fun v18 h =>
 extP v18 0 fun v19 =>
 extP v18 1 fun v20 =>
 binP .add .other (.int .i64 1073741823) v4 fun v21 =>
 S n_ring_Key [v6, v21] h fun v22 h =>
 extP v22 0 fun v23 =>
 extP v22 1 fun v24 =>
 S n_ring_Key [.nilp, v9] h fun v25 h =>
 extP v25 0 fun v26 =>
 extP v25 1 fun v27 =>
 binP .and .other a3 (.int .i64 7) fun v28 =>
 S n_law0_Num [v13] h fun v29 h =>
 binP .eql .other v29 (.int .i64 0) fun v30 =>
 condP v30 true (fun k31 =>
 S n_law0_Num [v16] h fun v32 h =>
 binP .eql .other v32 (.int .i64 0) fun v33 =>
 k31 v33 h)
 (.bool false) h fun v34 h =>
 condP v34 true (fun k35 =>
 binP .eql .other v12 v15 fun v36 =>
 binP .eql .other v9 v10 fun v37 =>
 binP .eql .bl v36 v37 fun v38 =>
 k35 v38 h)
 (.bool false) h fun v39 h =>
 condP v39 true (fun k40 =>
 S n_law0_Num [v20] h fun v41 h =>
 binP .eql .other v41 (.int .i64 1400) fun v42 =>
 k40 v42 h)
 (.bool false) h fun v43 h =>
 condP v43 true (fun k44 =>
 S n_law0_Num [v24] h fun v45 h =>
 binP .eql .other v45 (.int .i64 1400) fun v46 =>
 k44 v46 h)
 (.bool false) h fun v47 h =>
 condP v47 true (fun k48 =>
 S n_law0_Num [v27] h fun v49 h =>
 binP .eql .other v49 (.int .i64 1) fun v50 =>
 k48 v50 h)
 (.bool false) h fun v51 h =>
 condP v51 true (fun k52 =>
 S n_ring_Live [v9, v10, v28] h fun v53 h =>
 binP .leq .other v9 v10 fun v54 =>
 condP v54 true (fun k55 =>
 binP .sub .other v10 v9 fun v56 =>
 binP .leq .other v56 v28 fun v57 =>
 k55 v57 h)
 (.bool false) h fun v58 h =>
 binP .eql .bl v53 v58 fun v59 =>
 k52 v59 h)
 (.bool false) h fun v60 h =>
 condP v60 true (fun k61 =>
 negP v4 fun v62 =>
 S n_ring_Live [v62, v10, v28] h fun v63 h =>
 notP v63 fun v64 =>
 k61 v64 h)
 (.bool false) h fun v65 h =>
 condP v65 true (fun k66 =>
 binP .add .other (.int .i64 1073741823) v4 fun v67 =>
 S n_ring_Live [v9, v67, v28] h fun v68 h =>
 notP v68 fun v69 =>
 k66 v69 h)
 (.bool false) h fun v70 h =>
 condP v70 true (fun k71 =>
 negP v4 fun v72 =>
 S n_ring_Live [v9, v10, v72] h fun v73 h =>
 notP v73 fun v74 =>
 k71 v74 h)
 (.bool false) h fun v75 h =>
 K v75 h))
theorem q_law14_RingForms (S : FuncId → List AVal → AHeap A → (AVal → AHeap A → Prop) → Prop) (G : Nat → AHeap A → List AVal → (List AVal → AHeap A → Prop) → Prop) (a0 a1 a2 a3 : AVal) (h : AHeap A) (K : AVal → AHeap A → Prop) : funP Try.prog S G Try.f9 .leaf [a0, a1, a2, a3] h K = p_law14_RingForms S G a0 a1 a2 a3 h K := by kernel_rfl
theorem c_law14_RingForms {R : Adts A} {h : AHeap A} {K : AVal → AHeap A → Prop} {a0 a1 a2 a3 : AVal} (hk : p_law14_RingForms (Tri Pr R) (Gives Pr R) a0 a1 a2 a3 h K) : Tri Pr R n_law14_RingForms [a0, a1, a2, a3] h K :=
  tri_of_funP (by kernel_rfl) (fun _ _ _ _ h => h) (fun _ _ _ _ h => h) Try.func9 (by rw [q_law14_RingForms]; exact hk)
/-- bastion/bastionlaw8.Disks -/
def p_law8_Disks (S : FuncId → List AVal → AHeap A → (AVal → AHeap A → Prop) → Prop) (G : Nat → AHeap A → List AVal → (List AVal → AHeap A → Prop) → Prop) (a0 a1 : AVal) (h : AHeap A) (K : AVal → AHeap A → Prop) : Prop :=
 S n_disk_New [a0] h fun v1 h =>
 extP v1 0 fun v2 =>
 extP v1 1 fun v3 =>
 S n_ref1_NewDisk [a0] h fun v4 h =>
 extP v4 0 fun v5 =>
 extP v4 1 fun v6 =>
 binP .neq .other v6 (.int .i64 0) fun v7 =>
 iteP v7
 (S n_law0_Num [v3] h fun v8 h =>
 binP .eql .other v8 v6 fun v9 =>
 condP v9 true (fun k10 =>
 binP .eql .ptr v2 .nilp fun v11 =>
 k10 v11 h)
 (.bool false) h fun v12 h =>
 condP v12 true (fun k13 =>
 S n_law8_awake [] h fun v14 h =>
 k13 v14 h)
 (.bool false) h fun v15 h =>
 K v15 h)
 (S n_law0_Num [v3] h fun v16 h =>
 binP .neq .other v16 (.int .i64 0) fun v17 =>
 condP v17 false (fun k18 =>
 binP .eql .ptr v2 .nilp fun v19 =>
 k18 v19 h)
 (.bool true) h fun v20 h =>
 iteP v20
 (K (.bool false) h)
 (loopP G (fun v104 h k22 =>
 (fun v21 =>
 lenP a1 fun v23 =>
 binP .lss .other v21 v23 fun v24 =>
 condP v24 true (fun k25 =>
 binP .lss .other v21 (.int .i64 80) fun v26 =>
 k25 v26 h)
 (.bool false) h fun v27 h =>
 iteP v27
 (idxP 6 a1 v21 fun v28 =>
 ldP 6 true v28 h fun v29 =>
 newP t_bastionlaw8_Act [.int .i64 0, .int .i64 0, .str [], .bool false, .int .i64 0, .int .i64 0] h fun v30 h =>
 stP 6 v30 v29 h fun h =>
 fadP 2 v30 fun v31 =>
 ldP 1 false v31 h fun v32 =>
 joinP G h.length (fun k33 =>
 fadP 3 v30 fun v34 =>
 ldP 1 false v34 h fun v35 =>
 iteP v35
 (S n_law8_sectorOf [v32] h fun v36 h =>
 k33 [v36] h)
 (k33 [v32] h))
 (fun v102 h =>
 (fun v37 =>
 joinP G h.length (fun k38 =>
 fadP 0 v30 fun v39 =>
 ldP 1 false v39 h fun v40 =>
 binP .lss .other v40 (.int .i64 5) fun v41 =>
 iteP v41
 (fadP 1 v30 fun v42 =>
 ldP 1 false v42 h fun v43 =>
 S n_disk_Disk_Write [v2, v43, v37] h fun v44 h =>
 S n_law0_Num [v44] h fun v45 h =>
 fadP 1 v30 fun v46 =>
 ldP 1 false v46 h fun v47 =>
 S n_ref1_Disk_Write [v5, v47, v37] h fun v48 h =>
 k38 [v48, v45] h)
 (fadP 0 v30 fun v49 =>
 ldP 1 false v49 h fun v50 =>
 binP .eql .other v50 (.int .i64 5) fun v51 =>
 iteP v51
 (S n_disk_Disk_Flush [v2] h fun v52 h =>
 S n_law0_Num [v52] h fun v53 h =>
 S n_ref1_Disk_Flush [v5] h fun v54 h =>
 k38 [v54, v53] h)
 (fadP 0 v30 fun v55 =>
 ldP 1 false v55 h fun v56 =>
 binP .eql .other v56 (.int .i64 8) fun v57 =>
 iteP v57
 (fadP 4 v30 fun v58 =>
 ldP 1 false v58 h fun v59 =>
 fadP 5 v30 fun v60 =>
 ldP 1 false v60 h fun v61 =>
 S n_disk_Disk_Crash [v2, v59, v61] h fun v62 h =>
 S n_law0_Num [v62] h fun v63 h =>
 fadP 4 v30 fun v64 =>
 ldP 1 false v64 h fun v65 =>
 fadP 5 v30 fun v66 =>
 ldP 1 false v66 h fun v67 =>
 S n_ref1_Disk_Crash [v5, v65, v67] h fun v68 h =>
 k38 [v68, v63] h)
 (fadP 0 v30 fun v69 =>
 ldP 1 false v69 h fun v70 =>
 binP .eql .other v70 (.int .i64 9) fun v71 =>
 iteP v71
 (S n_disk_Disk_Restart [v2] h fun v72 h =>
 S n_law0_Num [v72] h fun v73 h =>
 S n_ref1_Disk_Restart [v5] h fun v74 h =>
 k38 [v74, v73] h)
 (k38 [.int .i64 0, .int .i64 0] h)))))
 (fun v101 h =>
 (fun v75 v76 =>
 binP .neq .other v76 v75 fun v77 =>
 condP v77 false (fun k78 =>
 S n_disk_Disk_Waits [v2] h fun v79 h =>
 S n_ref1_Disk_Waits [v5] h fun v80 h =>
 binP .neq .other v79 v80 fun v81 =>
 k78 v81 h)
 (.bool true) h fun v82 h =>
 iteP v82
 (K (.bool false) h)
 (loopP G (fun v100 h k84 =>
 (fun v83 =>
 minP [a0, .int .i64 6] fun v85 =>
 binP .leq .other v83 v85 fun v86 =>
 iteP v86
 (S n_disk_Disk_Read [v2, v83] h fun v87 h =>
 extP v87 0 fun v88 =>
 extP v87 1 fun v89 =>
 S n_ref1_Disk_Read [v5, v83] h fun v90 h =>
 extP v90 0 fun v91 =>
 extP v90 1 fun v92 =>
 binP .neq .other v88 v91 fun v93 =>
 condP v93 false (fun k94 =>
 S n_law0_Num [v89] h fun v95 h =>
 binP .neq .other v95 v92 fun v96 =>
 k94 v96 h)
 (.bool true) h fun v97 h =>
 iteP v97
 (K (.bool false) h)
 (binP .add .other v83 (.int .i64 1) fun v98 =>
 k84 [v98] h))
 (binP .add .other v21 (.int .i64 1) fun v99 =>
 k22 [v99] h)) (v100.getD 0 .any)) [.int .i64 (-1)] h)) (v101.getD 0 .any) (v101.getD 1 .any))) (v102.getD 0 .any)))
 (S n_law8_awake [] h fun v103 h =>
 K v103 h)) (v104.getD 0 .any)) [.int .i64 0] h))
theorem q_law8_Disks (S : FuncId → List AVal → AHeap A → (AVal → AHeap A → Prop) → Prop) (G : Nat → AHeap A → List AVal → (List AVal → AHeap A → Prop) → Prop) (a0 a1 : AVal) (h : AHeap A) (K : AVal → AHeap A → Prop) : funP Try.prog S G Try.f10 (.two none .leaf (.two none .leaf (.two none .leaf (.two none .leaf (.two none .leaf (.two none (.two none .leaf (.one [] (.one [9] (.two none .leaf (.two none (.one [] (.two none .leaf (.two none .leaf (.two (some [11]) .leaf (.two none .leaf (.two (some [12, 13]) .leaf (.two none .leaf (.two none .leaf (.one [] (.one [18] .leaf)))))))))) .leaf))))) .leaf)))))) [a0, a1] h K = p_law8_Disks S G a0 a1 h K := by kernel_rfl
theorem c_law8_Disks {R : Adts A} {h : AHeap A} {K : AVal → AHeap A → Prop} {a0 a1 : AVal} (hk : p_law8_Disks (Tri Pr R) (Gives Pr R) a0 a1 h K) : Tri Pr R n_law8_Disks [a0, a1] h K :=
  tri_of_funP (by kernel_rfl) (fun _ _ _ _ h => h) (fun _ _ _ _ h => h) Try.func10 (by rw [q_law8_Disks]; exact hk)
end Go.AI
