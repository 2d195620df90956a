/- The functions as texts over the abstract heap. -/
import Derived.Test.YtkpoknhlecgbnaaNm
import Derived.KernelRfl
set_option linter.all false
namespace Go.AI
open Go.Proofs
set_option maxRecDepth 1000000
variable {A : Type}
/-- bastion/bastionlaw12.Totps -/
def p_law12_Totps (S : FuncId → List AVal → AHeap A → (AVal → AHeap A → Prop) → Prop) (G : Nat → AHeap A → List AVal → (List AVal → AHeap A → Prop) → Prop) (a0 a1 a2 a3 a4 a5 : AVal) (h : AHeap A) (K : AVal → AHeap A → Prop) : Prop :=
 S n_law12_twin [a0, .nils] h fun v1 h =>
 extP v1 0 fun v2 =>
 extP v1 1 fun v3 =>
 binP .eql .ptr v2 .nilp fun v4 =>
 condP v4 false (fun k5 =>
 binP .eql .ptr v3 .nilp fun v6 =>
 k5 v6 h)
 (.bool true) h fun v7 h =>
 iteP v7
 (S n_law12_awake [] h fun v8 h =>
 K v8 h)
 (loopP G (fun v65 h k10 =>
 (fun v9 =>
 lenP a2 fun v11 =>
 binP .lss .other v9 v11 fun v12 =>
 condP v12 true (fun k13 =>
 binP .lss .other v9 (.int .i64 20) fun v14 =>
 k13 v14 h)
 (.bool false) h fun v15 h =>
 iteP v15
 (idxP 1 a2 v9 fun v16 =>
 ldP 1 false v16 h fun v17 =>
 S n_totp_Code [v2, a1, v17] h fun v18 h =>
 extP v18 0 fun v19 =>
 extP v18 1 fun v20 =>
 idxP 1 a2 v9 fun v21 =>
 ldP 1 false v21 h fun v22 =>
 S n_ref12_Code [v3, a1, v22] h fun v23 h =>
 extP v23 0 fun v24 =>
 extP v23 1 fun v25 =>
 S n_totp_Accept [v2, a1, a3, a4, v19] h fun v26 h =>
 extP v26 0 fun v27 =>
 extP v26 1 fun v28 =>
 S n_ref12_Accept [v3, a1, a3, a4, v24] h fun v29 h =>
 extP v29 0 fun v30 =>
 extP v29 1 fun v31 =>
 binP .neq .other v19 v24 fun v32 =>
 condP v32 false (fun k33 =>
 S n_law0_Num [v20] h fun v34 h =>
 binP .neq .other v34 v25 fun v35 =>
 k33 v35 h)
 (.bool true) h fun v36 h =>
 condP v36 false (fun k37 =>
 binP .neq .other v27 v30 fun v38 =>
 k37 v38 h)
 (.bool true) h fun v39 h =>
 condP v39 false (fun k40 =>
 binP .neq .bl v28 v31 fun v41 =>
 k40 v41 h)
 (.bool true) h fun v42 h =>
 iteP v42
 (K (.bool false) h)
 (binP .add .other v9 (.int .i64 1) fun v43 =>
 k10 [v43] h))
 (S n_totp_Accept [v2, a1, a3, a4, a5] h fun v44 h =>
 extP v44 0 fun v45 =>
 extP v44 1 fun v46 =>
 S n_ref12_Accept [v3, a1, a3, a4, a5] h fun v47 h =>
 extP v47 0 fun v48 =>
 extP v47 1 fun v49 =>
 binP .eql .other v45 v48 fun v50 =>
 condP v50 true (fun k51 =>
 binP .eql .bl v46 v49 fun v52 =>
 k51 v52 h)
 (.bool false) h fun v53 h =>
 condP v53 true (fun k54 =>
 S n_totp_Step [a4] h fun v55 h =>
 S n_ref12_Step [a4] h fun v56 h =>
 binP .eql .other v55 v56 fun v57 =>
 k54 v57 h)
 (.bool false) h fun v58 h =>
 condP v58 true (fun k59 =>
 S n_law12_sameBooks [v2, v3] h fun v60 h =>
 k59 v60 h)
 (.bool false) h fun v61 h =>
 condP v61 true (fun k62 =>
 S n_law12_awake [] h fun v63 h =>
 k62 v63 h)
 (.bool false) h fun v64 h =>
 K v64 h)) (v65.getD 0 .any)) [.int .i64 0] h)
theorem q_law12_Totps (S : FuncId → List AVal → AHeap A → (AVal → AHeap A → Prop) → Prop) (G : Nat → AHeap A → List AVal → (List AVal → AHeap A → Prop) → Prop) (a0 a1 a2 a3 a4 a5 : AVal) (h : AHeap A) (K : AVal → AHeap A → Prop) : funP Try.prog S G Try.f3 (.two none .leaf (.two none .leaf (.two none .leaf (.two none (.two none .leaf (.one [] (.one [15] .leaf))) .leaf)))) [a0, a1, a2, a3, a4, a5] h K = p_law12_Totps S G a0 a1 a2 a3 a4 a5 h K := by kernel_rfl
theorem c_law12_Totps {R : Adts A} {h : AHeap A} {K : AVal → AHeap A → Prop} {a0 a1 a2 a3 a4 a5 : AVal} (hk : p_law12_Totps (Tri Pr R) (Gives Pr R) a0 a1 a2 a3 a4 a5 h K) : Tri Pr R n_law12_Totps [a0, a1, a2, a3, a4, a5] h K :=
  tri_of_funP (by kernel_rfl) (fun _ _ _ _ h => h) (fun _ _ _ _ h => h) Try.func3 (by rw [q_law12_Totps]; exact hk)
/-- bastion/bastionlaw10.SuperSlots -/
def p_law10_SuperSlots (S : FuncId → List AVal → AHeap A → (AVal → AHeap A → Prop) → Prop) (G : Nat → AHeap A → List AVal → (List AVal → AHeap A → Prop) → Prop) (a0 a1 a2 a3 : AVal) (h : AHeap A) (K : AVal → AHeap A → Prop) : Prop :=
 S n_law10_awake [] h fun v1 h =>
 notP v1 fun v2 =>
 iteP v2
 (K (.bool false) h)
 (S n_law10_twin [.int .i64 9, .nils] h fun v3 h =>
 extP v3 0 fun v4 =>
 extP v3 1 fun v5 =>
 binP .eql .ptr v4 .nilp fun v6 =>
 iteP v6
 (K (.bool false) h)
 (cviP .u64 a0 fun v7 =>
 binP .rem .other v7 (.int .u64 1023) fun v8 =>
 cviP .i64 v8 fun v9 =>
 binP .add .other (.int .i64 1) v9 fun v10 =>
 cviP .u64 a1 fun v11 =>
 binP .rem .other v11 (.int .u64 1023) fun v12 =>
 cviP .i64 v12 fun v13 =>
 binP .add .other (.int .i64 1) v13 fun v14 =>
 S n_super_Put [v4, v10] h fun v15 h =>
 extP v15 0 fun v16 =>
 extP v15 1 fun v17 =>
 S n_super_Put [v4, v14] h fun v18 h =>
 extP v18 0 fun v19 =>
 extP v18 1 fun v20 =>
 S n_law0_Num [v17] h fun v21 h =>
 binP .neq .other v21 (.int .i64 0) fun v22 =>
 condP v22 false (fun k23 =>
 S n_law0_Num [v20] h fun v24 h =>
 binP .neq .other v24 (.int .i64 0) fun v25 =>
 k23 v25 h)
 (.bool true) h fun v26 h =>
 condP v26 false (fun k27 =>
 lnsP v16 fun v28 =>
 binP .neq .other v28 (.int .i64 64) fun v29 =>
 k27 v29 h)
 (.bool true) h fun v30 h =>
 condP v30 false (fun k31 =>
 lnsP v19 fun v32 =>
 binP .neq .other v32 (.int .i64 64) fun v33 =>
 k31 v33 h)
 (.bool true) h fun v34 h =>
 iteP v34
 (K (.bool false) h)
 (S n_super_Pick [v4, v16, v19] h fun v35 h =>
 extP v35 0 fun v36 =>
 extP v35 1 fun v37 =>
 extP v35 2 fun v38 =>
 S n_law0_Num [v38] h fun v39 h =>
 binP .neq .other v39 (.int .i64 0) fun v40 =>
 condP v40 false (fun k41 =>
 maxP [v10, v14] fun v42 =>
 binP .neq .other v36 v42 fun v43 =>
 k41 v43 h)
 (.bool true) h fun v44 h =>
 condP v44 false (fun k45 =>
 binP .neq .other v37 (.int .i64 1) fun v46 =>
 condP v46 true (fun k47 =>
 binP .geq .other v10 v14 fun v48 =>
 k47 v48 h)
 (.bool false) h fun v49 h =>
 k45 v49 h)
 (.bool true) h fun v50 h =>
 condP v50 false (fun k51 =>
 binP .neq .other v37 (.int .i64 0) fun v52 =>
 condP v52 true (fun k53 =>
 binP .lss .other v10 v14 fun v54 =>
 k53 v54 h)
 (.bool false) h fun v55 h =>
 k51 v55 h)
 (.bool true) h fun v56 h =>
 iteP v56
 (K (.bool false) h)
 (binP .and .other a2 (.int .i64 1) fun v57 =>
 subP v19 none (some v57) fun v58 =>
 binP .sub .other (.int .i64 64) v57 fun v59 =>
 mkslP t_uint8 1 1 [.int .u8 0] v59 v59 h fun v60 h =>
 b2sP v60 h fun v61 =>
 binP .add .other v58 v61 fun v62 =>
 binP .neq .other v62 v19 fun v63 =>
 binP .and .other a3 (.int .i64 1) fun v64 =>
 binP .eql .other v64 (.int .i64 1) fun v65 =>
 iteP v65
 (S n_super_Pick [v4, v62, v16] h fun v66 h =>
 extP v66 0 fun v67 =>
 extP v66 1 fun v68 =>
 extP v66 2 fun v69 =>
 notP v63 fun v70 =>
 condP v70 false (fun k71 =>
 binP .eql .other v67 v10 fun v72 =>
 condP v72 true (fun k73 =>
 binP .eql .other v68 (.int .i64 0) fun v74 =>
 k73 v74 h)
 (.bool false) h fun v75 h =>
 condP v75 true (fun k76 =>
 S n_law0_Num [v69] h fun v77 h =>
 binP .eql .other v77 (.int .i64 0) fun v78 =>
 k76 v78 h)
 (.bool false) h fun v79 h =>
 k71 v79 h)
 (.bool true) h fun v80 h =>
 K v80 h)
 (S n_super_Pick [v4, v16, v62] h fun v81 h =>
 extP v81 0 fun v82 =>
 extP v81 1 fun v83 =>
 extP v81 2 fun v84 =>
 notP v63 fun v85 =>
 condP v85 false (fun k86 =>
 binP .eql .other v82 v10 fun v87 =>
 condP v87 true (fun k88 =>
 binP .eql .other v83 (.int .i64 1) fun v89 =>
 k88 v89 h)
 (.bool false) h fun v90 h =>
 condP v90 true (fun k91 =>
 S n_law0_Num [v84] h fun v92 h =>
 binP .eql .other v92 (.int .i64 0) fun v93 =>
 k91 v93 h)
 (.bool false) h fun v94 h =>
 k86 v94 h)
 (.bool true) h fun v95 h =>
 K v95 h)))))
theorem q_law10_SuperSlots (S : FuncId → List AVal → AHeap A → (AVal → AHeap A → Prop) → Prop) (G : Nat → AHeap A → List AVal → (List AVal → AHeap A → Prop) → Prop) (a0 a1 a2 a3 : AVal) (h : AHeap A) (K : AVal → AHeap A → Prop) : funP Try.prog S G Try.f4 (.two none .leaf (.two none .leaf (.two none .leaf (.two none .leaf (.two none .leaf (.two none .leaf (.two none .leaf (.two none .leaf (.two none .leaf (.two none .leaf (.two none .leaf (.two none (.draw none (.take 0 (.take 1 (.take 2 (.take 3 (.take 4 (.alt 5 (.alt 6 (.take 7 (.take 8 .stop)) .stop) .stop))))))) .leaf)))))))))))) [a0, a1, a2, a3] h K = p_law10_SuperSlots S G a0 a1 a2 a3 h K := by kernel_rfl
theorem c_law10_SuperSlots {R : Adts A} {h : AHeap A} {K : AVal → AHeap A → Prop} {a0 a1 a2 a3 : AVal} (hk : p_law10_SuperSlots (Tri Pr R) (Gives Pr R) a0 a1 a2 a3 h K) : Tri Pr R n_law10_SuperSlots [a0, a1, a2, a3] h K :=
  tri_of_funP (by kernel_rfl) (fun _ _ _ _ h => h) (fun _ _ _ _ h => h) Try.func4 (by rw [q_law10_SuperSlots]; exact hk)
/-- bastion/bastionlaw10.SuperRows -/
def p_law10_SuperRows (S : FuncId → List AVal → AHeap A → (AVal → AHeap A → Prop) → Prop) (G : Nat → AHeap A → List AVal → (List AVal → AHeap A → Prop) → Prop) (a0 a1 : AVal) (h : AHeap A) (K : AVal → AHeap A → Prop) : Prop :=
 S n_law10_awake [] h fun v1 h =>
 notP v1 fun v2 =>
 iteP v2
 (K (.bool false) h)
 (S n_book_New [.int .i64 999] h fun v3 h =>
 extP v3 0 fun v4 =>
 extP v3 1 fun v5 =>
 S n_law0_Num [v5] h fun v6 h =>
 binP .neq .other v6 (.int .i64 0) fun v7 =>
 condP v7 false (fun k8 =>
 binP .eql .ptr v4 .nilp fun v9 =>
 k8 v9 h)
 (.bool true) h fun v10 h =>
 iteP v10
 (K (.bool false) h)
 (binP .and .other a0 (.int .i64 31) fun v11 =>
 binP .add .other (.int .i64 1) v11 fun v12 =>
 binP .and .other a1 (.int .i64 255) fun v13 =>
 bslP t_string 2 [.str [], .str []] [(0, 1, .str []), (1, 1, .str [])] h fun v14 h =>
 loopP G (fun v76 h k17 =>
 (fun v15 v16 =>
 binP .leq .other v16 v12 fun v18 =>
 iteP v18
 (binP .add .other v13 v16 fun v19 =>
 S n_super_Put [v4, v19] h fun v20 h =>
 extP v20 0 fun v21 =>
 extP v20 1 fun v22 =>
 S n_law0_Num [v22] h fun v23 h =>
 binP .neq .other v23 (.int .i64 0) fun v24 =>
 iteP v24
 (K (.bool false) h)
 (idxP 1 v14 v15 fun v25 =>
 ldP 1 false v25 h fun v26 =>
 idxP 1 v14 v15 fun v27 =>
 stP 1 v27 (.str [116, 111, 114, 110]) h fun h =>
 idxP 1 v14 (.int .i64 0) fun v28 =>
 idxP 1 v14 (.int .i64 1) fun v29 =>
 ldP 1 false v28 h fun v30 =>
 ldP 1 false v29 h fun v31 =>
 ldV 1 false v28 h = some v30 ∧
 S n_super_Pick [v4, v30, v31] h fun v32 h =>
 extP v32 0 fun v33 =>
 extP v32 1 fun v34 =>
 extP v32 2 fun v35 =>
 binP .gtr .other v16 (.int .i64 1) fun v36 =>
 condP v36 true (fun k37 =>
 S n_law0_Num [v35] h fun v38 h =>
 binP .neq .other v38 (.int .i64 0) fun v39 =>
 condP v39 false (fun k40 =>
 binP .add .other v13 v16 fun v41 =>
 binP .sub .other v41 (.int .i64 1) fun v42 =>
 binP .neq .other v33 v42 fun v43 =>
 k40 v43 h)
 (.bool true) h fun v44 h =>
 k37 v44 h)
 (.bool false) h fun v45 h =>
 condP v45 false (fun k46 =>
 binP .eql .other v16 (.int .i64 1) fun v47 =>
 condP v47 true (fun k48 =>
 S n_law0_Num [v35] h fun v49 h =>
 binP .neq .other v49 (.int .i64 1001) fun v50 =>
 k48 v50 h)
 (.bool false) h fun v51 h =>
 k46 v51 h)
 (.bool true) h fun v52 h =>
 condP v52 false (fun k53 =>
 binP .eql .other v26 v21 fun v54 =>
 k53 v54 h)
 (.bool true) h fun v55 h =>
 iteP v55
 (K (.bool false) h)
 (idxP 1 v14 v15 fun v56 =>
 stP 1 v56 v21 h fun h =>
 idxP 1 v14 (.int .i64 0) fun v57 =>
 idxP 1 v14 (.int .i64 1) fun v58 =>
 ldP 1 false v57 h fun v59 =>
 ldP 1 false v58 h fun v60 =>
 ldV 1 false v57 h = some v59 ∧
 S n_super_Pick [v4, v59, v60] h fun v61 h =>
 extP v61 0 fun v62 =>
 extP v61 1 fun v63 =>
 extP v61 2 fun v64 =>
 S n_law0_Num [v64] h fun v65 h =>
 binP .neq .other v65 (.int .i64 0) fun v66 =>
 condP v66 false (fun k67 =>
 binP .add .other v13 v16 fun v68 =>
 binP .neq .other v62 v68 fun v69 =>
 k67 v69 h)
 (.bool true) h fun v70 h =>
 condP v70 false (fun k71 =>
 binP .sub .other (.int .i64 1) v15 fun v72 =>
 binP .neq .other v63 v72 fun v73 =>
 k71 v73 h)
 (.bool true) h fun v74 h =>
 iteP v74
 (K (.bool false) h)
 (binP .add .other v16 (.int .i64 1) fun v75 =>
 k17 [v63, v75] h))))
 (K (.bool true) h)) (v76.getD 0 .any) (v76.getD 1 .any)) [.int .i64 0, .int .i64 1] h))
theorem q_law10_SuperRows (S : FuncId → List AVal → AHeap A → (AVal → AHeap A → Prop) → Prop) (G : Nat → AHeap A → List AVal → (List AVal → AHeap A → Prop) → Prop) (a0 a1 : AVal) (h : AHeap A) (K : AVal → AHeap A → Prop) : funP Try.prog S G Try.f5 (.two none .leaf (.two none .leaf (.two none .leaf (.two none .leaf (.two none .leaf (.two none .leaf (.two none .leaf (.two none (.two none .leaf (.one [] (.one [10, 11] (.two none .leaf (.two none (.one [] (.two none .leaf (.two none .leaf (.two none .leaf (.two none .leaf (.two none (.draw none (.take 0 (.take 1 (.take 2 (.take 4 (.take 5 (.load 3 (.alt 6 (.alt 7 (.take 8 (.take 9 (.take 10 (.take 11 (.take 12 (.take 13 (.take 14 .stop))))))) .stop) .stop)))))))) (.two none .leaf (.two none .leaf (.two none (.draw none (.take 0 (.take 1 (.take 2 (.take 4 (.take 5 (.load 3 (.alt 6 (.alt 7 (.take 8 (.take 9 (.take 10 (.take 11 (.take 12 (.take 13 (.take 14 .stop))))))) .stop) .stop)))))))) .leaf))))))))) .leaf))))) .leaf)))))))) [a0, a1] h K = p_law10_SuperRows S G a0 a1 h K := by kernel_rfl
theorem c_law10_SuperRows {R : Adts A} {h : AHeap A} {K : AVal → AHeap A → Prop} {a0 a1 : AVal} (hk : p_law10_SuperRows (Tri Pr R) (Gives Pr R) a0 a1 h K) : Tri Pr R n_law10_SuperRows [a0, a1] h K :=
  tri_of_funP (by kernel_rfl) (fun _ _ _ _ h => h) (fun _ _ _ _ h => h) Try.func5 (by rw [q_law10_SuperRows]; exact hk)
/-- bastion/bastionlaw10.SuperForms -/
def p_law10_SuperForms (S : FuncId → List AVal → AHeap A → (AVal → AHeap A → Prop) → Prop) (G : Nat → AHeap A → List AVal → (List AVal → AHeap A → Prop) → Prop) (a0 a1 : AVal) (h : AHeap A) (K : AVal → AHeap A → Prop) : Prop :=
 S n_law10_awake [] h fun v1 h =>
 notP v1 fun v2 =>
 iteP v2
 (K (.bool false) h)
 (binP .and .other a1 (.int .i64 1023) fun v3 =>
 binP .add .other (.int .i64 1) v3 fun v4 =>
 S n_book_New [.int .i64 1] h fun v5 h =>
 extP v5 0 fun v6 =>
 extP v5 1 fun v7 =>
 S n_law0_Num [v7] h fun v8 h =>
 binP .neq .other v8 (.int .i64 0) fun v9 =>
 condP v9 false (fun k10 =>
 binP .eql .ptr v6 .nilp fun v11 =>
 k10 v11 h)
 (.bool true) h fun v12 h =>
 iteP v12
 (K (.bool false) h)
 (S n_super_Put [v6, .int .i64 1023] h fun v13 h =>
 extP v13 0 fun v14 =>
 extP v13 1 fun v15 =>
 binP .add .other (.int .i64 1023) v4 fun v16 =>
 S n_super_Put [v6, v16] h fun v17 h =>
 extP v17 0 fun v18 =>
 extP v17 1 fun v19 =>
 binP .sub .other (.int .i64 1) v4 fun v20 =>
 S n_super_Put [v6, v20] h fun v21 h =>
 extP v21 0 fun v22 =>
 extP v21 1 fun v23 =>
 S n_super_Put [v6, .int .i64 1] h fun v24 h =>
 extP v24 0 fun v25 =>
 extP v24 1 fun v26 =>
 S n_law0_Num [v15] h fun v27 h =>
 binP .neq .other v27 (.int .i64 0) fun v28 =>
 condP v28 false (fun k29 =>
 lnsP v14 fun v30 =>
 binP .neq .other v30 (.int .i64 64) fun v31 =>
 k29 v31 h)
 (.bool true) h fun v32 h =>
 iteP v32
 (K (.bool false) h)
 (subP v14 (some (.int .i64 1)) none fun v33 =>
 binP .add .other v14 (.str [0]) fun v34 =>
 subP v14 (some (.int .i64 1)) none fun v35 =>
 binP .add .other (.str [1]) v35 fun v36 =>
 subP v14 none (some (.int .i64 2)) fun v37 =>
 binP .add .other v37 (.str [1]) fun v38 =>
 subP v14 (some (.int .i64 3)) none fun v39 =>
 binP .add .other v38 v39 fun v40 =>
 subP v14 none (some (.int .i64 63)) fun v41 =>
 binP .add .other v41 (.str [1]) fun v42 =>
 mkslP t_uint8 1 1 [.int .u8 0] (.int .i64 64) (.int .i64 64) h fun v43 h =>
 b2sP v43 h fun v44 =>
 bslP t_string 7 [.str [], .str [], .str [], .str [], .str [], .str [], .str []] [(0, 1, .str []), (1, 1, v33), (2, 1, v34), (3, 1, v36), (4, 1, v40), (5, 1, v42), (6, 1, v44)] h fun v45 h =>
 cviP .u64 a0 fun v46 =>
 binP .rem .other v46 (.int .u64 7) fun v47 =>
 cviP .i64 v47 fun v48 =>
 idxP 1 v45 v48 fun v49 =>
 ldP 1 false v49 h fun v50 =>
 S n_super_Get [v6, v50] h fun v51 h =>
 extP v51 0 fun v52 =>
 extP v51 1 fun v53 =>
 S n_super_Get [v6, v14] h fun v54 h =>
 extP v54 0 fun v55 =>
 extP v54 1 fun v56 =>
 S n_super_Pick [v6, v50, v14] h fun v57 h =>
 extP v57 0 fun v58 =>
 extP v57 1 fun v59 =>
 extP v57 2 fun v60 =>
 S n_super_Pick [.nilp, v14, v14] h fun v61 h =>
 extP v61 0 fun v62 =>
 extP v61 1 fun v63 =>
 extP v61 2 fun v64 =>
 S n_super_Put [.nilp, .int .i64 1] h fun v65 h =>
 extP v65 0 fun v66 =>
 extP v65 1 fun v67 =>
 S n_law0_Num [v19] h fun v68 h =>
 binP .eql .other v68 (.int .i64 1000) fun v69 =>
 condP v69 true (fun k70 =>
 S n_law0_Num [v23] h fun v71 h =>
 binP .eql .other v71 (.int .i64 1000) fun v72 =>
 k70 v72 h)
 (.bool false) h fun v73 h =>
 condP v73 true (fun k74 =>
 S n_law0_Num [v26] h fun v75 h =>
 binP .eql .other v75 (.int .i64 1000) fun v76 =>
 k74 v76 h)
 (.bool false) h fun v77 h =>
 condP v77 true (fun k78 =>
 S n_law0_Num [v53] h fun v79 h =>
 binP .eql .other v79 (.int .i64 1000) fun v80 =>
 k78 v80 h)
 (.bool false) h fun v81 h =>
 condP v81 true (fun k82 =>
 binP .eql .other v55 (.int .i64 1023) fun v83 =>
 k82 v83 h)
 (.bool false) h fun v84 h =>
 condP v84 true (fun k85 =>
 S n_law0_Num [v56] h fun v86 h =>
 binP .eql .other v86 (.int .i64 0) fun v87 =>
 k85 v87 h)
 (.bool false) h fun v88 h =>
 condP v88 true (fun k89 =>
 binP .eql .other v58 (.int .i64 1023) fun v90 =>
 k89 v90 h)
 (.bool false) h fun v91 h =>
 condP v91 true (fun k92 =>
 binP .eql .other v59 (.int .i64 0) fun v93 =>
 k92 v93 h)
 (.bool false) h fun v94 h =>
 condP v94 true (fun k95 =>
 S n_law0_Num [v60] h fun v96 h =>
 binP .eql .other v96 (.int .i64 0) fun v97 =>
 k95 v97 h)
 (.bool false) h fun v98 h =>
 condP v98 true (fun k99 =>
 S n_law0_Num [v64] h fun v100 h =>
 binP .eql .other v100 (.int .i64 1) fun v101 =>
 k99 v101 h)
 (.bool false) h fun v102 h =>
 condP v102 true (fun k103 =>
 S n_law0_Num [v67] h fun v104 h =>
 binP .eql .other v104 (.int .i64 1) fun v105 =>
 k103 v105 h)
 (.bool false) h fun v106 h =>
 condP v106 true (fun k107 =>
 S n_book_Book_Len [v6] h fun v108 h =>
 binP .eql .other v108 (.int .i64 1) fun v109 =>
 k107 v109 h)
 (.bool false) h fun v110 h =>
 K v110 h)))
theorem q_law10_SuperForms (S : FuncId → List AVal → AHeap A → (AVal → AHeap A → Prop) → Prop) (G : Nat → AHeap A → List AVal → (List AVal → AHeap A → Prop) → Prop) (a0 a1 : AVal) (h : AHeap A) (K : AVal → AHeap A → Prop) : funP Try.prog S G Try.f6 (.two none .leaf (.two none .leaf (.two none .leaf (.two none .leaf (.two none .leaf (.two none .leaf (.two none .leaf (.two none .leaf (.two none .leaf (.two none .leaf (.two none (.draw none (.take 0 (.take 1 (.take 2 (.take 3 (.take 4 (.take 5 (.take 6 (.take 7 (.take 8 (.take 9 (.take 10 (.take 11 (.take 12 (.take 13 (.take 14 (.take 15 (.alt 16 (.alt 17 (.alt 18 (.take 19 .stop) .stop) .stop) .stop)))))))))))))))))) .leaf))))))))))) [a0, a1] h K = p_law10_SuperForms S G a0 a1 h K := by kernel_rfl
theorem c_law10_SuperForms {R : Adts A} {h : AHeap A} {K : AVal → AHeap A → Prop} {a0 a1 : AVal} (hk : p_law10_SuperForms (Tri Pr R) (Gives Pr R) a0 a1 h K) : Tri Pr R n_law10_SuperForms [a0, a1] h K :=
  tri_of_funP (by kernel_rfl) (fun _ _ _ _ h => h) (fun _ _ _ _ h => h) Try.func6 (by rw [q_law10_SuperForms]; exact hk)
/-- bastion/bastionlaw10.Supers -/
def p_law10_Supers (S : FuncId → List AVal → AHeap A → (AVal → AHeap A → Prop) → Prop) (G : Nat → AHeap A → List AVal → (List AVal → AHeap A → Prop) → Prop) (a0 a1 a2 a3 : AVal) (h : AHeap A) (K : AVal → AHeap A → Prop) : Prop :=
 S n_law10_twin [a0, .nils] h fun v1 h =>
 extP v1 0 fun v2 =>
 extP v1 1 fun v3 =>
 binP .eql .ptr v2 .nilp fun v4 =>
 condP v4 false (fun k5 =>
 binP .eql .ptr v3 .nilp fun v6 =>
 k5 v6 h)
 (.bool true) h fun v7 h =>
 iteP v7
 (S n_law10_awake [] h fun v8 h =>
 K v8 h)
 (loopP G (fun v101 h k12 =>
 (fun v9 v10 v11 =>
 lenP a1 fun v13 =>
 binP .lss .other v11 v13 fun v14 =>
 condP v14 true (fun k15 =>
 binP .lss .other v11 (.int .i64 10) fun v16 =>
 k15 v16 h)
 (.bool false) h fun v17 h =>
 iteP v17
 (idxP 1 a1 v11 fun v18 =>
 ldP 1 false v18 h fun v19 =>
 S n_super_Put [v2, v19] h fun v20 h =>
 extP v20 0 fun v21 =>
 extP v20 1 fun v22 =>
 idxP 1 a1 v11 fun v23 =>
 ldP 1 false v23 h fun v24 =>
 S n_ref1_PutSuper [v3, v24] h fun v25 h =>
 extP v25 0 fun v26 =>
 extP v25 1 fun v27 =>
 binP .neq .other v21 v26 fun v28 =>
 condP v28 false (fun k29 =>
 S n_law0_Num [v22] h fun v30 h =>
 binP .neq .other v30 v27 fun v31 =>
 k29 v31 h)
 (.bool true) h fun v32 h =>
 iteP v32
 (K (.bool false) h)
 (joinP G h.length (fun k33 =>
 binP .eql .other v27 (.int .i64 0) fun v34 =>
 condP v34 true (fun k35 =>
 binP .and .other v11 (.int .i64 1) fun v36 =>
 binP .eql .other v36 (.int .i64 0) fun v37 =>
 k35 v37 h)
 (.bool false) h fun v38 h =>
 iteP v38
 (k33 [v21] h)
 (k33 [v9] h))
 (fun v78 h =>
 (fun v39 =>
 joinP G h.length (fun k40 =>
 binP .eql .other v27 (.int .i64 0) fun v41 =>
 condP v41 true (fun k42 =>
 binP .and .other v11 (.int .i64 1) fun v43 =>
 binP .eql .other v43 (.int .i64 1) fun v44 =>
 k42 v44 h)
 (.bool false) h fun v45 h =>
 iteP v45
 (k40 [v21] h)
 (k40 [v10] h))
 (fun v77 h =>
 (fun v46 =>
 S n_super_Get [v2, v39] h fun v47 h =>
 extP v47 0 fun v48 =>
 extP v47 1 fun v49 =>
 S n_ref1_GetSuper [v3, v39] h fun v50 h =>
 extP v50 0 fun v51 =>
 extP v50 1 fun v52 =>
 S n_super_Pick [v2, v39, v46] h fun v53 h =>
 extP v53 0 fun v54 =>
 extP v53 1 fun v55 =>
 extP v53 2 fun v56 =>
 S n_ref1_Pick [v3, v39, v46] h fun v57 h =>
 extP v57 0 fun v58 =>
 extP v57 1 fun v59 =>
 extP v57 2 fun v60 =>
 binP .neq .other v48 v51 fun v61 =>
 condP v61 false (fun k62 =>
 S n_law0_Num [v49] h fun v63 h =>
 binP .neq .other v63 v52 fun v64 =>
 k62 v64 h)
 (.bool true) h fun v65 h =>
 condP v65 false (fun k66 =>
 binP .neq .other v54 v58 fun v67 =>
 k66 v67 h)
 (.bool true) h fun v68 h =>
 condP v68 false (fun k69 =>
 binP .neq .other v55 v59 fun v70 =>
 k69 v70 h)
 (.bool true) h fun v71 h =>
 condP v71 false (fun k72 =>
 S n_law0_Num [v56] h fun v73 h =>
 binP .neq .other v73 v60 fun v74 =>
 k72 v74 h)
 (.bool true) h fun v75 h =>
 iteP v75
 (K (.bool false) h)
 (binP .add .other v11 (.int .i64 1) fun v76 =>
 k12 [v39, v46, v76] h)) (v77.getD 0 .any))) (v78.getD 0 .any))))
 (S n_super_Pick [v2, a2, a3] h fun v79 h =>
 extP v79 0 fun v80 =>
 extP v79 1 fun v81 =>
 extP v79 2 fun v82 =>
 S n_ref1_Pick [v3, a2, a3] h fun v83 h =>
 extP v83 0 fun v84 =>
 extP v83 1 fun v85 =>
 extP v83 2 fun v86 =>
 binP .eql .other v80 v84 fun v87 =>
 condP v87 true (fun k88 =>
 binP .eql .other v81 v85 fun v89 =>
 k88 v89 h)
 (.bool false) h fun v90 h =>
 condP v90 true (fun k91 =>
 S n_law0_Num [v82] h fun v92 h =>
 binP .eql .other v92 v86 fun v93 =>
 k91 v93 h)
 (.bool false) h fun v94 h =>
 condP v94 true (fun k95 =>
 S n_law10_sameBooks [v2, v3] h fun v96 h =>
 k95 v96 h)
 (.bool false) h fun v97 h =>
 condP v97 true (fun k98 =>
 S n_law10_awake [] h fun v99 h =>
 k98 v99 h)
 (.bool false) h fun v100 h =>
 K v100 h)) (v101.getD 0 .any) (v101.getD 1 .any) (v101.getD 2 .any)) [a2, a3, .int .i64 0] h)
theorem q_law10_Supers (S : FuncId → List AVal → AHeap A → (AVal → AHeap A → Prop) → Prop) (G : Nat → AHeap A → List AVal → (List AVal → AHeap A → Prop) → Prop) (a0 a1 a2 a3 : AVal) (h : AHeap A) (K : AVal → AHeap A → Prop) : funP Try.prog S G Try.f7 (.two none .leaf (.two none .leaf (.two none .leaf (.two none .leaf (.two none (.two none .leaf (.one [] (.one [11, 12, 13] (.two none .leaf (.two none (.one [] (.two none .leaf (.two none .leaf (.two none .leaf (.two (some [11]) .leaf (.two (some [12]) .leaf .leaf)))))) .leaf))))) .leaf))))) [a0, a1, a2, a3] h K = p_law10_Supers S G a0 a1 a2 a3 h K := by kernel_rfl
theorem c_law10_Supers {R : Adts A} {h : AHeap A} {K : AVal → AHeap A → Prop} {a0 a1 a2 a3 : AVal} (hk : p_law10_Supers (Tri Pr R) (Gives Pr R) a0 a1 a2 a3 h K) : Tri Pr R n_law10_Supers [a0, a1, a2, a3] h K :=
  tri_of_funP (by kernel_rfl) (fun _ _ _ _ h => h) (fun _ _ _ _ h => h) Try.func7 (by rw [q_law10_Supers]; exact hk)
/-- bastion/bastionlaw12.twin -/
def p_law12_twin (S : FuncId → List AVal → AHeap A → (AVal → AHeap A → Prop) → Prop) (G : Nat → AHeap A → List AVal → (List AVal → AHeap A → Prop) → Prop) (a0 a1 : AVal) (h : AHeap A) (K : AVal → AHeap A → Prop) : Prop :=
 S n_book_New [a0] h fun v1 h =>
 extP v1 0 fun v2 =>
 extP v1 1 fun v3 =>
 S n_ref1_NewBook [a0] h fun v4 h =>
 extP v4 0 fun v5 =>
 extP v4 1 fun v6 =>
 S n_law0_Num [v3] h fun v7 h =>
 binP .neq .other v7 (.int .i64 0) fun v8 =>
 condP v8 false (fun k9 =>
 binP .neq .other v6 (.int .i64 0) fun v10 =>
 k9 v10 h)
 (.bool true) h fun v11 h =>
 condP v11 false (fun k12 =>
 binP .eql .ptr v2 .nilp fun v13 =>
 k12 v13 h)
 (.bool true) h fun v14 h =>
 iteP v14
 (K (.tup [.nilp, .nilp]) h)
 (loopP G (fun v29 h k16 =>
 (fun v15 =>
 lenP a1 fun v17 =>
 binP .lss .other v15 v17 fun v18 =>
 condP v18 true (fun k19 =>
 binP .lss .other v15 (.int .i64 400) fun v20 =>
 k19 v20 h)
 (.bool false) h fun v21 h =>
 iteP v21
 (idxP 1 a1 v15 fun v22 =>
 ldP 1 false v22 h fun v23 =>
 S n_book_Book_Name [v2, v23] h fun v24 h =>
 idxP 1 a1 v15 fun v25 =>
 ldP 1 false v25 h fun v26 =>
 S n_ref1_Book_Name [v5, v26] h fun v27 h =>
 binP .add .other v15 (.int .i64 1) fun v28 =>
 k16 [v28] h)
 (K (.tup [v2, v5]) h)) (v29.getD 0 .any)) [.int .i64 0] h)
theorem q_law12_twin (S : FuncId → List AVal → AHeap A → (AVal → AHeap A → Prop) → Prop) (G : Nat → AHeap A → List AVal → (List AVal → AHeap A → Prop) → Prop) (a0 a1 : AVal) (h : AHeap A) (K : AVal → AHeap A → Prop) : funP Try.prog S G Try.f8 (.two none .leaf (.two none .leaf (.two none .leaf (.two none .leaf (.two none (.two none .leaf (.one [] (.one [10] .leaf))) .leaf))))) [a0, a1] h K = p_law12_twin S G a0 a1 h K := by kernel_rfl
theorem c_law12_twin {R : Adts A} {h : AHeap A} {K : AVal → AHeap A → Prop} {a0 a1 : AVal} (hk : p_law12_twin (Tri Pr R) (Gives Pr R) a0 a1 h K) : Tri Pr R n_law12_twin [a0, a1] h K :=
  tri_of_funP (by kernel_rfl) (fun _ _ _ _ h => h) (fun _ _ _ _ h => h) Try.func8 (by rw [q_law12_twin]; exact hk)
/-- bastion/bastionlaw12.awake -/
def p_law12_awake (S : FuncId → List AVal → AHeap A → (AVal → AHeap A → Prop) → Prop) (G : Nat → AHeap A → List AVal → (List AVal → AHeap A → Prop) → Prop) (h : AHeap A) (K : AVal → AHeap A → Prop) : Prop :=
 S n_law12_twin [.int .i64 9, .nils] h fun v1 h =>
 extP v1 0 fun v2 =>
 extP v1 1 fun v3 =>
 binP .eql .ptr v2 .nilp fun v4 =>
 iteP v4
 (K (.bool false) h)
 (S n_totp_Code [v2, .int .i64 5, .int .i64 3] h fun v5 h =>
 extP v5 0 fun v6 =>
 extP v5 1 fun v7 =>
 S n_totp_Code [v2, .int .i64 5, .int .i64 0] h fun v8 h =>
 extP v8 0 fun v9 =>
 extP v8 1 fun v10 =>
 S n_totp_Accept [v2, .int .i64 5, .int .i64 0, .int .i64 30, v6] h fun v11 h =>
 extP v11 0 fun v12 =>
 extP v11 1 fun v13 =>
 S n_totp_Accept [v2, .int .i64 5, .int .i64 3, .int .i64 30, v6] h fun v14 h =>
 extP v14 0 fun v15 =>
 extP v14 1 fun v16 =>
 S n_totp_Accept [v2, .int .i64 5, .int .i64 0, .int .i64 120, v6] h fun v17 h =>
 extP v17 0 fun v18 =>
 extP v17 1 fun v19 =>
 S n_totp_Accept [v2, .int .i64 6, .int .i64 0, .int .i64 60, v6] h fun v20 h =>
 extP v20 0 fun v21 =>
 extP v20 1 fun v22 =>
 S n_totp_Step [.int .i64 0] h fun v23 h =>
 binP .eql .other v23 (.int .i64 1) fun v24 =>
 condP v24 true (fun k25 =>
 S n_totp_Step [.int .i64 59] h fun v26 h =>
 binP .eql .other v26 (.int .i64 2) fun v27 =>
 k25 v27 h)
 (.bool false) h fun v28 h =>
 condP v28 true (fun k29 =>
 S n_totp_Step [.int .i64 (-1)] h fun v30 h =>
 binP .eql .other v30 (.int .i64 0) fun v31 =>
 k29 v31 h)
 (.bool false) h fun v32 h =>
 condP v32 true (fun k33 =>
 S n_law0_Num [v7] h fun v34 h =>
 binP .eql .other v34 (.int .i64 0) fun v35 =>
 k33 v35 h)
 (.bool false) h fun v36 h =>
 condP v36 true (fun k37 =>
 S n_law0_Num [v10] h fun v38 h =>
 binP .eql .other v38 (.int .i64 1200) fun v39 =>
 k37 v39 h)
 (.bool false) h fun v40 h =>
 condP v40 true (fun k41 =>
 binP .eql .other v12 (.int .i64 3) fun v42 =>
 k41 v42 h)
 (.bool false) h fun v43 h =>
 condP v43 true (fun k44 =>
 k44 v13 h)
 (.bool false) h fun v45 h =>
 condP v45 true (fun k46 =>
 notP v16 fun v47 =>
 k46 v47 h)
 (.bool false) h fun v48 h =>
 condP v48 true (fun k49 =>
 notP v19 fun v50 =>
 k49 v50 h)
 (.bool false) h fun v51 h =>
 condP v51 true (fun k52 =>
 notP v22 fun v53 =>
 k52 v53 h)
 (.bool false) h fun v54 h =>
 condP v54 true (fun k55 =>
 S n_book_Book_Len [v2] h fun v56 h =>
 binP .eql .other v56 (.int .i64 1) fun v57 =>
 k55 v57 h)
 (.bool false) h fun v58 h =>
 K v58 h)
theorem q_law12_awake (S : FuncId → List AVal → AHeap A → (AVal → AHeap A → Prop) → Prop) (G : Nat → AHeap A → List AVal → (List AVal → AHeap A → Prop) → Prop) (h : AHeap A) (K : AVal → AHeap A → Prop) : funP Try.prog S G Try.f9 .leaf [] h K = p_law12_awake S G h K := by kernel_rfl
theorem c_law12_awake {R : Adts A} {h : AHeap A} {K : AVal → AHeap A → Prop} (hk : p_law12_awake (Tri Pr R) (Gives Pr R) h K) : Tri Pr R n_law12_awake [] h K :=
  tri_of_funP (by kernel_rfl) (fun _ _ _ _ h => h) (fun _ _ _ _ h => h) Try.func9 (by rw [q_law12_awake]; exact hk)
/-- bastion/totp.Code -/
def p_totp_Code (S : FuncId → List AVal → AHeap A → (AVal → AHeap A → Prop) → Prop) (G : Nat → AHeap A → List AVal → (List AVal → AHeap A → Prop) → Prop) (a0 a1 a2 : AVal) (h : AHeap A) (K : AVal → AHeap A → Prop) : Prop :=
 binP .eql .ptr a0 .nilp fun v1 =>
 iteP v1
 (K (.tup [.int .i64 0, .int .i64 1]) h)
 (S n_field_Num [a2] h fun v2 h =>
 extP v2 0 fun v3 =>
 extP v2 1 fun v4 =>
 joinP G h.length (fun k5 =>
 S n_totp_stepMay [a2] h fun v6 h =>
 iteP v6
 (binP .add .other (.str [99, 111, 100, 101]) v3 fun v7 =>
 S n_craft_Mac [a0, a1, v7] h fun v8 h =>
 extP v8 0 fun v9 =>
 extP v8 1 fun v10 =>
 k5 [v9, v10] h)
 (k5 [.int .i64 0, .int .i64 300] h))
 (fun v14 h =>
 (fun v11 v12 =>
 binP .neq .other v12 (.int .i64 0) fun v13 =>
 iteP v13
 (K (.tup [.int .i64 0, .int .i64 1200]) h)
 (K (.tup [v11, .int .i64 0]) h)) (v14.getD 0 .any) (v14.getD 1 .any)))
theorem q_totp_Code (S : FuncId → List AVal → AHeap A → (AVal → AHeap A → Prop) → Prop) (G : Nat → AHeap A → List AVal → (List AVal → AHeap A → Prop) → Prop) (a0 a1 a2 : AVal) (h : AHeap A) (K : AVal → AHeap A → Prop) : funP Try.prog S G Try.f10 (.two none .leaf (.two none .leaf (.two none .leaf (.two none .leaf (.two (some [10, 11]) .leaf .leaf))))) [a0, a1, a2] h K = p_totp_Code S G a0 a1 a2 h K := by kernel_rfl
theorem c_totp_Code {R : Adts A} {h : AHeap A} {K : AVal → AHeap A → Prop} {a0 a1 a2 : AVal} (hk : p_totp_Code (Tri Pr R) (Gives Pr R) a0 a1 a2 h K) : Tri Pr R n_totp_Code [a0, a1, a2] h K :=
  tri_of_funP (by kernel_rfl) (fun _ _ _ _ h => h) (fun _ _ _ _ h => h) Try.func10 (by rw [q_totp_Code]; exact hk)
/-- bastion/bastionref12.Code -/
def p_ref12_Code (S : FuncId → List AVal → AHeap A → (AVal → AHeap A → Prop) → Prop) (G : Nat → AHeap A → List AVal → (List AVal → AHeap A → Prop) → Prop) (a0 a1 a2 : AVal) (h : AHeap A) (K : AVal → AHeap A → Prop) : Prop :=
 binP .lss .other a2 (.int .i64 1) fun v1 =>
 condP v1 false (fun k2 =>
 binP .gtr .other a2 (.int .i64 1048575) fun v3 =>
 k2 v3 h)
 (.bool true) h fun v4 h =>
 iteP v4
 (K (.tup [.int .i64 0, .int .i64 1200]) h)
 (bslP t_int 1 [.int .i64 0] [(0, 1, a2)] h fun v5 h =>
 S n_ref1_Nums [v5] h fun v6 h =>
 binP .add .other (.str [99, 111, 100, 101]) v6 fun v7 =>
 S n_ref1_Mac [a0, a1, v7] h fun v8 h =>
 extP v8 0 fun v9 =>
 extP v8 1 fun v10 =>
 binP .neq .other v10 (.int .i64 0) fun v11 =>
 iteP v11
 (K (.tup [.int .i64 0, .int .i64 1200]) h)
 (K (.tup [v9, .int .i64 0]) h))
theorem q_ref12_Code (S : FuncId → List AVal → AHeap A → (AVal → AHeap A → Prop) → Prop) (G : Nat → AHeap A → List AVal → (List AVal → AHeap A → Prop) → Prop) (a0 a1 a2 : AVal) (h : AHeap A) (K : AVal → AHeap A → Prop) : funP Try.prog S G Try.f11 .leaf [a0, a1, a2] h K = p_ref12_Code S G a0 a1 a2 h K := by kernel_rfl
theorem c_ref12_Code {R : Adts A} {h : AHeap A} {K : AVal → AHeap A → Prop} {a0 a1 a2 : AVal} (hk : p_ref12_Code (Tri Pr R) (Gives Pr R) a0 a1 a2 h K) : Tri Pr R n_ref12_Code [a0, a1, a2] h K :=
  tri_of_funP (by kernel_rfl) (fun _ _ _ _ h => h) (fun _ _ _ _ h => h) Try.func11 (by rw [q_ref12_Code]; exact hk)
/-- bastion/totp.Accept -/
def p_totp_Accept (S : FuncId → List AVal → AHeap A → (AVal → AHeap A → Prop) → Prop) (G : Nat → AHeap A → List AVal → (List AVal → AHeap A → Prop) → Prop) (a0 a1 a2 a3 a4 : AVal) (h : AHeap A) (K : AVal → AHeap A → Prop) : Prop :=
 S n_totp_Step [a3] h fun v1 h =>
 binP .sub .other v1 (.int .i64 1) fun v2 =>
 maxP [.int .i64 1, v2] fun v3 =>
 loopP G (fun v20 h k5 =>
 (fun v4 =>
 binP .gtr .other v1 (.int .i64 0) fun v6 =>
 condP v6 true (fun k7 =>
 binP .add .other v1 (.int .i64 1) fun v8 =>
 binP .leq .other v4 v8 fun v9 =>
 k7 v9 h)
 (.bool false) h fun v10 h =>
 iteP v10
 (S n_field_Num [v4] h fun v11 h =>
 extP v11 0 fun v12 =>
 extP v11 1 fun v13 =>
 binP .gtr .other v4 a2 fun v14 =>
 condP v14 true (fun k15 =>
 binP .add .other (.str [99, 111, 100, 101]) v12 fun v16 =>
 S n_craft_IsMac [a0, a1, v16, a4] h fun v17 h =>
 k15 v17 h)
 (.bool false) h fun v18 h =>
 iteP v18
 (K (.tup [v4, .bool true]) h)
 (binP .add .other v4 (.int .i64 1) fun v19 =>
 k5 [v19] h))
 (K (.tup [.int .i64 0, .bool false]) h)) (v20.getD 0 .any)) [v3] h
theorem q_totp_Accept (S : FuncId → List AVal → AHeap A → (AVal → AHeap A → Prop) → Prop) (G : Nat → AHeap A → List AVal → (List AVal → AHeap A → Prop) → Prop) (a0 a1 a2 a3 a4 : AVal) (h : AHeap A) (K : AVal → AHeap A → Prop) : funP Try.prog S G Try.f12 (.two none .leaf (.two none .leaf (.two none (.two none .leaf (.one [] (.one [13] .leaf))) .leaf))) [a0, a1, a2, a3, a4] h K = p_totp_Accept S G a0 a1 a2 a3 a4 h K := by kernel_rfl
theorem c_totp_Accept {R : Adts A} {h : AHeap A} {K : AVal → AHeap A → Prop} {a0 a1 a2 a3 a4 : AVal} (hk : p_totp_Accept (Tri Pr R) (Gives Pr R) a0 a1 a2 a3 a4 h K) : Tri Pr R n_totp_Accept [a0, a1, a2, a3, a4] h K :=
  tri_of_funP (by kernel_rfl) (fun _ _ _ _ h => h) (fun _ _ _ _ h => h) Try.func12 (by rw [q_totp_Accept]; exact hk)
/-- bastion/bastionref12.Accept -/
def p_ref12_Accept (S : FuncId → List AVal → AHeap A → (AVal → AHeap A → Prop) → Prop) (G : Nat → AHeap A → List AVal → (List AVal → AHeap A → Prop) → Prop) (a0 a1 a2 a3 a4 : AVal) (h : AHeap A) (K : AVal → AHeap A → Prop) : Prop :=
 S n_ref12_Step [a3] h fun v1 h =>
 binP .eql .other v1 (.int .i64 0) fun v2 =>
 iteP v2
 (K (.tup [.int .i64 0, .bool false]) h)
 (binP .sub .other v1 (.int .i64 1) fun v3 =>
 maxP [.int .i64 1, v3] fun v4 =>
 loopP G (fun v17 h k6 =>
 (fun v5 =>
 binP .add .other v1 (.int .i64 1) fun v7 =>
 binP .leq .other v5 v7 fun v8 =>
 iteP v8
 (binP .gtr .other v5 a2 fun v9 =>
 condP v9 true (fun k10 =>
 bslP t_int 1 [.int .i64 0] [(0, 1, v5)] h fun v11 h =>
 S n_ref1_Nums [v11] h fun v12 h =>
 binP .add .other (.str [99, 111, 100, 101]) v12 fun v13 =>
 S n_ref1_IsMac [a0, a1, v13, a4] h fun v14 h =>
 k10 v14 h)
 (.bool false) h fun v15 h =>
 iteP v15
 (K (.tup [v5, .bool true]) h)
 (binP .add .other v5 (.int .i64 1) fun v16 =>
 k6 [v16] h))
 (K (.tup [.int .i64 0, .bool false]) h)) (v17.getD 0 .any)) [v4] h)
theorem q_ref12_Accept (S : FuncId → List AVal → AHeap A → (AVal → AHeap A → Prop) → Prop) (G : Nat → AHeap A → List AVal → (List AVal → AHeap A → Prop) → Prop) (a0 a1 a2 a3 a4 : AVal) (h : AHeap A) (K : AVal → AHeap A → Prop) : funP Try.prog S G Try.f13 (.two none .leaf (.two none .leaf (.two none .leaf (.two none (.two none .leaf (.one [] (.one [13] .leaf))) .leaf)))) [a0, a1, a2, a3, a4] h K = p_ref12_Accept S G a0 a1 a2 a3 a4 h K := by kernel_rfl
theorem c_ref12_Accept {R : Adts A} {h : AHeap A} {K : AVal → AHeap A → Prop} {a0 a1 a2 a3 a4 : AVal} (hk : p_ref12_Accept (Tri Pr R) (Gives Pr R) a0 a1 a2 a3 a4 h K) : Tri Pr R n_ref12_Accept [a0, a1, a2, a3, a4] h K :=
  tri_of_funP (by kernel_rfl) (fun _ _ _ _ h => h) (fun _ _ _ _ h => h) Try.func13 (by rw [q_ref12_Accept]; exact hk)
/-- bastion/bastionlaw0.Num -/
def p_law0_Num (S : FuncId → List AVal → AHeap A → (AVal → AHeap A → Prop) → Prop) (G : Nat → AHeap A → List AVal → (List AVal → AHeap A → Prop) → Prop) (a0 : AVal) (h : AHeap A) (K : AVal → AHeap A → Prop) : Prop :=
 K a0 h
theorem q_law0_Num (S : FuncId → List AVal → AHeap A → (AVal → AHeap A → Prop) → Prop) (G : Nat → AHeap A → List AVal → (List AVal → AHeap A → Prop) → Prop) (a0 : AVal) (h : AHeap A) (K : AVal → AHeap A → Prop) : funP Try.prog S G Try.f14 .leaf [a0] h K = p_law0_Num S G a0 h K := by kernel_rfl
theorem c_law0_Num {R : Adts A} {h : AHeap A} {K : AVal → AHeap A → Prop} {a0 : AVal} (hk : p_law0_Num (Tri Pr R) (Gives Pr R) a0 h K) : Tri Pr R n_law0_Num [a0] h K :=
  tri_of_funP (by kernel_rfl) (fun _ _ _ _ h => h) (fun _ _ _ _ h => h) Try.func14 (by rw [q_law0_Num]; exact hk)
/-- bastion/totp.Step -/
def p_totp_Step (S : FuncId → List AVal → AHeap A → (AVal → AHeap A → Prop) → Prop) (G : Nat → AHeap A → List AVal → (List AVal → AHeap A → Prop) → Prop) (a0 : AVal) (h : AHeap A) (K : AVal → AHeap A → Prop) : Prop :=
 S n_totp_TickMay [a0] h fun v1 h =>
 notP v1 fun v2 =>
 iteP v2
 (K (.int .i64 0) h)
 (binP .quo .other a0 (.int .i64 30) fun v3 =>
 binP .add .other v3 (.int .i64 1) fun v4 =>
 K v4 h)
theorem q_totp_Step (S : FuncId → List AVal → AHeap A → (AVal → AHeap A → Prop) → Prop) (G : Nat → AHeap A → List AVal → (List AVal → AHeap A → Prop) → Prop) (a0 : AVal) (h : AHeap A) (K : AVal → AHeap A → Prop) : funP Try.prog S G Try.f15 .leaf [a0] h K = p_totp_Step S G a0 h K := by kernel_rfl
theorem c_totp_Step {R : Adts A} {h : AHeap A} {K : AVal → AHeap A → Prop} {a0 : AVal} (hk : p_totp_Step (Tri Pr R) (Gives Pr R) a0 h K) : Tri Pr R n_totp_Step [a0] h K :=
  tri_of_funP (by kernel_rfl) (fun _ _ _ _ h => h) (fun _ _ _ _ h => h) Try.func15 (by rw [q_totp_Step]; exact hk)
/-- bastion/bastionref12.Step -/
def p_ref12_Step (S : FuncId → List AVal → AHeap A → (AVal → AHeap A → Prop) → Prop) (G : Nat → AHeap A → List AVal → (List AVal → AHeap A → Prop) → Prop) (a0 : AVal) (h : AHeap A) (K : AVal → AHeap A → Prop) : Prop :=
 S n_ref12_tickMay [a0] h fun v1 h =>
 notP v1 fun v2 =>
 iteP v2
 (K (.int .i64 0) h)
 (binP .quo .other a0 (.int .i64 30) fun v3 =>
 binP .add .other v3 (.int .i64 1) fun v4 =>
 K v4 h)
theorem q_ref12_Step (S : FuncId → List AVal → AHeap A → (AVal → AHeap A → Prop) → Prop) (G : Nat → AHeap A → List AVal → (List AVal → AHeap A → Prop) → Prop) (a0 : AVal) (h : AHeap A) (K : AVal → AHeap A → Prop) : funP Try.prog S G Try.f16 .leaf [a0] h K = p_ref12_Step S G a0 h K := by kernel_rfl
theorem c_ref12_Step {R : Adts A} {h : AHeap A} {K : AVal → AHeap A → Prop} {a0 : AVal} (hk : p_ref12_Step (Tri Pr R) (Gives Pr R) a0 h K) : Tri Pr R n_ref12_Step [a0] h K :=
  tri_of_funP (by kernel_rfl) (fun _ _ _ _ h => h) (fun _ _ _ _ h => h) Try.func16 (by rw [q_ref12_Step]; exact hk)
/-- bastion/bastionlaw12.sameBooks -/
def p_law12_sameBooks (S : FuncId → List AVal → AHeap A → (AVal → AHeap A → Prop) → Prop) (G : Nat → AHeap A → List AVal → (List AVal → AHeap A → Prop) → Prop) (a0 a1 : AVal) (h : AHeap A) (K : AVal → AHeap A → Prop) : Prop :=
 nilP a1 fun v1 =>
 fadP 1 v1 fun v2 =>
 ldP 1 false v2 h fun v3 =>
 lenP v3 fun v4 =>
 S n_book_Book_Len [a0] h fun v5 h =>
 ldV 1 false v2 h = some v3 ∧
 binP .neq .other v5 v4 fun v6 =>
 iteP v6
 (K (.bool false) h)
 (nilP a1 fun v7 =>
 fadP 1 v7 fun v8 =>
 ldP 1 false v8 h fun v9 =>
 lenP v9 fun v10 =>
 binP .sub .other v10 (.int .i64 40) fun v11 =>
 maxP [.int .i64 0, v11] fun v12 =>
 loopP G (fun v34 h k14 =>
 (fun v13 =>
 nilP a1 fun v15 =>
 fadP 1 v15 fun v16 =>
 ldP 1 false v16 h fun v17 =>
 lenP v17 fun v18 =>
 binP .lss .other v13 v18 fun v19 =>
 iteP v19
 (S n_book_Book_Term [a0, v13] h fun v20 h =>
 extP v20 0 fun v21 =>
 extP v20 1 fun v22 =>
 S n_law0_Num [v22] h fun v23 h =>
 binP .neq .other v23 (.int .i64 0) fun v24 =>
 condP v24 false (fun k25 =>
 nilP a1 fun v26 =>
 fadP 1 v26 fun v27 =>
 ldP 1 false v27 h fun v28 =>
 idxP 1 v28 v13 fun v29 =>
 ldP 1 false v29 h fun v30 =>
 binP .neq .other v21 v30 fun v31 =>
 k25 v31 h)
 (.bool true) h fun v32 h =>
 iteP v32
 (K (.bool false) h)
 (binP .add .other v13 (.int .i64 1) fun v33 =>
 k14 [v33] h))
 (K (.bool true) h)) (v34.getD 0 .any)) [v12] h)
theorem q_law12_sameBooks (S : FuncId → List AVal → AHeap A → (AVal → AHeap A → Prop) → Prop) (G : Nat → AHeap A → List AVal → (List AVal → AHeap A → Prop) → Prop) (a0 a1 : AVal) (h : AHeap A) (K : AVal → AHeap A → Prop) : funP Try.prog S G Try.f17 (.two none .leaf (.two none (.two none (.draw none (.take 0 (.take 2 (.take 3 (.take 4 (.load 5 (.take 6 (.alt 1 (.take 7 .stop) .stop)))))))) .leaf) (.two none (.two none .leaf (.one [] (.one [5] .leaf))) .leaf))) [a0, a1] h K = p_law12_sameBooks S G a0 a1 h K := by kernel_rfl
theorem c_law12_sameBooks {R : Adts A} {h : AHeap A} {K : AVal → AHeap A → Prop} {a0 a1 : AVal} (hk : p_law12_sameBooks (Tri Pr R) (Gives Pr R) a0 a1 h K) : Tri Pr R n_law12_sameBooks [a0, a1] h K :=
  tri_of_funP (by kernel_rfl) (fun _ _ _ _ h => h) (fun _ _ _ _ h => h) Try.func17 (by rw [q_law12_sameBooks]; exact hk)
end Go.AI
