/- The functions as texts over the abstract heap. -/
import Derived.Test.YtlhmikjjnndjcaaNm
import Derived.KernelRfl
set_option linter.all false
namespace Go.AI
open Go.Proofs
set_option maxRecDepth 1000000
variable {A : Type}
/-- bastion/bastionlaw0.errors3 -/
def p_law0_errors3 (S : FuncId → List AVal → AHeap A → (AVal → AHeap A → Prop) → Prop) (G : Nat → AHeap A → List AVal → (List AVal → AHeap A → Prop) → Prop) (h : AHeap A) (K : AVal → AHeap A → Prop) : Prop :=
 S n_law0_Num [.int .i64 1601] h fun v1 h =>
 binP .eql .other v1 (.int .i64 1601) fun v2 =>
 condP v2 true (fun k3 =>
 S n_law0_Num [.int .i64 1700] h fun v4 h =>
 binP .eql .other v4 (.int .i64 1700) fun v5 =>
 k3 v5 h)
 (.bool false) h fun v6 h =>
 condP v6 true (fun k7 =>
 S n_law0_Num [.int .i64 1701] h fun v8 h =>
 binP .eql .other v8 (.int .i64 1701) fun v9 =>
 k7 v9 h)
 (.bool false) h fun v10 h =>
 condP v10 true (fun k11 =>
 S n_law0_Num [.int .i64 1800] h fun v12 h =>
 binP .eql .other v12 (.int .i64 1800) fun v13 =>
 k11 v13 h)
 (.bool false) h fun v14 h =>
 condP v14 true (fun k15 =>
 S n_law0_Num [.int .i64 1801] h fun v16 h =>
 binP .eql .other v16 (.int .i64 1801) fun v17 =>
 k15 v17 h)
 (.bool false) h fun v18 h =>
 condP v18 true (fun k19 =>
 S n_law0_Num [.int .i64 1802] h fun v20 h =>
 binP .eql .other v20 (.int .i64 1802) fun v21 =>
 k19 v21 h)
 (.bool false) h fun v22 h =>
 condP v22 true (fun k23 =>
 S n_law0_Num [.int .i64 1900] h fun v24 h =>
 binP .eql .other v24 (.int .i64 1900) fun v25 =>
 k23 v25 h)
 (.bool false) h fun v26 h =>
 condP v26 true (fun k27 =>
 S n_law0_Num [.int .i64 2000] h fun v28 h =>
 binP .eql .other v28 (.int .i64 2000) fun v29 =>
 k27 v29 h)
 (.bool false) h fun v30 h =>
 condP v30 true (fun k31 =>
 S n_law0_Num [.int .i64 2001] h fun v32 h =>
 binP .eql .other v32 (.int .i64 2001) fun v33 =>
 k31 v33 h)
 (.bool false) h fun v34 h =>
 condP v34 true (fun k35 =>
 S n_law0_Num [.int .i64 2100] h fun v36 h =>
 binP .eql .other v36 (.int .i64 2100) fun v37 =>
 k35 v37 h)
 (.bool false) h fun v38 h =>
 condP v38 true (fun k39 =>
 S n_law0_Num [.int .i64 2200] h fun v40 h =>
 binP .eql .other v40 (.int .i64 2200) fun v41 =>
 k39 v41 h)
 (.bool false) h fun v42 h =>
 condP v42 true (fun k43 =>
 S n_law0_Num [.int .i64 2300] h fun v44 h =>
 binP .eql .other v44 (.int .i64 2300) fun v45 =>
 k43 v45 h)
 (.bool false) h fun v46 h =>
 condP v46 true (fun k47 =>
 S n_law0_Num [.int .i64 2400] h fun v48 h =>
 binP .eql .other v48 (.int .i64 2400) fun v49 =>
 k47 v49 h)
 (.bool false) h fun v50 h =>
 condP v50 true (fun k51 =>
 S n_law0_Num [.int .i64 2500] h fun v52 h =>
 binP .eql .other v52 (.int .i64 2500) fun v53 =>
 k51 v53 h)
 (.bool false) h fun v54 h =>
 K v54 h
theorem q_law0_errors3 (S : FuncId → List AVal → AHeap A → (AVal → AHeap A → Prop) → Prop) (G : Nat → AHeap A → List AVal → (List AVal → AHeap A → Prop) → Prop) (h : AHeap A) (K : AVal → AHeap A → Prop) : funP Try.prog S G Try.f25 .leaf [] h K = p_law0_errors3 S G h K := by kernel_rfl
theorem c_law0_errors3 {R : Adts A} {h : AHeap A} {K : AVal → AHeap A → Prop} (hk : p_law0_errors3 (Tri Pr R) (Gives Pr R) h K) : Tri Pr R n_law0_errors3 [] h K :=
  tri_of_funP (by kernel_rfl) (fun _ _ _ _ h => h) (fun _ _ _ _ h => h) Try.func25 (by rw [q_law0_errors3]; exact hk)
/-- bastion/bastionlaw0.numbers1 -/
def p_law0_numbers1 (S : FuncId → List AVal → AHeap A → (AVal → AHeap A → Prop) → Prop) (G : Nat → AHeap A → List AVal → (List AVal → AHeap A → Prop) → Prop) (h : AHeap A) (K : AVal → AHeap A → Prop) : Prop :=
 K (.bool true) h
theorem q_law0_numbers1 (S : FuncId → List AVal → AHeap A → (AVal → AHeap A → Prop) → Prop) (G : Nat → AHeap A → List AVal → (List AVal → AHeap A → Prop) → Prop) (h : AHeap A) (K : AVal → AHeap A → Prop) : funP Try.prog S G Try.f26 .leaf [] h K = p_law0_numbers1 S G h K := by kernel_rfl
theorem c_law0_numbers1 {R : Adts A} {h : AHeap A} {K : AVal → AHeap A → Prop} (hk : p_law0_numbers1 (Tri Pr R) (Gives Pr R) h K) : Tri Pr R n_law0_numbers1 [] h K :=
  tri_of_funP (by kernel_rfl) (fun _ _ _ _ h => h) (fun _ _ _ _ h => h) Try.func26 (by rw [q_law0_numbers1]; exact hk)
/-- bastion/bastionlaw0.numbers2 -/
def p_law0_numbers2 (S : FuncId → List AVal → AHeap A → (AVal → AHeap A → Prop) → Prop) (G : Nat → AHeap A → List AVal → (List AVal → AHeap A → Prop) → Prop) (h : AHeap A) (K : AVal → AHeap A → Prop) : Prop :=
 K (.bool true) h
theorem q_law0_numbers2 (S : FuncId → List AVal → AHeap A → (AVal → AHeap A → Prop) → Prop) (G : Nat → AHeap A → List AVal → (List AVal → AHeap A → Prop) → Prop) (h : AHeap A) (K : AVal → AHeap A → Prop) : funP Try.prog S G Try.f27 .leaf [] h K = p_law0_numbers2 S G h K := by kernel_rfl
theorem c_law0_numbers2 {R : Adts A} {h : AHeap A} {K : AVal → AHeap A → Prop} (hk : p_law0_numbers2 (Tri Pr R) (Gives Pr R) h K) : Tri Pr R n_law0_numbers2 [] h K :=
  tri_of_funP (by kernel_rfl) (fun _ _ _ _ h => h) (fun _ _ _ _ h => h) Try.func27 (by rw [q_law0_numbers2]; exact hk)
/-- bastion/bastionlaw0.numbers3 -/
def p_law0_numbers3 (S : FuncId → List AVal → AHeap A → (AVal → AHeap A → Prop) → Prop) (G : Nat → AHeap A → List AVal → (List AVal → AHeap A → Prop) → Prop) (h : AHeap A) (K : AVal → AHeap A → Prop) : Prop :=
 K (.bool true) h
theorem q_law0_numbers3 (S : FuncId → List AVal → AHeap A → (AVal → AHeap A → Prop) → Prop) (G : Nat → AHeap A → List AVal → (List AVal → AHeap A → Prop) → Prop) (h : AHeap A) (K : AVal → AHeap A → Prop) : funP Try.prog S G Try.f28 .leaf [] h K = p_law0_numbers3 S G h K := by kernel_rfl
theorem c_law0_numbers3 {R : Adts A} {h : AHeap A} {K : AVal → AHeap A → Prop} (hk : p_law0_numbers3 (Tri Pr R) (Gives Pr R) h K) : Tri Pr R n_law0_numbers3 [] h K :=
  tri_of_funP (by kernel_rfl) (fun _ _ _ _ h => h) (fun _ _ _ _ h => h) Try.func28 (by rw [q_law0_numbers3]; exact hk)
/-- bastion/bastionlaw0.numbers4 -/
def p_law0_numbers4 (S : FuncId → List AVal → AHeap A → (AVal → AHeap A → Prop) → Prop) (G : Nat → AHeap A → List AVal → (List AVal → AHeap A → Prop) → Prop) (h : AHeap A) (K : AVal → AHeap A → Prop) : Prop :=
 K (.bool true) h
theorem q_law0_numbers4 (S : FuncId → List AVal → AHeap A → (AVal → AHeap A → Prop) → Prop) (G : Nat → AHeap A → List AVal → (List AVal → AHeap A → Prop) → Prop) (h : AHeap A) (K : AVal → AHeap A → Prop) : funP Try.prog S G Try.f29 .leaf [] h K = p_law0_numbers4 S G h K := by kernel_rfl
theorem c_law0_numbers4 {R : Adts A} {h : AHeap A} {K : AVal → AHeap A → Prop} (hk : p_law0_numbers4 (Tri Pr R) (Gives Pr R) h K) : Tri Pr R n_law0_numbers4 [] h K :=
  tri_of_funP (by kernel_rfl) (fun _ _ _ _ h => h) (fun _ _ _ _ h => h) Try.func29 (by rw [q_law0_numbers4]; exact hk)
/-- bastion/bastionlaw0.numbers5 -/
def p_law0_numbers5 (S : FuncId → List AVal → AHeap A → (AVal → AHeap A → Prop) → Prop) (G : Nat → AHeap A → List AVal → (List AVal → AHeap A → Prop) → Prop) (h : AHeap A) (K : AVal → AHeap A → Prop) : Prop :=
 K (.bool true) h
theorem q_law0_numbers5 (S : FuncId → List AVal → AHeap A → (AVal → AHeap A → Prop) → Prop) (G : Nat → AHeap A → List AVal → (List AVal → AHeap A → Prop) → Prop) (h : AHeap A) (K : AVal → AHeap A → Prop) : funP Try.prog S G Try.f30 .leaf [] h K = p_law0_numbers5 S G h K := by kernel_rfl
theorem c_law0_numbers5 {R : Adts A} {h : AHeap A} {K : AVal → AHeap A → Prop} (hk : p_law0_numbers5 (Tri Pr R) (Gives Pr R) h K) : Tri Pr R n_law0_numbers5 [] h K :=
  tri_of_funP (by kernel_rfl) (fun _ _ _ _ h => h) (fun _ _ _ _ h => h) Try.func30 (by rw [q_law0_numbers5]; exact hk)
/-- bastion/window.Add -/
def p_window_Add (S : FuncId → List AVal → AHeap A → (AVal → AHeap A → Prop) → Prop) (G : Nat → AHeap A → List AVal → (List AVal → AHeap A → Prop) → Prop) (a0 a1 : AVal) (h : AHeap A) (K : AVal → AHeap A → Prop) : Prop :=
 boxP t_api_Window 2 a0 h fun v1 h =>
 newP t_api_Window [.int .i64 0, .int .i64 0] h fun v2 h =>
 ldP 2 true v1 h fun v3 =>
 S n_window_May [v3] h fun v4 h =>
 notP v4 fun v5 =>
 condP v5 false (fun k6 =>
 binP .lss .other a1 (.int .i64 0) fun v7 =>
 k6 v7 h)
 (.bool true) h fun v8 h =>
 condP v8 false (fun k9 =>
 binP .gtr .other a1 (.int .i64 1048575) fun v10 =>
 k9 v10 h)
 (.bool true) h fun v11 h =>
 iteP v11
 (bldP [.int .i64 0, .int .i64 0] [] fun v12 =>
 stP 2 v2 v12 h fun h =>
 ldP 2 true v2 h fun v13 =>
 K (.tup [v13, .int .i64 1700]) h)
 (fadP 0 v1 fun v14 =>
 ldP 1 false v14 h fun v15 =>
 binP .gtr .other a1 v15 fun v16 =>
 iteP v16
 (joinP G h.length (fun k17 =>
 fadP 0 v1 fun v18 =>
 ldP 1 false v18 h fun v19 =>
 binP .sub .other a1 v19 fun v20 =>
 binP .lss .other v20 (.int .i64 32) fun v21 =>
 iteP v21
 (fadP 1 v1 fun v22 =>
 ldP 1 false v22 h fun v23 =>
 binP .shl .other v23 v20 fun v24 =>
 binP .and .other v24 (.int .i64 4294967295) fun v25 =>
 k17 [v25] h)
 (k17 [.int .i64 0] h))
 (fun v30 h =>
 (fun v26 =>
 binP .or .other v26 (.int .i64 1) fun v27 =>
 bldP [.int .i64 0, .int .i64 0] [(0, 1, a1), (1, 1, v27)] fun v28 =>
 stP 2 v2 v28 h fun h =>
 ldP 2 true v2 h fun v29 =>
 K (.tup [v29, .int .i64 0]) h) (v30.getD 0 .any)))
 (fadP 0 v1 fun v31 =>
 ldP 1 false v31 h fun v32 =>
 binP .sub .other v32 a1 fun v33 =>
 binP .geq .other v33 (.int .i64 32) fun v34 =>
 condP v34 false (fun k35 =>
 fadP 1 v1 fun v36 =>
 ldP 1 false v36 h fun v37 =>
 binP .shr .other v37 v33 fun v38 =>
 binP .and .other v38 (.int .i64 1) fun v39 =>
 binP .eql .other v39 (.int .i64 1) fun v40 =>
 k35 v40 h)
 (.bool true) h fun v41 h =>
 iteP v41
 (bldP [.int .i64 0, .int .i64 0] [] fun v42 =>
 stP 2 v2 v42 h fun h =>
 ldP 2 true v2 h fun v43 =>
 K (.tup [v43, .int .i64 1701]) h)
 (fadP 1 v1 fun v44 =>
 binP .shl .other (.int .i64 1) v33 fun v45 =>
 ldP 1 false v44 h fun v46 =>
 binP .or .other v46 v45 fun v47 =>
 fadP 1 v1 fun v48 =>
 stP 1 v48 v47 h fun h =>
 ldP 2 true v1 h fun v49 =>
 stP 2 v2 v49 h fun h =>
 ldP 2 true v2 h fun v50 =>
 K (.tup [v50, .int .i64 0]) h)))
theorem q_window_Add (S : FuncId → List AVal → AHeap A → (AVal → AHeap A → Prop) → Prop) (G : Nat → AHeap A → List AVal → (List AVal → AHeap A → Prop) → Prop) (a0 a1 : AVal) (h : AHeap A) (K : AVal → AHeap A → Prop) : funP Try.prog S G Try.f31 (.two none .leaf (.two none .leaf (.two none (.two none .leaf (.two none (.two none .leaf (.two (some [6]) .leaf .leaf)) .leaf)) (.two none .leaf (.two none .leaf (.two none (.draw none (.take 0 (.take 2 (.take 3 (.alt 1 (.take 4 (.take 5 (.alt 6 .stop .stop))) .stop))))) .leaf)))))) [a0, a1] h K = p_window_Add S G a0 a1 h K := by kernel_rfl
theorem c_window_Add {R : Adts A} {h : AHeap A} {K : AVal → AHeap A → Prop} {a0 a1 : AVal} (hk : p_window_Add (Tri Pr R) (Gives Pr R) a0 a1 h K) : Tri Pr R n_window_Add [a0, a1] h K :=
  tri_of_funP (by kernel_rfl) (fun _ _ _ _ h => h) (fun _ _ _ _ h => h) Try.func31 (by rw [q_window_Add]; exact hk)
/-- bastion/bastionref12.AddSeq -/
def p_ref12_AddSeq (S : FuncId → List AVal → AHeap A → (AVal → AHeap A → Prop) → Prop) (G : Nat → AHeap A → List AVal → (List AVal → AHeap A → Prop) → Prop) (a0 a1 : AVal) (h : AHeap A) (K : AVal → AHeap A → Prop) : Prop :=
 boxP t_api_Window 2 a0 h fun v1 h =>
 newP t_api_Window [.int .i64 0, .int .i64 0] h fun v2 h =>
 ldP 2 true v1 h fun v3 =>
 S n_ref12_WindowMay [v3] h fun v4 h =>
 notP v4 fun v5 =>
 condP v5 false (fun k6 =>
 binP .lss .other a1 (.int .i64 0) fun v7 =>
 k6 v7 h)
 (.bool true) h fun v8 h =>
 condP v8 false (fun k9 =>
 binP .gtr .other a1 (.int .i64 1048575) fun v10 =>
 k9 v10 h)
 (.bool true) h fun v11 h =>
 iteP v11
 (bldP [.int .i64 0, .int .i64 0] [] fun v12 =>
 stP 2 v2 v12 h fun h =>
 ldP 2 true v2 h fun v13 =>
 K (.tup [v13, .int .i64 1700]) h)
 (fadP 0 v1 fun v14 =>
 ldP 1 false v14 h fun v15 =>
 binP .gtr .other a1 v15 fun v16 =>
 iteP v16
 (joinP G h.length (fun k17 =>
 fadP 0 v1 fun v18 =>
 ldP 1 false v18 h fun v19 =>
 binP .geq .other v19 (.int .i64 0) fun v20 =>
 condP v20 true (fun k21 =>
 fadP 0 v1 fun v22 =>
 ldP 1 false v22 h fun v23 =>
 binP .sub .other a1 v23 fun v24 =>
 binP .lss .other v24 (.int .i64 32) fun v25 =>
 k21 v25 h)
 (.bool false) h fun v26 h =>
 iteP v26
 (fadP 1 v1 fun v27 =>
 ldP 1 false v27 h fun v28 =>
 fadP 0 v1 fun v29 =>
 ldP 1 false v29 h fun v30 =>
 binP .sub .other a1 v30 fun v31 =>
 cviP .u64 v31 fun v32 =>
 binP .shl .other v28 v32 fun v33 =>
 binP .and .other v33 (.int .i64 4294967295) fun v34 =>
 k17 [v34] h)
 (k17 [.int .i64 0] h))
 (fun v39 h =>
 (fun v35 =>
 binP .or .other v35 (.int .i64 1) fun v36 =>
 bldP [.int .i64 0, .int .i64 0] [(0, 1, a1), (1, 1, v36)] fun v37 =>
 stP 2 v2 v37 h fun h =>
 ldP 2 true v2 h fun v38 =>
 K (.tup [v38, .int .i64 0]) h) (v39.getD 0 .any)))
 (fadP 0 v1 fun v40 =>
 ldP 1 false v40 h fun v41 =>
 binP .sub .other v41 a1 fun v42 =>
 binP .geq .other v42 (.int .i64 32) fun v43 =>
 condP v43 false (fun k44 =>
 fadP 1 v1 fun v45 =>
 ldP 1 false v45 h fun v46 =>
 cviP .u64 v42 fun v47 =>
 binP .shr .other v46 v47 fun v48 =>
 binP .and .other v48 (.int .i64 1) fun v49 =>
 binP .eql .other v49 (.int .i64 1) fun v50 =>
 k44 v50 h)
 (.bool true) h fun v51 h =>
 iteP v51
 (bldP [.int .i64 0, .int .i64 0] [] fun v52 =>
 stP 2 v2 v52 h fun h =>
 ldP 2 true v2 h fun v53 =>
 K (.tup [v53, .int .i64 1701]) h)
 (fadP 1 v1 fun v54 =>
 ldP 1 false v54 h fun v55 =>
 cviP .u64 v42 fun v56 =>
 binP .shl .other (.int .i64 1) v56 fun v57 =>
 binP .or .other v55 v57 fun v58 =>
 fadP 1 v1 fun v59 =>
 stP 1 v59 v58 h fun h =>
 ldP 2 true v1 h fun v60 =>
 stP 2 v2 v60 h fun h =>
 ldP 2 true v2 h fun v61 =>
 K (.tup [v61, .int .i64 0]) h)))
theorem q_ref12_AddSeq (S : FuncId → List AVal → AHeap A → (AVal → AHeap A → Prop) → Prop) (G : Nat → AHeap A → List AVal → (List AVal → AHeap A → Prop) → Prop) (a0 a1 : AVal) (h : AHeap A) (K : AVal → AHeap A → Prop) : funP Try.prog S G Try.f32 (.two none .leaf (.two none .leaf (.two none (.two none .leaf (.two none (.two none .leaf (.two (some [6]) .leaf .leaf)) .leaf)) .leaf))) [a0, a1] h K = p_ref12_AddSeq S G a0 a1 h K := by kernel_rfl
theorem c_ref12_AddSeq {R : Adts A} {h : AHeap A} {K : AVal → AHeap A → Prop} {a0 a1 : AVal} (hk : p_ref12_AddSeq (Tri Pr R) (Gives Pr R) a0 a1 h K) : Tri Pr R n_ref12_AddSeq [a0, a1] h K :=
  tri_of_funP (by kernel_rfl) (fun _ _ _ _ h => h) (fun _ _ _ _ h => h) Try.func32 (by rw [q_ref12_AddSeq]; exact hk)
/-- bastion/bastionlaw0.Num -/
def p_law0_Num (S : FuncId → List AVal → AHeap A → (AVal → AHeap A → Prop) → Prop) (G : Nat → AHeap A → List AVal → (List AVal → AHeap A → Prop) → Prop) (a0 : AVal) (h : AHeap A) (K : AVal → AHeap A → Prop) : Prop :=
 K a0 h
theorem q_law0_Num (S : FuncId → List AVal → AHeap A → (AVal → AHeap A → Prop) → Prop) (G : Nat → AHeap A → List AVal → (List AVal → AHeap A → Prop) → Prop) (a0 : AVal) (h : AHeap A) (K : AVal → AHeap A → Prop) : funP Try.prog S G Try.f33 .leaf [a0] h K = p_law0_Num S G a0 h K := by kernel_rfl
theorem c_law0_Num {R : Adts A} {h : AHeap A} {K : AVal → AHeap A → Prop} {a0 : AVal} (hk : p_law0_Num (Tri Pr R) (Gives Pr R) a0 h K) : Tri Pr R n_law0_Num [a0] h K :=
  tri_of_funP (by kernel_rfl) (fun _ _ _ _ h => h) (fun _ _ _ _ h => h) Try.func33 (by rw [q_law0_Num]; exact hk)
/-- bastion/window.May -/
def p_window_May (S : FuncId → List AVal → AHeap A → (AVal → AHeap A → Prop) → Prop) (G : Nat → AHeap A → List AVal → (List AVal → AHeap A → Prop) → Prop) (a0 : AVal) (h : AHeap A) (K : AVal → AHeap A → Prop) : Prop :=
 boxP t_api_Window 2 a0 h fun v1 h =>
 fadP 0 v1 fun v2 =>
 ldP 1 false v2 h fun v3 =>
 binP .eql .other v3 (.int .i64 (-1)) fun v4 =>
 iteP v4
 (fadP 1 v1 fun v5 =>
 ldP 1 false v5 h fun v6 =>
 binP .eql .other v6 (.int .i64 0) fun v7 =>
 K v7 h)
 (joinP G h.length (fun k8 =>
 fadP 0 v1 fun v9 =>
 ldP 1 false v9 h fun v10 =>
 binP .geq .other v10 (.int .i64 0) fun v11 =>
 iteP v11
 (fadP 0 v1 fun v12 =>
 ldP 1 false v12 h fun v13 =>
 binP .leq .other v13 (.int .i64 1048575) fun v14 =>
 iteP v14
 (fadP 1 v1 fun v15 =>
 ldP 1 false v15 h fun v16 =>
 binP .and .other v16 (.int .i64 1) fun v17 =>
 binP .eql .other v17 (.int .i64 1) fun v18 =>
 iteP v18
 (fadP 1 v1 fun v19 =>
 ldP 1 false v19 h fun v20 =>
 binP .geq .other v20 (.int .i64 0) fun v21 =>
 iteP v21
 (fadP 1 v1 fun v22 =>
 fadP 0 v1 fun v23 =>
 fadP 1 v1 fun v24 =>
 ldP 1 false v22 h fun v25 =>
 binP .and .other v25 (.int .i64 4294967295) fun v26 =>
 ldP 1 false v24 h fun v27 =>
 ldP 1 false v23 h fun v28 =>
 ldV 1 false v24 h = some v27 ∧
 ldV 1 false v22 h = some v25 ∧
 S n_window_within [v28] h fun v29 h =>
 ldV 1 false v24 h = some v27 ∧
 ldV 1 false v22 h = some v25 ∧
 binP .and .other v26 v29 fun v30 =>
 binP .eql .other v30 v27 fun v31 =>
 k8 [v31] h)
 (k8 [.bool false] h))
 (k8 [.bool false] h))
 (k8 [.bool false] h))
 (k8 [.bool false] h))
 (fun v33 h =>
 (fun v32 =>
 K v32 h) (v33.getD 0 .any)))
theorem q_window_May (S : FuncId → List AVal → AHeap A → (AVal → AHeap A → Prop) → Prop) (G : Nat → AHeap A → List AVal → (List AVal → AHeap A → Prop) → Prop) (a0 : AVal) (h : AHeap A) (K : AVal → AHeap A → Prop) : funP Try.prog S G Try.f34 (.two none .leaf (.two none .leaf (.two none (.draw (some [2]) (.take 0 (.alt 1 (.take 2 (.take 3 (.split 3 (.take 4 (.alt 5 (.take 6 (.take 7 (.take 8 (.split 8 (.take 9 (.alt 10 (.take 11 (.take 12 (.take 13 (.take 14 (.split 14 (.take 15 (.alt 16 (.take 17 (.take 18 (.take 19 (.split 19 (.take 20 (.take 23 (.take 27 (.load 21 (.take 22 (.load 28 (.alt 24 (.alt 25 (.take 26 (.take 29 (.take 30 (.take 31 .stop)))) .stop) .stop))))))) (.skip 20 (.skip 21 (.skip 22 (.skip 23 (.skip 24 (.skip 25 (.skip 26 (.skip 27 (.skip 28 (.skip 29 (.take 30 (.take 31 .stop)))))))))))))))) .stop)) (.skip 15 (.skip 16 (.skip 17 (.take 18 (.take 19 (.known 19 false (.skip 20 (.skip 21 (.skip 22 (.skip 23 (.skip 24 (.skip 25 (.skip 26 (.skip 27 (.skip 28 (.skip 29 (.take 30 (.take 31 .stop))))))))))))))))))))))) .stop)) (.skip 9 (.skip 10 (.skip 11 (.skip 12 (.take 13 (.take 14 (.known 14 false (.skip 15 (.skip 16 (.skip 17 (.take 18 (.take 19 (.known 19 false (.skip 20 (.skip 21 (.skip 22 (.skip 23 (.skip 24 (.skip 25 (.skip 26 (.skip 27 (.skip 28 (.skip 29 (.take 30 (.take 31 .stop))))))))))))))))))))))))))))) .stop)) (.skip 4 (.skip 5 (.skip 6 (.take 7 (.take 8 (.known 8 false (.skip 9 (.skip 10 (.skip 11 (.skip 12 (.take 13 (.take 14 (.known 14 false (.skip 15 (.skip 16 (.skip 17 (.take 18 (.take 19 (.known 19 false (.skip 20 (.skip 21 (.skip 22 (.skip 23 (.skip 24 (.skip 25 (.skip 26 (.skip 27 (.skip 28 (.skip 29 (.take 30 (.take 31 .stop)))))))))))))))))))))))))))))))))) .stop))) .leaf))) [a0] h K = p_window_May S G a0 h K := by kernel_rfl
theorem c_window_May {R : Adts A} {h : AHeap A} {K : AVal → AHeap A → Prop} {a0 : AVal} (hk : p_window_May (Tri Pr R) (Gives Pr R) a0 h K) : Tri Pr R n_window_May [a0] h K :=
  tri_of_funP (by kernel_rfl) (fun _ _ _ _ h => h) (fun _ _ _ _ h => h) Try.func34 (by rw [q_window_May]; exact hk)
/-- bastion/bastionref12.WindowMay -/
def p_ref12_WindowMay (S : FuncId → List AVal → AHeap A → (AVal → AHeap A → Prop) → Prop) (G : Nat → AHeap A → List AVal → (List AVal → AHeap A → Prop) → Prop) (a0 : AVal) (h : AHeap A) (K : AVal → AHeap A → Prop) : Prop :=
 boxP t_api_Window 2 a0 h fun v1 h =>
 fadP 0 v1 fun v2 =>
 ldP 1 false v2 h fun v3 =>
 binP .eql .other v3 (.int .i64 (-1)) fun v4 =>
 iteP v4
 (fadP 1 v1 fun v5 =>
 ldP 1 false v5 h fun v6 =>
 binP .eql .other v6 (.int .i64 0) fun v7 =>
 K v7 h)
 (fadP 0 v1 fun v8 =>
 ldP 1 false v8 h fun v9 =>
 binP .lss .other v9 (.int .i64 0) fun v10 =>
 condP v10 false (fun k11 =>
 fadP 0 v1 fun v12 =>
 ldP 1 false v12 h fun v13 =>
 binP .gtr .other v13 (.int .i64 1048575) fun v14 =>
 k11 v14 h)
 (.bool true) h fun v15 h =>
 condP v15 false (fun k16 =>
 fadP 1 v1 fun v17 =>
 ldP 1 false v17 h fun v18 =>
 binP .lss .other v18 (.int .i64 1) fun v19 =>
 k16 v19 h)
 (.bool true) h fun v20 h =>
 condP v20 false (fun k21 =>
 fadP 1 v1 fun v22 =>
 ldP 1 false v22 h fun v23 =>
 binP .geq .other v23 (.int .i64 4294967296) fun v24 =>
 k21 v24 h)
 (.bool true) h fun v25 h =>
 condP v25 false (fun k26 =>
 fadP 1 v1 fun v27 =>
 ldP 1 false v27 h fun v28 =>
 binP .and .other v28 (.int .i64 1) fun v29 =>
 binP .eql .other v29 (.int .i64 0) fun v30 =>
 k26 v30 h)
 (.bool true) h fun v31 h =>
 iteP v31
 (K (.bool false) h)
 (fadP 0 v1 fun v32 =>
 ldP 1 false v32 h fun v33 =>
 binP .geq .other v33 (.int .i64 31) fun v34 =>
 condP v34 false (fun k35 =>
 fadP 1 v1 fun v36 =>
 ldP 1 false v36 h fun v37 =>
 fadP 0 v1 fun v38 =>
 ldP 1 false v38 h fun v39 =>
 binP .add .other v39 (.int .i64 1) fun v40 =>
 cviP .u64 v40 fun v41 =>
 binP .shr .other v37 v41 fun v42 =>
 binP .eql .other v42 (.int .i64 0) fun v43 =>
 k35 v43 h)
 (.bool true) h fun v44 h =>
 K v44 h))
theorem q_ref12_WindowMay (S : FuncId → List AVal → AHeap A → (AVal → AHeap A → Prop) → Prop) (G : Nat → AHeap A → List AVal → (List AVal → AHeap A → Prop) → Prop) (a0 : AVal) (h : AHeap A) (K : AVal → AHeap A → Prop) : funP Try.prog S G Try.f35 .leaf [a0] h K = p_ref12_WindowMay S G a0 h K := by kernel_rfl
theorem c_ref12_WindowMay {R : Adts A} {h : AHeap A} {K : AVal → AHeap A → Prop} {a0 : AVal} (hk : p_ref12_WindowMay (Tri Pr R) (Gives Pr R) a0 h K) : Tri Pr R n_ref12_WindowMay [a0] h K :=
  tri_of_funP (by kernel_rfl) (fun _ _ _ _ h => h) (fun _ _ _ _ h => h) Try.func35 (by rw [q_ref12_WindowMay]; exact hk)
/-- bastion/bastionlaw17.awake -/
def p_law17_awake (S : FuncId → List AVal → AHeap A → (AVal → AHeap A → Prop) → Prop) (G : Nat → AHeap A → List AVal → (List AVal → AHeap A → Prop) → Prop) (h : AHeap A) (K : AVal → AHeap A → Prop) : Prop :=
 bldP [.int .i64 0, .int .i64 0] [(0, 1, .int .i64 (-1))] fun v1 =>
 newP t_api_Window [.int .i64 0, .int .i64 0] h fun v2 h =>
 stP 2 v2 v1 h fun h =>
 ldP 2 true v2 h fun v3 =>
 S n_window_Add [v3, .int .i64 5] h fun v4 h =>
 extP v4 0 fun v5 =>
 extP v4 1 fun v6 =>
 newP t_api_Window [.int .i64 0, .int .i64 0] h fun v7 h =>
 stP 2 v7 v5 h fun h =>
 ldP 2 true v7 h fun v8 =>
 S n_window_Add [v8, .int .i64 3] h fun v9 h =>
 extP v9 0 fun v10 =>
 extP v9 1 fun v11 =>
 newP t_api_Window [.int .i64 0, .int .i64 0] h fun v12 h =>
 stP 2 v12 v10 h fun h =>
 ldP 2 true v12 h fun v13 =>
 S n_window_Add [v13, .int .i64 3] h fun v14 h =>
 extP v14 0 fun v15 =>
 extP v14 1 fun v16 =>
 newP t_api_Window [.int .i64 0, .int .i64 0] h fun v17 h =>
 stP 2 v17 v15 h fun h =>
 ldP 2 true v12 h fun v18 =>
 S n_window_Add [v18, .int .i64 40] h fun v19 h =>
 extP v19 0 fun v20 =>
 extP v19 1 fun v21 =>
 newP t_api_Window [.int .i64 0, .int .i64 0] h fun v22 h =>
 stP 2 v22 v20 h fun h =>
 ldP 2 true v22 h fun v23 =>
 S n_window_Add [v23, .int .i64 8] h fun v24 h =>
 extP v24 0 fun v25 =>
 extP v24 1 fun v26 =>
 newP t_api_Window [.int .i64 0, .int .i64 0] h fun v27 h =>
 stP 2 v27 v25 h fun h =>
 ldP 2 true v22 h fun v28 =>
 S n_window_Add [v28, .int .i64 (-1)] h fun v29 h =>
 extP v29 0 fun v30 =>
 extP v29 1 fun v31 =>
 newP t_api_Window [.int .i64 0, .int .i64 0] h fun v32 h =>
 stP 2 v32 v30 h fun h =>
 ldP 2 true v7 h fun v33 =>
 bldP [.int .i64 0, .int .i64 0] [(0, 1, .int .i64 5), (1, 1, .int .i64 1)] fun v34 =>
 binP .eql (.shape (.st [(0, 1, .i), (1, 1, .i)])) v33 v34 fun v35 =>
 condP v35 true (fun k36 =>
 S n_law0_Num [v6] h fun v37 h =>
 binP .eql .other v37 (.int .i64 0) fun v38 =>
 k36 v38 h)
 (.bool false) h fun v39 h =>
 condP v39 true (fun k40 =>
 ldP 2 true v12 h fun v41 =>
 bldP [.int .i64 0, .int .i64 0] [(0, 1, .int .i64 5), (1, 1, .int .i64 5)] fun v42 =>
 binP .eql (.shape (.st [(0, 1, .i), (1, 1, .i)])) v41 v42 fun v43 =>
 k40 v43 h)
 (.bool false) h fun v44 h =>
 condP v44 true (fun k45 =>
 S n_law0_Num [v11] h fun v46 h =>
 binP .eql .other v46 (.int .i64 0) fun v47 =>
 k45 v47 h)
 (.bool false) h fun v48 h =>
 condP v48 true (fun k49 =>
 S n_law0_Num [v16] h fun v50 h =>
 binP .eql .other v50 (.int .i64 1701) fun v51 =>
 k49 v51 h)
 (.bool false) h fun v52 h =>
 condP v52 true (fun k53 =>
 ldP 2 true v22 h fun v54 =>
 bldP [.int .i64 0, .int .i64 0] [(0, 1, .int .i64 40), (1, 1, .int .i64 1)] fun v55 =>
 binP .eql (.shape (.st [(0, 1, .i), (1, 1, .i)])) v54 v55 fun v56 =>
 k53 v56 h)
 (.bool false) h fun v57 h =>
 condP v57 true (fun k58 =>
 S n_law0_Num [v21] h fun v59 h =>
 binP .eql .other v59 (.int .i64 0) fun v60 =>
 k58 v60 h)
 (.bool false) h fun v61 h =>
 condP v61 true (fun k62 =>
 S n_law0_Num [v26] h fun v63 h =>
 binP .eql .other v63 (.int .i64 1701) fun v64 =>
 k62 v64 h)
 (.bool false) h fun v65 h =>
 condP v65 true (fun k66 =>
 S n_law0_Num [v31] h fun v67 h =>
 binP .eql .other v67 (.int .i64 1700) fun v68 =>
 k66 v68 h)
 (.bool false) h fun v69 h =>
 condP v69 true (fun k70 =>
 ldP 2 true v12 h fun v71 =>
 S n_window_May [v71] h fun v72 h =>
 k70 v72 h)
 (.bool false) h fun v73 h =>
 condP v73 true (fun k74 =>
 bldP [.int .i64 0, .int .i64 0] [(0, 1, .int .i64 1), (1, 1, .int .i64 5)] fun v75 =>
 S n_window_May [v75] h fun v76 h =>
 notP v76 fun v77 =>
 k74 v77 h)
 (.bool false) h fun v78 h =>
 K v78 h
theorem q_law17_awake (S : FuncId → List AVal → AHeap A → (AVal → AHeap A → Prop) → Prop) (G : Nat → AHeap A → List AVal → (List AVal → AHeap A → Prop) → Prop) (h : AHeap A) (K : AVal → AHeap A → Prop) : funP Try.prog S G Try.f36 .leaf [] h K = p_law17_awake S G h K := by kernel_rfl
theorem c_law17_awake {R : Adts A} {h : AHeap A} {K : AVal → AHeap A → Prop} (hk : p_law17_awake (Tri Pr R) (Gives Pr R) h K) : Tri Pr R n_law17_awake [] h K :=
  tri_of_funP (by kernel_rfl) (fun _ _ _ _ h => h) (fun _ _ _ _ h => h) Try.func36 (by rw [q_law17_awake]; exact hk)
/-- bastion/bastionlaw14.awake -/
def p_law14_awake (S : FuncId → List AVal → AHeap A → (AVal → AHeap A → Prop) → Prop) (G : Nat → AHeap A → List AVal → (List AVal → AHeap A → Prop) → Prop) (h : AHeap A) (K : AVal → AHeap A → Prop) : Prop :=
 S n_law14_twin [.int .i64 9, .nils] h fun v1 h =>
 extP v1 0 fun v2 =>
 extP v1 1 fun v3 =>
 binP .eql .ptr v2 .nilp fun v4 =>
 iteP v4
 (K (.bool false) h)
 (S n_ring_Key [v2, .int .i64 3] h fun v5 h =>
 extP v5 0 fun v6 =>
 extP v5 1 fun v7 =>
 S n_ring_Key [v2, .int .i64 3] h fun v8 h =>
 extP v8 0 fun v9 =>
 extP v8 1 fun v10 =>
 S n_ring_Key [v2, .int .i64 4] h fun v11 h =>
 extP v11 0 fun v12 =>
 extP v11 1 fun v13 =>
 S n_ring_Key [v2, .int .i64 (-1)] h fun v14 h =>
 extP v14 0 fun v15 =>
 extP v14 1 fun v16 =>
 S n_law0_Num [v7] h fun v17 h =>
 binP .eql .other v17 (.int .i64 0) fun v18 =>
 condP v18 true (fun k19 =>
 binP .eql .other v6 v9 fun v20 =>
 k19 v20 h)
 (.bool false) h fun v21 h =>
 condP v21 true (fun k22 =>
 S n_law0_Num [v10] h fun v23 h =>
 binP .eql .other v23 (.int .i64 0) fun v24 =>
 k22 v24 h)
 (.bool false) h fun v25 h =>
 condP v25 true (fun k26 =>
 binP .neq .other v12 v6 fun v27 =>
 k26 v27 h)
 (.bool false) h fun v28 h =>
 condP v28 true (fun k29 =>
 S n_law0_Num [v13] h fun v30 h =>
 binP .eql .other v30 (.int .i64 0) fun v31 =>
 k29 v31 h)
 (.bool false) h fun v32 h =>
 condP v32 true (fun k33 =>
 S n_law0_Num [v16] h fun v34 h =>
 binP .eql .other v34 (.int .i64 1400) fun v35 =>
 k33 v35 h)
 (.bool false) h fun v36 h =>
 condP v36 true (fun k37 =>
 S n_ring_Live [.int .i64 3, .int .i64 5, .int .i64 2] h fun v38 h =>
 k37 v38 h)
 (.bool false) h fun v39 h =>
 condP v39 true (fun k40 =>
 S n_ring_Live [.int .i64 2, .int .i64 5, .int .i64 2] h fun v41 h =>
 notP v41 fun v42 =>
 k40 v42 h)
 (.bool false) h fun v43 h =>
 condP v43 true (fun k44 =>
 S n_ring_Live [.int .i64 6, .int .i64 5, .int .i64 2] h fun v45 h =>
 notP v45 fun v46 =>
 k44 v46 h)
 (.bool false) h fun v47 h =>
 K v47 h)
theorem q_law14_awake (S : FuncId → List AVal → AHeap A → (AVal → AHeap A → Prop) → Prop) (G : Nat → AHeap A → List AVal → (List AVal → AHeap A → Prop) → Prop) (h : AHeap A) (K : AVal → AHeap A → Prop) : funP Try.prog S G Try.f37 .leaf [] h K = p_law14_awake S G h K := by kernel_rfl
theorem c_law14_awake {R : Adts A} {h : AHeap A} {K : AVal → AHeap A → Prop} (hk : p_law14_awake (Tri Pr R) (Gives Pr R) h K) : Tri Pr R n_law14_awake [] h K :=
  tri_of_funP (by kernel_rfl) (fun _ _ _ _ h => h) (fun _ _ _ _ h => h) Try.func37 (by rw [q_law14_awake]; exact hk)
/-- bastion/bastionlaw14.twin -/
def p_law14_twin (S : FuncId → List AVal → AHeap A → (AVal → AHeap A → Prop) → Prop) (G : Nat → AHeap A → List AVal → (List AVal → AHeap A → Prop) → Prop) (a0 a1 : AVal) (h : AHeap A) (K : AVal → AHeap A → Prop) : Prop :=
 S n_book_New [a0] h fun v1 h =>
 extP v1 0 fun v2 =>
 extP v1 1 fun v3 =>
 S n_ref1_NewBook [a0] h fun v4 h =>
 extP v4 0 fun v5 =>
 extP v4 1 fun v6 =>
 S n_law0_Num [v3] h fun v7 h =>
 binP .neq .other v7 (.int .i64 0) fun v8 =>
 condP v8 false (fun k9 =>
 binP .neq .other v6 (.int .i64 0) fun v10 =>
 k9 v10 h)
 (.bool true) h fun v11 h =>
 condP v11 false (fun k12 =>
 binP .eql .ptr v2 .nilp fun v13 =>
 k12 v13 h)
 (.bool true) h fun v14 h =>
 iteP v14
 (K (.tup [.nilp, .nilp]) h)
 (loopP G (fun v29 h k16 =>
 (fun v15 =>
 lenP a1 fun v17 =>
 binP .lss .other v15 v17 fun v18 =>
 condP v18 true (fun k19 =>
 binP .lss .other v15 (.int .i64 400) fun v20 =>
 k19 v20 h)
 (.bool false) h fun v21 h =>
 iteP v21
 (idxP 1 a1 v15 fun v22 =>
 ldP 1 false v22 h fun v23 =>
 S n_book_Book_Name [v2, v23] h fun v24 h =>
 idxP 1 a1 v15 fun v25 =>
 ldP 1 false v25 h fun v26 =>
 S n_ref1_Book_Name [v5, v26] h fun v27 h =>
 binP .add .other v15 (.int .i64 1) fun v28 =>
 k16 [v28] h)
 (K (.tup [v2, v5]) h)) (v29.getD 0 .any)) [.int .i64 0] h)
theorem q_law14_twin (S : FuncId → List AVal → AHeap A → (AVal → AHeap A → Prop) → Prop) (G : Nat → AHeap A → List AVal → (List AVal → AHeap A → Prop) → Prop) (a0 a1 : AVal) (h : AHeap A) (K : AVal → AHeap A → Prop) : funP Try.prog S G Try.f38 (.two none .leaf (.two none .leaf (.two none .leaf (.two none .leaf (.two none (.two none .leaf (.one [] (.one [10] .leaf))) .leaf))))) [a0, a1] h K = p_law14_twin S G a0 a1 h K := by kernel_rfl
theorem c_law14_twin {R : Adts A} {h : AHeap A} {K : AVal → AHeap A → Prop} {a0 a1 : AVal} (hk : p_law14_twin (Tri Pr R) (Gives Pr R) a0 a1 h K) : Tri Pr R n_law14_twin [a0, a1] h K :=
  tri_of_funP (by kernel_rfl) (fun _ _ _ _ h => h) (fun _ _ _ _ h => h) Try.func38 (by rw [q_law14_twin]; exact hk)
/-- bastion/ring.Key -/
def p_ring_Key (S : FuncId → List AVal → AHeap A → (AVal → AHeap A → Prop) → Prop) (G : Nat → AHeap A → List AVal → (List AVal → AHeap A → Prop) → Prop) (a0 a1 : AVal) (h : AHeap A) (K : AVal → AHeap A → Prop) : Prop :=
 binP .eql .ptr a0 .nilp fun v1 =>
 iteP v1
 (K (.tup [.int .i64 0, .int .i64 1]) h)
 (S n_ring_term [a1] h fun v2 h =>
 extP v2 0 fun v3 =>
 extP v2 1 fun v4 =>
 notP v4 fun v5 =>
 iteP v5
 (K (.tup [.int .i64 0, .int .i64 1400]) h)
 (S n_craft_Atom [a0, v3] h fun v6 h =>
 extP v6 0 fun v7 =>
 extP v6 1 fun v8 =>
 binP .neq .other v8 (.int .i64 0) fun v9 =>
 iteP v9
 (K (.tup [.int .i64 0, .int .i64 1400]) h)
 (K (.tup [v7, .int .i64 0]) h)))
theorem q_ring_Key (S : FuncId → List AVal → AHeap A → (AVal → AHeap A → Prop) → Prop) (G : Nat → AHeap A → List AVal → (List AVal → AHeap A → Prop) → Prop) (a0 a1 : AVal) (h : AHeap A) (K : AVal → AHeap A → Prop) : funP Try.prog S G Try.f39 .leaf [a0, a1] h K = p_ring_Key S G a0 a1 h K := by kernel_rfl
theorem c_ring_Key {R : Adts A} {h : AHeap A} {K : AVal → AHeap A → Prop} {a0 a1 : AVal} (hk : p_ring_Key (Tri Pr R) (Gives Pr R) a0 a1 h K) : Tri Pr R n_ring_Key [a0, a1] h K :=
  tri_of_funP (by kernel_rfl) (fun _ _ _ _ h => h) (fun _ _ _ _ h => h) Try.func39 (by rw [q_ring_Key]; exact hk)
/-- bastion/ring.Live -/
def p_ring_Live (S : FuncId → List AVal → AHeap A → (AVal → AHeap A → Prop) → Prop) (G : Nat → AHeap A → List AVal → (List AVal → AHeap A → Prop) → Prop) (a0 a1 a2 : AVal) (h : AHeap A) (K : AVal → AHeap A → Prop) : Prop :=
 S n_field_NumMay [a0] h fun v1 h =>
 condP v1 true (fun k2 =>
 S n_field_NumMay [a1] h fun v3 h =>
 k2 v3 h)
 (.bool false) h fun v4 h =>
 condP v4 true (fun k5 =>
 S n_field_NumMay [a2] h fun v6 h =>
 k5 v6 h)
 (.bool false) h fun v7 h =>
 condP v7 true (fun k8 =>
 binP .leq .other a0 a1 fun v9 =>
 k8 v9 h)
 (.bool false) h fun v10 h =>
 condP v10 true (fun k11 =>
 binP .sub .other a1 a0 fun v12 =>
 binP .leq .other v12 a2 fun v13 =>
 k11 v13 h)
 (.bool false) h fun v14 h =>
 K v14 h
theorem q_ring_Live (S : FuncId → List AVal → AHeap A → (AVal → AHeap A → Prop) → Prop) (G : Nat → AHeap A → List AVal → (List AVal → AHeap A → Prop) → Prop) (a0 a1 a2 : AVal) (h : AHeap A) (K : AVal → AHeap A → Prop) : funP Try.prog S G Try.f40 .leaf [a0, a1, a2] h K = p_ring_Live S G a0 a1 a2 h K := by kernel_rfl
theorem c_ring_Live {R : Adts A} {h : AHeap A} {K : AVal → AHeap A → Prop} {a0 a1 a2 : AVal} (hk : p_ring_Live (Tri Pr R) (Gives Pr R) a0 a1 a2 h K) : Tri Pr R n_ring_Live [a0, a1, a2] h K :=
  tri_of_funP (by kernel_rfl) (fun _ _ _ _ h => h) (fun _ _ _ _ h => h) Try.func40 (by rw [q_ring_Live]; exact hk)
/-- bastion/disk.New -/
def p_disk_New (S : FuncId → List AVal → AHeap A → (AVal → AHeap A → Prop) → Prop) (G : Nat → AHeap A → List AVal → (List AVal → AHeap A → Prop) → Prop) (a0 : AVal) (h : AHeap A) (K : AVal → AHeap A → Prop) : Prop :=
 binP .lss .other a0 (.int .i64 1) fun v1 =>
 condP v1 false (fun k2 =>
 binP .gtr .other a0 (.int .i64 256) fun v3 =>
 k2 v3 h)
 (.bool true) h fun v4 h =>
 iteP v4
 (K (.tup [.nilp, .int .i64 800]) h)
 (mkslP t_string 1 16 [.str []] a0 a0 h fun v5 h =>
 bldP [.nils, .nils, .bool false] [(0, 1, v5)] fun v6 =>
 boxP t_disk_Disk 3 v6 h fun v7 h =>
 nilP v7 fun v8 =>
 fadP 0 v8 fun v9 =>
 ldP 1 false v9 h fun v10 =>
 lenP v10 fun v11 =>
 loopP G (fun v22 h k13 =>
 (fun v12 =>
 binP .lss .other v12 v11 fun v14 =>
 iteP v14
 (nilP v7 fun v15 =>
 fadP 0 v15 fun v16 =>
 ldP 1 false v16 h fun v17 =>
 mkslP t_uint8 1 1 [.int .u8 0] (.int .i64 64) (.int .i64 64) h fun v18 h =>
 ldV 1 false v16 h = some v17 ∧
 b2sP v18 h fun v19 =>
 ldV 1 false v16 h = some v17 ∧
 idxP 1 v17 v12 fun v20 =>
 stP 1 v20 v19 h fun h =>
 binP .add .other v12 (.int .i64 1) fun v21 =>
 k13 [v21] h)
 (K (.tup [v7, .int .i64 0]) h)) (v22.getD 0 .any)) [.int .i64 0] h)
theorem q_disk_New (S : FuncId → List AVal → AHeap A → (AVal → AHeap A → Prop) → Prop) (G : Nat → AHeap A → List AVal → (List AVal → AHeap A → Prop) → Prop) (a0 : AVal) (h : AHeap A) (K : AVal → AHeap A → Prop) : funP Try.prog S G Try.f41 (.two none .leaf (.two none .leaf (.two none .leaf (.two none (.two none .leaf (.one [] (.one [21] (.two none .leaf (.two none .leaf (.two none (.one [] (.two none .leaf (.draw none (.take 0 (.take 1 (.take 2 (.take 4 (.load 3 (.alt 5 (.alt 6 (.take 7 (.alt 8 .stop .stop)) .stop) .stop))))))))) .leaf)))))) .leaf)))) [a0] h K = p_disk_New S G a0 h K := by kernel_rfl
theorem c_disk_New {R : Adts A} {h : AHeap A} {K : AVal → AHeap A → Prop} {a0 : AVal} (hk : p_disk_New (Tri Pr R) (Gives Pr R) a0 h K) : Tri Pr R n_disk_New [a0] h K :=
  tri_of_funP (by kernel_rfl) (fun _ _ _ _ h => h) (fun _ _ _ _ h => h) Try.func41 (by rw [q_disk_New]; exact hk)
/-- bastion/bastionref1.NewDisk -/
def p_ref1_NewDisk (S : FuncId → List AVal → AHeap A → (AVal → AHeap A → Prop) → Prop) (G : Nat → AHeap A → List AVal → (List AVal → AHeap A → Prop) → Prop) (a0 : AVal) (h : AHeap A) (K : AVal → AHeap A → Prop) : Prop :=
 binP .lss .other a0 (.int .i64 1) fun v1 =>
 condP v1 false (fun k2 =>
 binP .gtr .other a0 (.int .i64 256) fun v3 =>
 k2 v3 h)
 (.bool true) h fun v4 h =>
 iteP v4
 (K (.tup [.nilp, .int .i64 800]) h)
 (bldP [.nils, .nils, .bool false] [] fun v5 =>
 boxP t_bastionref1_Disk 3 v5 h fun v6 h =>
 loopP G (fun v20 h k8 =>
 (fun v7 =>
 binP .lss .other v7 a0 fun v9 =>
 iteP v9
 (nilP v6 fun v10 =>
 fadP 0 v10 fun v11 =>
 ldP 1 false v11 h fun v12 =>
 mkslP t_uint8 1 1 [.int .u8 0] (.int .i64 64) (.int .i64 64) h fun v13 h =>
 ldV 1 false v11 h = some v12 ∧
 b2sP v13 h fun v14 =>
 ldV 1 false v11 h = some v12 ∧
 bslP t_string 1 [.str []] [(0, 1, v14)] h fun v15 h =>
 ldV 1 false v11 h = some v12 ∧
 appP t_string 1 16 v12 v15 h fun v16 h =>
 nilP v6 fun v17 =>
 fadP 0 v17 fun v18 =>
 stP 1 v18 v16 h fun h =>
 binP .add .other v7 (.int .i64 1) fun v19 =>
 k8 [v19] h)
 (K (.tup [v6, .int .i64 0]) h)) (v20.getD 0 .any)) [.int .i64 0] h)
theorem q_ref1_NewDisk (S : FuncId → List AVal → AHeap A → (AVal → AHeap A → Prop) → Prop) (G : Nat → AHeap A → List AVal → (List AVal → AHeap A → Prop) → Prop) (a0 : AVal) (h : AHeap A) (K : AVal → AHeap A → Prop) : funP Try.prog S G Try.f42 (.two none .leaf (.two none .leaf (.two none .leaf (.two none (.two none .leaf (.one [] (.one [5] (.two none .leaf (.two none (.one [] (.draw none (.take 0 (.take 1 (.take 2 (.take 3 (.load 4 (.alt 5 (.alt 6 (.alt 7 (.alt 8 (.take 9 (.take 10 (.alt 11 .stop .stop))) .stop) .stop) .stop) .stop)))))))) .leaf))))) .leaf)))) [a0] h K = p_ref1_NewDisk S G a0 h K := by kernel_rfl
theorem c_ref1_NewDisk {R : Adts A} {h : AHeap A} {K : AVal → AHeap A → Prop} {a0 : AVal} (hk : p_ref1_NewDisk (Tri Pr R) (Gives Pr R) a0 h K) : Tri Pr R n_ref1_NewDisk [a0] h K :=
  tri_of_funP (by kernel_rfl) (fun _ _ _ _ h => h) (fun _ _ _ _ h => h) Try.func42 (by rw [q_ref1_NewDisk]; exact hk)
/-- bastion/bastionlaw8.awake -/
def p_law8_awake (S : FuncId → List AVal → AHeap A → (AVal → AHeap A → Prop) → Prop) (G : Nat → AHeap A → List AVal → (List AVal → AHeap A → Prop) → Prop) (h : AHeap A) (K : AVal → AHeap A → Prop) : Prop :=
 S n_disk_New [.int .i64 2] h fun v1 h =>
 extP v1 0 fun v2 =>
 extP v1 1 fun v3 =>
 S n_disk_New [.int .i64 0] h fun v4 h =>
 extP v4 0 fun v5 =>
 extP v4 1 fun v6 =>
 S n_law0_Num [v3] h fun v7 h =>
 binP .neq .other v7 (.int .i64 0) fun v8 =>
 condP v8 false (fun k9 =>
 binP .eql .ptr v2 .nilp fun v10 =>
 k9 v10 h)
 (.bool true) h fun v11 h =>
 iteP v11
 (K (.bool false) h)
 (S n_law8_sectorOf [.str [111, 110, 101]] h fun v12 h =>
 S n_disk_Disk_Write [v2, .int .i64 0, v12] h fun v13 h =>
 S n_disk_Disk_Flush [v2] h fun v14 h =>
 S n_law8_sectorOf [.str [116, 119, 111]] h fun v15 h =>
 S n_disk_Disk_Write [v2, .int .i64 0, v15] h fun v16 h =>
 S n_law8_sectorOf [.str [116, 104, 114, 101, 101]] h fun v17 h =>
 S n_disk_Disk_Write [v2, .int .i64 1, v17] h fun v18 h =>
 S n_disk_Disk_Read [v2, .int .i64 0] h fun v19 h =>
 extP v19 0 fun v20 =>
 extP v19 1 fun v21 =>
 S n_disk_Disk_Waits [v2] h fun v22 h =>
 S n_disk_Disk_Crash [v2, .int .i64 2, .int .i64 1] h fun v23 h =>
 S n_disk_Disk_Read [v2, .int .i64 0] h fun v24 h =>
 extP v24 0 fun v25 =>
 extP v24 1 fun v26 =>
 S n_disk_Disk_Restart [v2] h fun v27 h =>
 S n_disk_Disk_Read [v2, .int .i64 0] h fun v28 h =>
 extP v28 0 fun v29 =>
 extP v28 1 fun v30 =>
 S n_disk_Disk_Read [v2, .int .i64 1] h fun v31 h =>
 extP v31 0 fun v32 =>
 extP v31 1 fun v33 =>
 S n_law8_sectorOf [.str []] h fun v34 h =>
 S n_disk_Disk_Write [v2, .int .i64 2, v34] h fun v35 h =>
 S n_disk_Disk_Write [v2, .int .i64 0, .str [120]] h fun v36 h =>
 S n_law0_Num [v6] h fun v37 h =>
 binP .eql .other v37 (.int .i64 800) fun v38 =>
 condP v38 true (fun k39 =>
 S n_law0_Num [v13] h fun v40 h =>
 binP .eql .other v40 (.int .i64 0) fun v41 =>
 k39 v41 h)
 (.bool false) h fun v42 h =>
 condP v42 true (fun k43 =>
 S n_law0_Num [v14] h fun v44 h =>
 binP .eql .other v44 (.int .i64 0) fun v45 =>
 k43 v45 h)
 (.bool false) h fun v46 h =>
 condP v46 true (fun k47 =>
 S n_law0_Num [v16] h fun v48 h =>
 binP .eql .other v48 (.int .i64 0) fun v49 =>
 k47 v49 h)
 (.bool false) h fun v50 h =>
 condP v50 true (fun k51 =>
 S n_law0_Num [v18] h fun v52 h =>
 binP .eql .other v52 (.int .i64 0) fun v53 =>
 k51 v53 h)
 (.bool false) h fun v54 h =>
 condP v54 true (fun k55 =>
 S n_law8_sectorOf [.str [116, 119, 111]] h fun v56 h =>
 binP .eql .other v20 v56 fun v57 =>
 k55 v57 h)
 (.bool false) h fun v58 h =>
 condP v58 true (fun k59 =>
 S n_law0_Num [v21] h fun v60 h =>
 binP .eql .other v60 (.int .i64 0) fun v61 =>
 k59 v61 h)
 (.bool false) h fun v62 h =>
 condP v62 true (fun k63 =>
 binP .eql .other v22 (.int .i64 2) fun v64 =>
 k63 v64 h)
 (.bool false) h fun v65 h =>
 condP v65 true (fun k66 =>
 S n_law0_Num [v23] h fun v67 h =>
 binP .eql .other v67 (.int .i64 0) fun v68 =>
 k66 v68 h)
 (.bool false) h fun v69 h =>
 condP v69 true (fun k70 =>
 S n_law0_Num [v26] h fun v71 h =>
 binP .eql .other v71 (.int .i64 801) fun v72 =>
 k70 v72 h)
 (.bool false) h fun v73 h =>
 condP v73 true (fun k74 =>
 S n_law0_Num [v27] h fun v75 h =>
 binP .eql .other v75 (.int .i64 0) fun v76 =>
 k74 v76 h)
 (.bool false) h fun v77 h =>
 condP v77 true (fun k78 =>
 S n_law8_sectorOf [.str [116, 110, 101]] h fun v79 h =>
 binP .eql .other v29 v79 fun v80 =>
 k78 v80 h)
 (.bool false) h fun v81 h =>
 condP v81 true (fun k82 =>
 S n_law0_Num [v30] h fun v83 h =>
 binP .eql .other v83 (.int .i64 0) fun v84 =>
 k82 v84 h)
 (.bool false) h fun v85 h =>
 condP v85 true (fun k86 =>
 S n_law8_sectorOf [.str [116, 104, 114, 101, 101]] h fun v87 h =>
 binP .eql .other v32 v87 fun v88 =>
 k86 v88 h)
 (.bool false) h fun v89 h =>
 condP v89 true (fun k90 =>
 S n_law0_Num [v33] h fun v91 h =>
 binP .eql .other v91 (.int .i64 0) fun v92 =>
 k90 v92 h)
 (.bool false) h fun v93 h =>
 condP v93 true (fun k94 =>
 S n_law0_Num [v35] h fun v95 h =>
 binP .eql .other v95 (.int .i64 800) fun v96 =>
 k94 v96 h)
 (.bool false) h fun v97 h =>
 condP v97 true (fun k98 =>
 S n_law0_Num [v36] h fun v99 h =>
 binP .eql .other v99 (.int .i64 800) fun v100 =>
 k98 v100 h)
 (.bool false) h fun v101 h =>
 condP v101 true (fun k102 =>
 S n_disk_Disk_Waits [v2] h fun v103 h =>
 binP .eql .other v103 (.int .i64 0) fun v104 =>
 k102 v104 h)
 (.bool false) h fun v105 h =>
 K v105 h)
theorem q_law8_awake (S : FuncId → List AVal → AHeap A → (AVal → AHeap A → Prop) → Prop) (G : Nat → AHeap A → List AVal → (List AVal → AHeap A → Prop) → Prop) (h : AHeap A) (K : AVal → AHeap A → Prop) : funP Try.prog S G Try.f43 .leaf [] h K = p_law8_awake S G h K := by kernel_rfl
theorem c_law8_awake {R : Adts A} {h : AHeap A} {K : AVal → AHeap A → Prop} (hk : p_law8_awake (Tri Pr R) (Gives Pr R) h K) : Tri Pr R n_law8_awake [] h K :=
  tri_of_funP (by kernel_rfl) (fun _ _ _ _ h => h) (fun _ _ _ _ h => h) Try.func43 (by rw [q_law8_awake]; exact hk)
/-- bastion/bastionlaw8.sectorOf -/
def p_law8_sectorOf (S : FuncId → List AVal → AHeap A → (AVal → AHeap A → Prop) → Prop) (G : Nat → AHeap A → List AVal → (List AVal → AHeap A → Prop) → Prop) (a0 : AVal) (h : AHeap A) (K : AVal → AHeap A → Prop) : Prop :=
 mkslP t_uint8 1 1 [.int .u8 0] (.int .i64 64) (.int .i64 64) h fun v1 h =>
 b2sP v1 h fun v2 =>
 binP .add .other a0 v2 fun v3 =>
 subP v3 none (some (.int .i64 64)) fun v4 =>
 K v4 h
theorem q_law8_sectorOf (S : FuncId → List AVal → AHeap A → (AVal → AHeap A → Prop) → Prop) (G : Nat → AHeap A → List AVal → (List AVal → AHeap A → Prop) → Prop) (a0 : AVal) (h : AHeap A) (K : AVal → AHeap A → Prop) : funP Try.prog S G Try.f44 .leaf [a0] h K = p_law8_sectorOf S G a0 h K := by kernel_rfl
theorem c_law8_sectorOf {R : Adts A} {h : AHeap A} {K : AVal → AHeap A → Prop} {a0 : AVal} (hk : p_law8_sectorOf (Tri Pr R) (Gives Pr R) a0 h K) : Tri Pr R n_law8_sectorOf [a0] h K :=
  tri_of_funP (by kernel_rfl) (fun _ _ _ _ h => h) (fun _ _ _ _ h => h) Try.func44 (by rw [q_law8_sectorOf]; exact hk)
/-- (*bastion/disk.Disk).Write -/
def p_disk_Disk_Write (S : FuncId → List AVal → AHeap A → (AVal → AHeap A → Prop) → Prop) (G : Nat → AHeap A → List AVal → (List AVal → AHeap A → Prop) → Prop) (a0 a1 a2 : AVal) (h : AHeap A) (K : AVal → AHeap A → Prop) : Prop :=
 binP .eql .ptr a0 .nilp fun v1 =>
 iteP v1
 (K (.int .i64 1) h)
 (nilP a0 fun v2 =>
 fadP 2 v2 fun v3 =>
 ldP 1 false v3 h fun v4 =>
 iteP v4
 (K (.int .i64 801) h)
 (S n_disk_Disk_there [a0, a1] h fun v5 h =>
 notP v5 fun v6 =>
 condP v6 false (fun k7 =>
 lnsP a2 fun v8 =>
 binP .neq .other v8 (.int .i64 64) fun v9 =>
 k7 v9 h)
 (.bool true) h fun v10 h =>
 iteP v10
 (K (.int .i64 800) h)
 (nilP a0 fun v11 =>
 fadP 1 v11 fun v12 =>
 ldP 1 false v12 h fun v13 =>
 bldP [.int .i64 0, .str []] [(0, 1, a1), (1, 1, a2)] fun v14 =>
 bslP t_disk_write 1 [.int .i64 0, .str []] [(0, 2, v14)] h fun v15 h =>
 appP t_disk_write 2 24 v13 v15 h fun v16 h =>
 nilP a0 fun v17 =>
 fadP 1 v17 fun v18 =>
 stP 1 v18 v16 h fun h =>
 K (.int .i64 0) h)))
theorem q_disk_Disk_Write (S : FuncId → List AVal → AHeap A → (AVal → AHeap A → Prop) → Prop) (G : Nat → AHeap A → List AVal → (List AVal → AHeap A → Prop) → Prop) (a0 a1 a2 : AVal) (h : AHeap A) (K : AVal → AHeap A → Prop) : funP Try.prog S G Try.f45 .leaf [a0, a1, a2] h K = p_disk_Disk_Write S G a0 a1 a2 h K := by kernel_rfl
theorem c_disk_Disk_Write {R : Adts A} {h : AHeap A} {K : AVal → AHeap A → Prop} {a0 a1 a2 : AVal} (hk : p_disk_Disk_Write (Tri Pr R) (Gives Pr R) a0 a1 a2 h K) : Tri Pr R n_disk_Disk_Write [a0, a1, a2] h K :=
  tri_of_funP (by kernel_rfl) (fun _ _ _ _ h => h) (fun _ _ _ _ h => h) Try.func45 (by rw [q_disk_Disk_Write]; exact hk)
end Go.AI
