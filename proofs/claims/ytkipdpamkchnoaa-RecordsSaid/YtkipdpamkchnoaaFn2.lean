/- The functions as texts over the abstract heap. -/
import Derived.Test.YtkipdpamkchnoaaNm
import Derived.KernelRfl
set_option linter.all false
namespace Go.AI
open Go.Proofs
set_option maxRecDepth 1000000
variable {A : Type}
/-- bastion/bastionref1.PutEvent -/
def p_ref1_PutEvent (S : FuncId → List AVal → AHeap A → (AVal → AHeap A → Prop) → Prop) (G : Nat → AHeap A → List AVal → (List AVal → AHeap A → Prop) → Prop) (a0 : AVal) (h : AHeap A) (K : AVal → AHeap A → Prop) : Prop :=
 boxP t_api_Event 8 a0 h fun v1 h =>
 ldP 8 true v1 h fun v2 =>
 S n_ref1_EventMay [v2] h fun v3 h =>
 notP v3 fun v4 =>
 iteP v4
 (K (.tup [.str [], .int .i64 700]) h)
 (fadP 0 v1 fun v5 =>
 ldP 1 false v5 h fun v6 =>
 bslP t_int 1 [.int .i64 0] [(0, 1, v6)] h fun v7 h =>
 S n_ref1_Nums [v7] h fun v8 h =>
 joinP G h.length (fun k9 =>
 fadP 0 v1 fun v10 =>
 ldP 1 false v10 h fun v11 =>
 binP .eql .other v11 (.int .i64 0) fun v12 =>
 iteP v12
 (fadP 7 v1 fun v13 =>
 ldP 1 false v13 h fun v14 =>
 bslP t_int 1 [.int .i64 0] [(0, 1, v14)] h fun v15 h =>
 S n_ref1_Nums [v15] h fun v16 h =>
 binP .add .other v8 v16 fun v17 =>
 k9 [v17] h)
 (binP .eql .other v11 (.int .i64 1) fun v18 =>
 iteP v18
 (fadP 1 v1 fun v19 =>
 ldP 1 false v19 h fun v20 =>
 fadP 4 v1 fun v21 =>
 ldP 1 false v21 h fun v22 =>
 fadP 5 v1 fun v23 =>
 ldP 1 false v23 h fun v24 =>
 fadP 6 v1 fun v25 =>
 ldP 1 false v25 h fun v26 =>
 bslP t_int 4 [.int .i64 0, .int .i64 0, .int .i64 0, .int .i64 0] [(0, 1, v20), (1, 1, v22), (2, 1, v24), (3, 1, v26)] h fun v27 h =>
 S n_ref1_Nums [v27] h fun v28 h =>
 binP .add .other v8 v28 fun v29 =>
 k9 [v29] h)
 (binP .eql .other v11 (.int .i64 2) fun v30 =>
 iteP v30
 (fadP 1 v1 fun v31 =>
 ldP 1 false v31 h fun v32 =>
 fadP 7 v1 fun v33 =>
 ldP 1 false v33 h fun v34 =>
 bslP t_int 2 [.int .i64 0, .int .i64 0] [(0, 1, v32), (1, 1, v34)] h fun v35 h =>
 S n_ref1_Nums [v35] h fun v36 h =>
 binP .add .other v8 v36 fun v37 =>
 k9 [v37] h)
 (binP .eql .other v11 (.int .i64 3) fun v38 =>
 iteP v38
 (fadP 1 v1 fun v39 =>
 ldP 1 false v39 h fun v40 =>
 fadP 4 v1 fun v41 =>
 ldP 1 false v41 h fun v42 =>
 bslP t_int 2 [.int .i64 0, .int .i64 0] [(0, 1, v40), (1, 1, v42)] h fun v43 h =>
 S n_ref1_Nums [v43] h fun v44 h =>
 binP .add .other v8 v44 fun v45 =>
 k9 [v45] h)
 (joinP G h.length (fun k46 =>
 binP .eql .other v11 (.int .i64 4) fun v47 =>
 iteP v47
 (k46 [v47] h)
 (binP .eql .other v11 (.int .i64 7) fun v48 =>
 k46 [v48] h))
 (fun v85 h =>
 (fun v49 =>
 iteP v49
 (fadP 1 v1 fun v50 =>
 ldP 1 false v50 h fun v51 =>
 bslP t_int 1 [.int .i64 0] [(0, 1, v51)] h fun v52 h =>
 S n_ref1_Nums [v52] h fun v53 h =>
 binP .add .other v8 v53 fun v54 =>
 k9 [v54] h)
 (binP .eql .other v11 (.int .i64 5) fun v55 =>
 iteP v55
 (fadP 2 v1 fun v56 =>
 ldP 1 false v56 h fun v57 =>
 fadP 1 v1 fun v58 =>
 ldP 1 false v58 h fun v59 =>
 fadP 3 v1 fun v60 =>
 ldP 1 false v60 h fun v61 =>
 fadP 7 v1 fun v62 =>
 ldP 1 false v62 h fun v63 =>
 bslP t_int 4 [.int .i64 0, .int .i64 0, .int .i64 0, .int .i64 0] [(0, 1, v57), (1, 1, v59), (2, 1, v61), (3, 1, v63)] h fun v64 h =>
 S n_ref1_Nums [v64] h fun v65 h =>
 binP .add .other v8 v65 fun v66 =>
 k9 [v66] h)
 (binP .eql .other v11 (.int .i64 6) fun v67 =>
 iteP v67
 (fadP 2 v1 fun v68 =>
 ldP 1 false v68 h fun v69 =>
 fadP 4 v1 fun v70 =>
 ldP 1 false v70 h fun v71 =>
 fadP 5 v1 fun v72 =>
 ldP 1 false v72 h fun v73 =>
 fadP 7 v1 fun v74 =>
 ldP 1 false v74 h fun v75 =>
 bslP t_int 4 [.int .i64 0, .int .i64 0, .int .i64 0, .int .i64 0] [(0, 1, v69), (1, 1, v71), (2, 1, v73), (3, 1, v75)] h fun v76 h =>
 S n_ref1_Nums [v76] h fun v77 h =>
 binP .add .other v8 v77 fun v78 =>
 k9 [v78] h)
 (binP .eql .other v11 (.int .i64 9) fun v79 =>
 iteP v79
 (fadP 2 v1 fun v80 =>
 ldP 1 false v80 h fun v81 =>
 bslP t_int 1 [.int .i64 0] [(0, 1, v81)] h fun v82 h =>
 S n_ref1_Nums [v82] h fun v83 h =>
 binP .add .other v8 v83 fun v84 =>
 k9 [v84] h)
 (k9 [v8] h))))) (v85.getD 0 .any)))))))
 (fun v87 h =>
 (fun v86 =>
 K (.tup [v86, .int .i64 0]) h) (v87.getD 0 .any)))
theorem q_ref1_PutEvent (S : FuncId → List AVal → AHeap A → (AVal → AHeap A → Prop) → Prop) (G : Nat → AHeap A → List AVal → (List AVal → AHeap A → Prop) → Prop) (a0 : AVal) (h : AHeap A) (K : AVal → AHeap A → Prop) : funP Try.prog S G Try.f26 (.two none .leaf (.two none .leaf (.two none .leaf (.two (some [4]) (.two none .leaf (.one [] (.two none .leaf (.two none .leaf (.two none .leaf (.two none .leaf (.two none .leaf (.two none .leaf (.two none .leaf (.two none .leaf (.two (some [56]) .leaf .leaf))))))))))) .leaf)))) [a0] h K = p_ref1_PutEvent S G a0 h K := by kernel_rfl
theorem c_ref1_PutEvent {R : Adts A} {h : AHeap A} {K : AVal → AHeap A → Prop} {a0 : AVal} (hk : p_ref1_PutEvent (Tri Pr R) (Gives Pr R) a0 h K) : Tri Pr R n_ref1_PutEvent [a0] h K :=
  tri_of_funP (by kernel_rfl) (fun _ _ _ _ h => h) (fun _ _ _ _ h => h) Try.func26 (by rw [q_ref1_PutEvent]; exact hk)
/-- bastion/bastionref1.num -/
def p_ref1_num (S : FuncId → List AVal → AHeap A → (AVal → AHeap A → Prop) → Prop) (G : Nat → AHeap A → List AVal → (List AVal → AHeap A → Prop) → Prop) (a0 : AVal) (h : AHeap A) (K : AVal → AHeap A → Prop) : Prop :=
 binP .geq .other a0 (.int .i64 0) fun v1 =>
 condP v1 true (fun k2 =>
 binP .leq .other a0 (.int .i64 1073741823) fun v3 =>
 k2 v3 h)
 (.bool false) h fun v4 h =>
 K v4 h
theorem q_ref1_num (S : FuncId → List AVal → AHeap A → (AVal → AHeap A → Prop) → Prop) (G : Nat → AHeap A → List AVal → (List AVal → AHeap A → Prop) → Prop) (a0 : AVal) (h : AHeap A) (K : AVal → AHeap A → Prop) : funP Try.prog S G Try.f27 .leaf [a0] h K = p_ref1_num S G a0 h K := by kernel_rfl
theorem c_ref1_num {R : Adts A} {h : AHeap A} {K : AVal → AHeap A → Prop} {a0 : AVal} (hk : p_ref1_num (Tri Pr R) (Gives Pr R) a0 h K) : Tri Pr R n_ref1_num [a0] h K :=
  tri_of_funP (by kernel_rfl) (fun _ _ _ _ h => h) (fun _ _ _ _ h => h) Try.func27 (by rw [q_ref1_num]; exact hk)
/-- bastion/bastionref1.Text -/
def p_ref1_Text (S : FuncId → List AVal → AHeap A → (AVal → AHeap A → Prop) → Prop) (G : Nat → AHeap A → List AVal → (List AVal → AHeap A → Prop) → Prop) (a0 : AVal) (h : AHeap A) (K : AVal → AHeap A → Prop) : Prop :=
 lnsP a0 fun v1 =>
 binP .gtr .other v1 (.int .i64 65536) fun v2 =>
 iteP v2
 (K (.tup [.str [], .int .i64 100]) h)
 (lnsP a0 fun v3 =>
 bslP t_int 1 [.int .i64 0] [(0, 1, v3)] h fun v4 h =>
 S n_ref1_Nums [v4] h fun v5 h =>
 binP .add .other v5 a0 fun v6 =>
 K (.tup [v6, .int .i64 0]) h)
theorem q_ref1_Text (S : FuncId → List AVal → AHeap A → (AVal → AHeap A → Prop) → Prop) (G : Nat → AHeap A → List AVal → (List AVal → AHeap A → Prop) → Prop) (a0 : AVal) (h : AHeap A) (K : AVal → AHeap A → Prop) : funP Try.prog S G Try.f28 .leaf [a0] h K = p_ref1_Text S G a0 h K := by kernel_rfl
theorem c_ref1_Text {R : Adts A} {h : AHeap A} {K : AVal → AHeap A → Prop} {a0 : AVal} (hk : p_ref1_Text (Tri Pr R) (Gives Pr R) a0 h K) : Tri Pr R n_ref1_Text [a0] h K :=
  tri_of_funP (by kernel_rfl) (fun _ _ _ _ h => h) (fun _ _ _ _ h => h) Try.func28 (by rw [q_ref1_Text]; exact hk)
/-- bastion/bastionref1.Nums -/
def p_ref1_Nums (S : FuncId → List AVal → AHeap A → (AVal → AHeap A → Prop) → Prop) (G : Nat → AHeap A → List AVal → (List AVal → AHeap A → Prop) → Prop) (a0 : AVal) (h : AHeap A) (K : AVal → AHeap A → Prop) : Prop :=
 loopP G (fun v13 h k3 =>
 (fun v1 v2 =>
 lenP a0 fun v4 =>
 binP .lss .other v2 v4 fun v5 =>
 iteP v5
 (idxP 1 a0 v2 fun v6 =>
 ldP 1 false v6 h fun v7 =>
 S n_ref1_Num [v7] h fun v8 h =>
 extP v8 0 fun v9 =>
 extP v8 1 fun v10 =>
 binP .add .other v1 v9 fun v11 =>
 binP .add .other v2 (.int .i64 1) fun v12 =>
 k3 [v11, v12] h)
 (K v1 h)) (v13.getD 0 .any) (v13.getD 1 .any)) [.str [], .int .i64 0] h
theorem q_ref1_Nums (S : FuncId → List AVal → AHeap A → (AVal → AHeap A → Prop) → Prop) (G : Nat → AHeap A → List AVal → (List AVal → AHeap A → Prop) → Prop) (a0 : AVal) (h : AHeap A) (K : AVal → AHeap A → Prop) : funP Try.prog S G Try.f29 (.two none .leaf (.two none .leaf (.two none (.two none .leaf (.one [] (.one [3, 4] .leaf))) .leaf))) [a0] h K = p_ref1_Nums S G a0 h K := by kernel_rfl
theorem c_ref1_Nums {R : Adts A} {h : AHeap A} {K : AVal → AHeap A → Prop} {a0 : AVal} (hk : p_ref1_Nums (Tri Pr R) (Gives Pr R) a0 h K) : Tri Pr R n_ref1_Nums [a0] h K :=
  tri_of_funP (by kernel_rfl) (fun _ _ _ _ h => h) (fun _ _ _ _ h => h) Try.func29 (by rw [q_ref1_Nums]; exact hk)
/-- bastion/bastionref1.Hash -/
def p_ref1_Hash (S : FuncId → List AVal → AHeap A → (AVal → AHeap A → Prop) → Prop) (G : Nat → AHeap A → List AVal → (List AVal → AHeap A → Prop) → Prop) (a0 a1 : AVal) (h : AHeap A) (K : AVal → AHeap A → Prop) : Prop :=
 binP .add .other (.str [72]) a1 fun v1 =>
 S n_ref1_Book_made [a0, v1] h fun v2 h =>
 extP v2 0 fun v3 =>
 extP v2 1 fun v4 =>
 K (.tup [v3, v4]) h
theorem q_ref1_Hash (S : FuncId → List AVal → AHeap A → (AVal → AHeap A → Prop) → Prop) (G : Nat → AHeap A → List AVal → (List AVal → AHeap A → Prop) → Prop) (a0 a1 : AVal) (h : AHeap A) (K : AVal → AHeap A → Prop) : funP Try.prog S G Try.f30 .leaf [a0, a1] h K = p_ref1_Hash S G a0 a1 h K := by kernel_rfl
theorem c_ref1_Hash {R : Adts A} {h : AHeap A} {K : AVal → AHeap A → Prop} {a0 a1 : AVal} (hk : p_ref1_Hash (Tri Pr R) (Gives Pr R) a0 a1 h K) : Tri Pr R n_ref1_Hash [a0, a1] h K :=
  tri_of_funP (by kernel_rfl) (fun _ _ _ _ h => h) (fun _ _ _ _ h => h) Try.func30 (by rw [q_ref1_Hash]; exact hk)
/-- bastion/bastionref1.sector -/
def p_ref1_sector (S : FuncId → List AVal → AHeap A → (AVal → AHeap A → Prop) → Prop) (G : Nat → AHeap A → List AVal → (List AVal → AHeap A → Prop) → Prop) (a0 : AVal) (h : AHeap A) (K : AVal → AHeap A → Prop) : Prop :=
 lnsP a0 fun v1 =>
 binP .sub .other (.int .i64 64) v1 fun v2 =>
 mkslP t_uint8 1 1 [.int .u8 0] v2 v2 h fun v3 h =>
 b2sP v3 h fun v4 =>
 binP .add .other a0 v4 fun v5 =>
 K v5 h
theorem q_ref1_sector (S : FuncId → List AVal → AHeap A → (AVal → AHeap A → Prop) → Prop) (G : Nat → AHeap A → List AVal → (List AVal → AHeap A → Prop) → Prop) (a0 : AVal) (h : AHeap A) (K : AVal → AHeap A → Prop) : funP Try.prog S G Try.f31 .leaf [a0] h K = p_ref1_sector S G a0 h K := by kernel_rfl
theorem c_ref1_sector {R : Adts A} {h : AHeap A} {K : AVal → AHeap A → Prop} {a0 : AVal} (hk : p_ref1_sector (Tri Pr R) (Gives Pr R) a0 h K) : Tri Pr R n_ref1_sector [a0] h K :=
  tri_of_funP (by kernel_rfl) (fun _ _ _ _ h => h) (fun _ _ _ _ h => h) Try.func31 (by rw [q_ref1_sector]; exact hk)
/-- (*bastion/bastionref1.Reader).Num -/
def p_ref1_Reader_Num (S : FuncId → List AVal → AHeap A → (AVal → AHeap A → Prop) → Prop) (G : Nat → AHeap A → List AVal → (List AVal → AHeap A → Prop) → Prop) (a0 : AVal) (h : AHeap A) (K : AVal → AHeap A → Prop) : Prop :=
 nilP a0 fun v1 =>
 fadP 0 v1 fun v2 =>
 nilP a0 fun v3 =>
 fadP 1 v3 fun v4 =>
 ldP 1 false v2 h fun v5 =>
 ldP 1 false v4 h fun v6 =>
 ldV 1 false v2 h = some v5 ∧
 S n_ref1_GetNum [v5, v6] h fun v7 h =>
 extP v7 0 fun v8 =>
 extP v7 1 fun v9 =>
 extP v7 2 fun v10 =>
 nilP a0 fun v11 =>
 fadP 2 v11 fun v12 =>
 ldP 1 false v12 h fun v13 =>
 condP v13 false (fun k14 =>
 binP .neq .other v10 (.int .i64 0) fun v15 =>
 k14 v15 h)
 (.bool true) h fun v16 h =>
 iteP v16
 (nilP a0 fun v17 =>
 fadP 2 v17 fun v18 =>
 stP 1 v18 (.bool true) h fun h =>
 K (.int .i64 0) h)
 (nilP a0 fun v19 =>
 fadP 1 v19 fun v20 =>
 stP 1 v20 v9 h fun h =>
 K v8 h)
theorem q_ref1_Reader_Num (S : FuncId → List AVal → AHeap A → (AVal → AHeap A → Prop) → Prop) (G : Nat → AHeap A → List AVal → (List AVal → AHeap A → Prop) → Prop) (a0 : AVal) (h : AHeap A) (K : AVal → AHeap A → Prop) : funP Try.prog S G Try.f32 (.two none .leaf (.two none (.draw none (.take 0 (.take 1 (.take 2 (.take 4 (.take 5 (.take 6 (.load 3 (.alt 7 (.alt 8 (.take 9 (.take 10 (.take 11 (.take 12 (.take 13 (.take 14 (.take 15 .stop))))))) .stop) .stop))))))))) .leaf)) [a0] h K = p_ref1_Reader_Num S G a0 h K := by kernel_rfl
theorem c_ref1_Reader_Num {R : Adts A} {h : AHeap A} {K : AVal → AHeap A → Prop} {a0 : AVal} (hk : p_ref1_Reader_Num (Tri Pr R) (Gives Pr R) a0 h K) : Tri Pr R n_ref1_Reader_Num [a0] h K :=
  tri_of_funP (by kernel_rfl) (fun _ _ _ _ h => h) (fun _ _ _ _ h => h) Try.func32 (by rw [q_ref1_Reader_Num]; exact hk)
/-- (*bastion/bastionref1.Reader).Text -/
def p_ref1_Reader_Text (S : FuncId → List AVal → AHeap A → (AVal → AHeap A → Prop) → Prop) (G : Nat → AHeap A → List AVal → (List AVal → AHeap A → Prop) → Prop) (a0 : AVal) (h : AHeap A) (K : AVal → AHeap A → Prop) : Prop :=
 nilP a0 fun v1 =>
 fadP 0 v1 fun v2 =>
 nilP a0 fun v3 =>
 fadP 1 v3 fun v4 =>
 ldP 1 false v2 h fun v5 =>
 ldP 1 false v4 h fun v6 =>
 ldV 1 false v2 h = some v5 ∧
 S n_ref1_GetText [v5, v6] h fun v7 h =>
 extP v7 0 fun v8 =>
 extP v7 1 fun v9 =>
 extP v7 2 fun v10 =>
 nilP a0 fun v11 =>
 fadP 2 v11 fun v12 =>
 ldP 1 false v12 h fun v13 =>
 condP v13 false (fun k14 =>
 binP .neq .other v10 (.int .i64 0) fun v15 =>
 k14 v15 h)
 (.bool true) h fun v16 h =>
 iteP v16
 (nilP a0 fun v17 =>
 fadP 2 v17 fun v18 =>
 stP 1 v18 (.bool true) h fun h =>
 K (.str []) h)
 (nilP a0 fun v19 =>
 fadP 1 v19 fun v20 =>
 stP 1 v20 v9 h fun h =>
 K v8 h)
theorem q_ref1_Reader_Text (S : FuncId → List AVal → AHeap A → (AVal → AHeap A → Prop) → Prop) (G : Nat → AHeap A → List AVal → (List AVal → AHeap A → Prop) → Prop) (a0 : AVal) (h : AHeap A) (K : AVal → AHeap A → Prop) : funP Try.prog S G Try.f33 (.two none .leaf (.two none (.draw none (.take 0 (.take 1 (.take 2 (.take 4 (.take 5 (.take 6 (.load 3 (.alt 7 (.alt 8 (.take 9 (.take 10 (.take 11 (.take 12 (.take 13 (.take 14 (.take 15 .stop))))))) .stop) .stop))))))))) .leaf)) [a0] h K = p_ref1_Reader_Text S G a0 h K := by kernel_rfl
theorem c_ref1_Reader_Text {R : Adts A} {h : AHeap A} {K : AVal → AHeap A → Prop} {a0 : AVal} (hk : p_ref1_Reader_Text (Tri Pr R) (Gives Pr R) a0 h K) : Tri Pr R n_ref1_Reader_Text [a0] h K :=
  tri_of_funP (by kernel_rfl) (fun _ _ _ _ h => h) (fun _ _ _ _ h => h) Try.func33 (by rw [q_ref1_Reader_Text]; exact hk)
/-- bastion/bastionref1.GetEvent -/
def p_ref1_GetEvent (S : FuncId → List AVal → AHeap A → (AVal → AHeap A → Prop) → Prop) (G : Nat → AHeap A → List AVal → (List AVal → AHeap A → Prop) → Prop) (a0 : AVal) (h : AHeap A) (K : AVal → AHeap A → Prop) : Prop :=
 newP t_api_Event [.int .i64 0, .int .i64 0, .int .i64 0, .int .i64 0, .int .i64 0, .int .i64 0, .int .i64 0, .int .i64 0] h fun v1 h =>
 bldP [.str [], .int .i64 0, .bool false] [(0, 1, a0)] fun v2 =>
 boxP t_bastionref1_Reader 3 v2 h fun v3 h =>
 S n_ref1_Reader_Num [v3] h fun v4 h =>
 bldP [.int .i64 0, .int .i64 0, .int .i64 0, .int .i64 0, .int .i64 0, .int .i64 0, .int .i64 0, .int .i64 0] [(0, 1, v4)] fun v5 =>
 newP t_api_Event [.int .i64 0, .int .i64 0, .int .i64 0, .int .i64 0, .int .i64 0, .int .i64 0, .int .i64 0, .int .i64 0] h fun v6 h =>
 stP 8 v6 v5 h fun h =>
 joinP G h.length (fun k7 =>
 fadP 0 v6 fun v8 =>
 ldP 1 false v8 h fun v9 =>
 binP .eql .other v9 (.int .i64 0) fun v10 =>
 iteP v10
 (S n_ref1_Reader_Num [v3] h fun v11 h =>
 fadP 7 v6 fun v12 =>
 stP 1 v12 v11 h fun h =>
 k7 [] h)
 (binP .eql .other v9 (.int .i64 1) fun v13 =>
 iteP v13
 (S n_ref1_Reader_Num [v3] h fun v14 h =>
 fadP 1 v6 fun v15 =>
 stP 1 v15 v14 h fun h =>
 S n_ref1_Reader_Num [v3] h fun v16 h =>
 fadP 4 v6 fun v17 =>
 stP 1 v17 v16 h fun h =>
 S n_ref1_Reader_Num [v3] h fun v18 h =>
 fadP 5 v6 fun v19 =>
 stP 1 v19 v18 h fun h =>
 S n_ref1_Reader_Num [v3] h fun v20 h =>
 fadP 6 v6 fun v21 =>
 stP 1 v21 v20 h fun h =>
 k7 [] h)
 (binP .eql .other v9 (.int .i64 2) fun v22 =>
 iteP v22
 (S n_ref1_Reader_Num [v3] h fun v23 h =>
 fadP 1 v6 fun v24 =>
 stP 1 v24 v23 h fun h =>
 S n_ref1_Reader_Num [v3] h fun v25 h =>
 fadP 7 v6 fun v26 =>
 stP 1 v26 v25 h fun h =>
 k7 [] h)
 (binP .eql .other v9 (.int .i64 3) fun v27 =>
 iteP v27
 (S n_ref1_Reader_Num [v3] h fun v28 h =>
 fadP 1 v6 fun v29 =>
 stP 1 v29 v28 h fun h =>
 S n_ref1_Reader_Num [v3] h fun v30 h =>
 fadP 4 v6 fun v31 =>
 stP 1 v31 v30 h fun h =>
 k7 [] h)
 (joinP G h.length (fun k32 =>
 binP .eql .other v9 (.int .i64 4) fun v33 =>
 iteP v33
 (k32 [v33] h)
 (binP .eql .other v9 (.int .i64 7) fun v34 =>
 k32 [v34] h))
 (fun v59 h =>
 (fun v35 =>
 iteP v35
 (S n_ref1_Reader_Num [v3] h fun v36 h =>
 fadP 1 v6 fun v37 =>
 stP 1 v37 v36 h fun h =>
 k7 [] h)
 (binP .eql .other v9 (.int .i64 5) fun v38 =>
 iteP v38
 (S n_ref1_Reader_Num [v3] h fun v39 h =>
 fadP 2 v6 fun v40 =>
 stP 1 v40 v39 h fun h =>
 S n_ref1_Reader_Num [v3] h fun v41 h =>
 fadP 1 v6 fun v42 =>
 stP 1 v42 v41 h fun h =>
 S n_ref1_Reader_Num [v3] h fun v43 h =>
 fadP 3 v6 fun v44 =>
 stP 1 v44 v43 h fun h =>
 S n_ref1_Reader_Num [v3] h fun v45 h =>
 fadP 7 v6 fun v46 =>
 stP 1 v46 v45 h fun h =>
 k7 [] h)
 (binP .eql .other v9 (.int .i64 6) fun v47 =>
 iteP v47
 (S n_ref1_Reader_Num [v3] h fun v48 h =>
 fadP 2 v6 fun v49 =>
 stP 1 v49 v48 h fun h =>
 S n_ref1_Reader_Num [v3] h fun v50 h =>
 fadP 4 v6 fun v51 =>
 stP 1 v51 v50 h fun h =>
 S n_ref1_Reader_Num [v3] h fun v52 h =>
 fadP 5 v6 fun v53 =>
 stP 1 v53 v52 h fun h =>
 S n_ref1_Reader_Num [v3] h fun v54 h =>
 fadP 7 v6 fun v55 =>
 stP 1 v55 v54 h fun h =>
 k7 [] h)
 (binP .eql .other v9 (.int .i64 9) fun v56 =>
 iteP v56
 (S n_ref1_Reader_Num [v3] h fun v57 h =>
 fadP 2 v6 fun v58 =>
 stP 1 v58 v57 h fun h =>
 k7 [] h)
 (k7 [] h))))) (v59.getD 0 .any)))))))
 (fun _ h =>
 nilP v3 fun v60 =>
 fadP 2 v60 fun v61 =>
 ldP 1 false v61 h fun v62 =>
 condP v62 false (fun k63 =>
 nilP v3 fun v64 =>
 fadP 1 v64 fun v65 =>
 ldP 1 false v65 h fun v66 =>
 lnsP a0 fun v67 =>
 binP .neq .other v66 v67 fun v68 =>
 k63 v68 h)
 (.bool true) h fun v69 h =>
 condP v69 false (fun k70 =>
 ldP 8 true v6 h fun v71 =>
 S n_ref1_EventMay [v71] h fun v72 h =>
 notP v72 fun v73 =>
 k70 v73 h)
 (.bool true) h fun v74 h =>
 iteP v74
 (bldP [.int .i64 0, .int .i64 0, .int .i64 0, .int .i64 0, .int .i64 0, .int .i64 0, .int .i64 0, .int .i64 0] [] fun v75 =>
 stP 8 v1 v75 h fun h =>
 ldP 8 true v1 h fun v76 =>
 K (.tup [v76, .int .i64 700]) h)
 (ldP 8 true v6 h fun v77 =>
 stP 8 v1 v77 h fun h =>
 ldP 8 true v1 h fun v78 =>
 K (.tup [v78, .int .i64 0]) h))
theorem q_ref1_GetEvent (S : FuncId → List AVal → AHeap A → (AVal → AHeap A → Prop) → Prop) (G : Nat → AHeap A → List AVal → (List AVal → AHeap A → Prop) → Prop) (a0 : AVal) (h : AHeap A) (K : AVal → AHeap A → Prop) : funP Try.prog S G Try.f34 (.two none .leaf (.two none .leaf (.two none .leaf (.two (some []) (.two none .leaf (.one [] (.two none .leaf (.two none .leaf (.two none .leaf (.two none .leaf (.two none .leaf (.two none .leaf (.two none .leaf (.two none .leaf (.two (some [49]) .leaf .leaf))))))))))) .leaf)))) [a0] h K = p_ref1_GetEvent S G a0 h K := by kernel_rfl
theorem c_ref1_GetEvent {R : Adts A} {h : AHeap A} {K : AVal → AHeap A → Prop} {a0 : AVal} (hk : p_ref1_GetEvent (Tri Pr R) (Gives Pr R) a0 h K) : Tri Pr R n_ref1_GetEvent [a0] h K :=
  tri_of_funP (by kernel_rfl) (fun _ _ _ _ h => h) (fun _ _ _ _ h => h) Try.func34 (by rw [q_ref1_GetEvent]; exact hk)
/-- bastion/bastionref1.IsHash -/
def p_ref1_IsHash (S : FuncId → List AVal → AHeap A → (AVal → AHeap A → Prop) → Prop) (G : Nat → AHeap A → List AVal → (List AVal → AHeap A → Prop) → Prop) (a0 a1 a2 : AVal) (h : AHeap A) (K : AVal → AHeap A → Prop) : Prop :=
 binP .add .other (.str [72]) a1 fun v1 =>
 S n_ref1_Book_Find [a0, v1] h fun v2 h =>
 extP v2 0 fun v3 =>
 extP v2 1 fun v4 =>
 condP v4 true (fun k5 =>
 binP .eql .other v3 a2 fun v6 =>
 k5 v6 h)
 (.bool false) h fun v7 h =>
 K v7 h
theorem q_ref1_IsHash (S : FuncId → List AVal → AHeap A → (AVal → AHeap A → Prop) → Prop) (G : Nat → AHeap A → List AVal → (List AVal → AHeap A → Prop) → Prop) (a0 a1 a2 : AVal) (h : AHeap A) (K : AVal → AHeap A → Prop) : funP Try.prog S G Try.f35 .leaf [a0, a1, a2] h K = p_ref1_IsHash S G a0 a1 a2 h K := by kernel_rfl
theorem c_ref1_IsHash {R : Adts A} {h : AHeap A} {K : AVal → AHeap A → Prop} {a0 a1 a2 : AVal} (hk : p_ref1_IsHash (Tri Pr R) (Gives Pr R) a0 a1 a2 h K) : Tri Pr R n_ref1_IsHash [a0, a1, a2] h K :=
  tri_of_funP (by kernel_rfl) (fun _ _ _ _ h => h) (fun _ _ _ _ h => h) Try.func35 (by rw [q_ref1_IsHash]; exact hk)
/-- (*bastion/book.Book).Term -/
def p_book_Book_Term (S : FuncId → List AVal → AHeap A → (AVal → AHeap A → Prop) → Prop) (G : Nat → AHeap A → List AVal → (List AVal → AHeap A → Prop) → Prop) (a0 a1 : AVal) (h : AHeap A) (K : AVal → AHeap A → Prop) : Prop :=
 binP .eql .ptr a0 .nilp fun v1 =>
 iteP v1
 (K (.tup [.str [], .int .i64 1]) h)
 (binP .lss .other a1 (.int .i64 0) fun v2 =>
 condP v2 false (fun k3 =>
 nilP a0 fun v4 =>
 fadP 1 v4 fun v5 =>
 ldP 1 false v5 h fun v6 =>
 lenP v6 fun v7 =>
 binP .geq .other a1 v7 fun v8 =>
 k3 v8 h)
 (.bool true) h fun v9 h =>
 iteP v9
 (K (.tup [.str [], .int .i64 202]) h)
 (nilP a0 fun v10 =>
 fadP 1 v10 fun v11 =>
 ldP 1 false v11 h fun v12 =>
 idxP 1 v12 a1 fun v13 =>
 ldP 1 false v13 h fun v14 =>
 K (.tup [v14, .int .i64 0]) h))
theorem q_book_Book_Term (S : FuncId → List AVal → AHeap A → (AVal → AHeap A → Prop) → Prop) (G : Nat → AHeap A → List AVal → (List AVal → AHeap A → Prop) → Prop) (a0 a1 : AVal) (h : AHeap A) (K : AVal → AHeap A → Prop) : funP Try.prog S G Try.f36 .leaf [a0, a1] h K = p_book_Book_Term S G a0 a1 h K := by kernel_rfl
theorem c_book_Book_Term {R : Adts A} {h : AHeap A} {K : AVal → AHeap A → Prop} {a0 a1 : AVal} (hk : p_book_Book_Term (Tri Pr R) (Gives Pr R) a0 a1 h K) : Tri Pr R n_book_Book_Term [a0, a1] h K :=
  tri_of_funP (by kernel_rfl) (fun _ _ _ _ h => h) (fun _ _ _ _ h => h) Try.func36 (by rw [q_book_Book_Term]; exact hk)
/-- bastion/event.Put -/
def p_event_Put (S : FuncId → List AVal → AHeap A → (AVal → AHeap A → Prop) → Prop) (G : Nat → AHeap A → List AVal → (List AVal → AHeap A → Prop) → Prop) (a0 : AVal) (h : AHeap A) (K : AVal → AHeap A → Prop) : Prop :=
 boxP t_api_Event 8 a0 h fun v1 h =>
 ldP 8 true v1 h fun v2 =>
 S n_event_May [v2] h fun v3 h =>
 notP v3 fun v4 =>
 iteP v4
 (K (.tup [.str [], .int .i64 700]) h)
 (fadP 0 v1 fun v5 =>
 ldP 1 false v5 h fun v6 =>
 S n_field_Num [v6] h fun v7 h =>
 extP v7 0 fun v8 =>
 extP v7 1 fun v9 =>
 S n_event_parts [v1] h fun v10 h =>
 lenP v10 fun v11 =>
 loopP G (fun v25 h k14 =>
 (fun v12 v13 =>
 binP .lss .other v13 v11 fun v15 =>
 iteP v15
 (idxP 1 v10 v13 fun v16 =>
 ldP 1 false v16 h fun v17 =>
 nilP v17 fun v18 =>
 ldP 1 false v18 h fun v19 =>
 S n_field_Num [v19] h fun v20 h =>
 extP v20 0 fun v21 =>
 extP v20 1 fun v22 =>
 binP .add .other v12 v21 fun v23 =>
 binP .add .other v13 (.int .i64 1) fun v24 =>
 k14 [v23, v24] h)
 (K (.tup [v12, .int .i64 0]) h)) (v25.getD 0 .any) (v25.getD 1 .any)) [v8, .int .i64 0] h)
theorem q_event_Put (S : FuncId → List AVal → AHeap A → (AVal → AHeap A → Prop) → Prop) (G : Nat → AHeap A → List AVal → (List AVal → AHeap A → Prop) → Prop) (a0 : AVal) (h : AHeap A) (K : AVal → AHeap A → Prop) : funP Try.prog S G Try.f37 (.two none .leaf (.two none .leaf (.two none .leaf (.two none (.two none .leaf (.one [] (.one [4, 21] .leaf))) .leaf)))) [a0] h K = p_event_Put S G a0 h K := by kernel_rfl
theorem c_event_Put {R : Adts A} {h : AHeap A} {K : AVal → AHeap A → Prop} {a0 : AVal} (hk : p_event_Put (Tri Pr R) (Gives Pr R) a0 h K) : Tri Pr R n_event_Put [a0] h K :=
  tri_of_funP (by kernel_rfl) (fun _ _ _ _ h => h) (fun _ _ _ _ h => h) Try.func37 (by rw [q_event_Put]; exact hk)
/-- bastion/field.All -/
def p_field_All (S : FuncId → List AVal → AHeap A → (AVal → AHeap A → Prop) → Prop) (G : Nat → AHeap A → List AVal → (List AVal → AHeap A → Prop) → Prop) (a0 : AVal) (h : AHeap A) (K : AVal → AHeap A → Prop) : Prop :=
 lenP a0 fun v1 =>
 loopP G (fun v14 h k4 =>
 (fun v2 v3 =>
 binP .lss .other v3 v1 fun v5 =>
 iteP v5
 (idxP 1 a0 v3 fun v6 =>
 ldP 1 false v6 h fun v7 =>
 S n_field_Num [v7] h fun v8 h =>
 extP v8 0 fun v9 =>
 extP v8 1 fun v10 =>
 binP .neq .other v10 (.int .i64 0) fun v11 =>
 iteP v11
 (K (.tup [.str [], .bool false]) h)
 (binP .add .other v2 v9 fun v12 =>
 binP .add .other v3 (.int .i64 1) fun v13 =>
 k4 [v12, v13] h))
 (K (.tup [v2, .bool true]) h)) (v14.getD 0 .any) (v14.getD 1 .any)) [.str [], .int .i64 0] h
theorem q_field_All (S : FuncId → List AVal → AHeap A → (AVal → AHeap A → Prop) → Prop) (G : Nat → AHeap A → List AVal → (List AVal → AHeap A → Prop) → Prop) (a0 : AVal) (h : AHeap A) (K : AVal → AHeap A → Prop) : funP Try.prog S G Try.f38 (.two none .leaf (.two none .leaf (.two none (.two none .leaf (.one [] (.one [4, 11] .leaf))) .leaf))) [a0] h K = p_field_All S G a0 h K := by kernel_rfl
theorem c_field_All {R : Adts A} {h : AHeap A} {K : AVal → AHeap A → Prop} {a0 : AVal} (hk : p_field_All (Tri Pr R) (Gives Pr R) a0 h K) : Tri Pr R n_field_All [a0] h K :=
  tri_of_funP (by kernel_rfl) (fun _ _ _ _ h => h) (fun _ _ _ _ h => h) Try.func38 (by rw [q_field_All]; exact hk)
/-- bastion/field.Text -/
def p_field_Text (S : FuncId → List AVal → AHeap A → (AVal → AHeap A → Prop) → Prop) (G : Nat → AHeap A → List AVal → (List AVal → AHeap A → Prop) → Prop) (a0 : AVal) (h : AHeap A) (K : AVal → AHeap A → Prop) : Prop :=
 lnsP a0 fun v1 =>
 binP .gtr .other v1 (.int .i64 65536) fun v2 =>
 iteP v2
 (K (.tup [.str [], .int .i64 100]) h)
 (lnsP a0 fun v3 =>
 S n_field_Num [v3] h fun v4 h =>
 extP v4 0 fun v5 =>
 extP v4 1 fun v6 =>
 binP .add .other v5 a0 fun v7 =>
 K (.tup [v7, v6]) h)
theorem q_field_Text (S : FuncId → List AVal → AHeap A → (AVal → AHeap A → Prop) → Prop) (G : Nat → AHeap A → List AVal → (List AVal → AHeap A → Prop) → Prop) (a0 : AVal) (h : AHeap A) (K : AVal → AHeap A → Prop) : funP Try.prog S G Try.f39 .leaf [a0] h K = p_field_Text S G a0 h K := by kernel_rfl
theorem c_field_Text {R : Adts A} {h : AHeap A} {K : AVal → AHeap A → Prop} {a0 : AVal} (hk : p_field_Text (Tri Pr R) (Gives Pr R) a0 h K) : Tri Pr R n_field_Text [a0] h K :=
  tri_of_funP (by kernel_rfl) (fun _ _ _ _ h => h) (fun _ _ _ _ h => h) Try.func39 (by rw [q_field_Text]; exact hk)
/-- bastion/craft.named -/
def p_craft_named (S : FuncId → List AVal → AHeap A → (AVal → AHeap A → Prop) → Prop) (G : Nat → AHeap A → List AVal → (List AVal → AHeap A → Prop) → Prop) (a0 a1 a2 : AVal) (h : AHeap A) (K : AVal → AHeap A → Prop) : Prop :=
 binP .eql .ptr a0 .nilp fun v1 =>
 iteP v1
 (K (.tup [.int .i64 0, .int .i64 1]) h)
 (notP a2 fun v2 =>
 iteP v2
 (K (.tup [.int .i64 0, .int .i64 300]) h)
 (S n_book_Book_Name [a0, a1] h fun v3 h =>
 extP v3 0 fun v4 =>
 extP v3 1 fun v5 =>
 binP .neq .other v5 (.int .i64 0) fun v6 =>
 iteP v6
 (K (.tup [.int .i64 0, .int .i64 300]) h)
 (K (.tup [v4, .int .i64 0]) h)))
theorem q_craft_named (S : FuncId → List AVal → AHeap A → (AVal → AHeap A → Prop) → Prop) (G : Nat → AHeap A → List AVal → (List AVal → AHeap A → Prop) → Prop) (a0 a1 a2 : AVal) (h : AHeap A) (K : AVal → AHeap A → Prop) : funP Try.prog S G Try.f40 .leaf [a0, a1, a2] h K = p_craft_named S G a0 a1 a2 h K := by kernel_rfl
theorem c_craft_named {R : Adts A} {h : AHeap A} {K : AVal → AHeap A → Prop} {a0 a1 a2 : AVal} (hk : p_craft_named (Tri Pr R) (Gives Pr R) a0 a1 a2 h K) : Tri Pr R n_craft_named [a0, a1, a2] h K :=
  tri_of_funP (by kernel_rfl) (fun _ _ _ _ h => h) (fun _ _ _ _ h => h) Try.func40 (by rw [q_craft_named]; exact hk)
/-- bastion/field.NumMay -/
def p_field_NumMay (S : FuncId → List AVal → AHeap A → (AVal → AHeap A → Prop) → Prop) (G : Nat → AHeap A → List AVal → (List AVal → AHeap A → Prop) → Prop) (a0 : AVal) (h : AHeap A) (K : AVal → AHeap A → Prop) : Prop :=
 binP .geq .other a0 (.int .i64 0) fun v1 =>
 condP v1 true (fun k2 =>
 binP .leq .other a0 (.int .i64 1073741823) fun v3 =>
 k2 v3 h)
 (.bool false) h fun v4 h =>
 K v4 h
theorem q_field_NumMay (S : FuncId → List AVal → AHeap A → (AVal → AHeap A → Prop) → Prop) (G : Nat → AHeap A → List AVal → (List AVal → AHeap A → Prop) → Prop) (a0 : AVal) (h : AHeap A) (K : AVal → AHeap A → Prop) : funP Try.prog S G Try.f41 .leaf [a0] h K = p_field_NumMay S G a0 h K := by kernel_rfl
theorem c_field_NumMay {R : Adts A} {h : AHeap A} {K : AVal → AHeap A → Prop} {a0 : AVal} (hk : p_field_NumMay (Tri Pr R) (Gives Pr R) a0 h K) : Tri Pr R n_field_NumMay [a0] h K :=
  tri_of_funP (by kernel_rfl) (fun _ _ _ _ h => h) (fun _ _ _ _ h => h) Try.func41 (by rw [q_field_NumMay]; exact hk)
/-- bastion/field.width -/
def p_field_width (S : FuncId → List AVal → AHeap A → (AVal → AHeap A → Prop) → Prop) (G : Nat → AHeap A → List AVal → (List AVal → AHeap A → Prop) → Prop) (a0 : AVal) (h : AHeap A) (K : AVal → AHeap A → Prop) : Prop :=
 loopP G (fun v7 h k3 =>
 (fun v1 v2 =>
 binP .gtr .other v1 (.int .i64 0) fun v4 =>
 iteP v4
 (binP .add .other v2 (.int .i64 1) fun v5 =>
 binP .shr .other v1 (.int .u64 8) fun v6 =>
 k3 [v6, v5] h)
 (K v2 h)) (v7.getD 0 .any) (v7.getD 1 .any)) [a0, .int .i64 0] h
theorem q_field_width (S : FuncId → List AVal → AHeap A → (AVal → AHeap A → Prop) → Prop) (G : Nat → AHeap A → List AVal → (List AVal → AHeap A → Prop) → Prop) (a0 : AVal) (h : AHeap A) (K : AVal → AHeap A → Prop) : funP Try.prog S G Try.f42 (.two none .leaf (.two none .leaf (.two none (.one [] (.one [0, 3] .leaf)) .leaf))) [a0] h K = p_field_width S G a0 h K := by kernel_rfl
theorem c_field_width {R : Adts A} {h : AHeap A} {K : AVal → AHeap A → Prop} {a0 : AVal} (hk : p_field_width (Tri Pr R) (Gives Pr R) a0 h K) : Tri Pr R n_field_width [a0] h K :=
  tri_of_funP (by kernel_rfl) (fun _ _ _ _ h => h) (fun _ _ _ _ h => h) Try.func42 (by rw [q_field_width]; exact hk)
/-- (*bastion/field.Reader).Num -/
def p_field_Reader_Num (S : FuncId → List AVal → AHeap A → (AVal → AHeap A → Prop) → Prop) (G : Nat → AHeap A → List AVal → (List AVal → AHeap A → Prop) → Prop) (a0 : AVal) (h : AHeap A) (K : AVal → AHeap A → Prop) : Prop :=
 nilP a0 fun v1 =>
 fadP 2 v1 fun v2 =>
 ldP 1 false v2 h fun v3 =>
 binP .neq .ifc v3 .nili fun v4 =>
 iteP v4
 (K (.int .i64 0) h)
 (nilP a0 fun v5 =>
 fadP 0 v5 fun v6 =>
 nilP a0 fun v7 =>
 fadP 1 v7 fun v8 =>
 ldP 1 false v6 h fun v9 =>
 ldP 1 false v8 h fun v10 =>
 ldV 1 false v6 h = some v9 ∧
 S n_field_num [v9, v10] h fun v11 h =>
 extP v11 0 fun v12 =>
 extP v11 1 fun v13 =>
 extP v11 2 fun v14 =>
 nilP a0 fun v15 =>
 fadP 1 v15 fun v16 =>
 stP 1 v16 v13 h fun h =>
 nilP a0 fun v17 =>
 fadP 2 v17 fun v18 =>
 stP 1 v18 v14 h fun h =>
 K v12 h)
theorem q_field_Reader_Num (S : FuncId → List AVal → AHeap A → (AVal → AHeap A → Prop) → Prop) (G : Nat → AHeap A → List AVal → (List AVal → AHeap A → Prop) → Prop) (a0 : AVal) (h : AHeap A) (K : AVal → AHeap A → Prop) : funP Try.prog S G Try.f43 (.two none .leaf (.two none .leaf (.two none (.draw none (.take 0 (.take 1 (.take 2 (.take 4 (.take 5 (.take 6 (.load 3 (.alt 7 (.alt 8 (.take 9 (.take 10 (.take 11 (.take 12 (.take 13 (.take 14 (.take 15 .stop))))))) .stop) .stop))))))))) .leaf))) [a0] h K = p_field_Reader_Num S G a0 h K := by kernel_rfl
theorem c_field_Reader_Num {R : Adts A} {h : AHeap A} {K : AVal → AHeap A → Prop} {a0 : AVal} (hk : p_field_Reader_Num (Tri Pr R) (Gives Pr R) a0 h K) : Tri Pr R n_field_Reader_Num [a0] h K :=
  tri_of_funP (by kernel_rfl) (fun _ _ _ _ h => h) (fun _ _ _ _ h => h) Try.func43 (by rw [q_field_Reader_Num]; exact hk)
/-- bastion/event.Get -/
def p_event_Get (S : FuncId → List AVal → AHeap A → (AVal → AHeap A → Prop) → Prop) (G : Nat → AHeap A → List AVal → (List AVal → AHeap A → Prop) → Prop) (a0 : AVal) (h : AHeap A) (K : AVal → AHeap A → Prop) : Prop :=
 newP t_api_Event [.int .i64 0, .int .i64 0, .int .i64 0, .int .i64 0, .int .i64 0, .int .i64 0, .int .i64 0, .int .i64 0] h fun v1 h =>
 bldP [.str [], .int .i64 0, .nili] [(0, 1, a0)] fun v2 =>
 boxP t_field_Reader 3 v2 h fun v3 h =>
 S n_field_Reader_Num [v3] h fun v4 h =>
 bldP [.int .i64 0, .int .i64 0, .int .i64 0, .int .i64 0, .int .i64 0, .int .i64 0, .int .i64 0, .int .i64 0] [(0, 1, v4)] fun v5 =>
 newP t_api_Event [.int .i64 0, .int .i64 0, .int .i64 0, .int .i64 0, .int .i64 0, .int .i64 0, .int .i64 0, .int .i64 0] h fun v6 h =>
 stP 8 v6 v5 h fun h =>
 S n_event_parts [v6] h fun v7 h =>
 lenP v7 fun v8 =>
 loopP G (fun v28 h k10 =>
 (fun v9 =>
 binP .lss .other v9 v8 fun v11 =>
 iteP v11
 (idxP 1 v7 v9 fun v12 =>
 ldP 1 false v12 h fun v13 =>
 S n_field_Reader_Num [v3] h fun v14 h =>
 nilP v13 fun v15 =>
 stP 1 v15 v14 h fun h =>
 binP .add .other v9 (.int .i64 1) fun v16 =>
 k10 [v16] h)
 (S n_field_Reader_Done [v3] h fun v17 h =>
 notP v17 fun v18 =>
 condP v18 false (fun k19 =>
 ldP 8 true v6 h fun v20 =>
 S n_event_May [v20] h fun v21 h =>
 notP v21 fun v22 =>
 k19 v22 h)
 (.bool true) h fun v23 h =>
 iteP v23
 (bldP [.int .i64 0, .int .i64 0, .int .i64 0, .int .i64 0, .int .i64 0, .int .i64 0, .int .i64 0, .int .i64 0] [] fun v24 =>
 stP 8 v1 v24 h fun h =>
 ldP 8 true v1 h fun v25 =>
 K (.tup [v25, .int .i64 700]) h)
 (ldP 8 true v6 h fun v26 =>
 stP 8 v1 v26 h fun h =>
 ldP 8 true v1 h fun v27 =>
 K (.tup [v27, .int .i64 0]) h))) (v28.getD 0 .any)) [.int .i64 0] h
theorem q_event_Get (S : FuncId → List AVal → AHeap A → (AVal → AHeap A → Prop) → Prop) (G : Nat → AHeap A → List AVal → (List AVal → AHeap A → Prop) → Prop) (a0 : AVal) (h : AHeap A) (K : AVal → AHeap A → Prop) : funP Try.prog S G Try.f44 (.two none .leaf (.two none .leaf (.two none .leaf (.two none (.two none .leaf (.one [] (.one [16] .leaf))) .leaf)))) [a0] h K = p_event_Get S G a0 h K := by kernel_rfl
theorem c_event_Get {R : Adts A} {h : AHeap A} {K : AVal → AHeap A → Prop} {a0 : AVal} (hk : p_event_Get (Tri Pr R) (Gives Pr R) a0 h K) : Tri Pr R n_event_Get [a0] h K :=
  tri_of_funP (by kernel_rfl) (fun _ _ _ _ h => h) (fun _ _ _ _ h => h) Try.func44 (by rw [q_event_Get]; exact hk)
/-- (*bastion/field.Reader).Text -/
def p_field_Reader_Text (S : FuncId → List AVal → AHeap A → (AVal → AHeap A → Prop) → Prop) (G : Nat → AHeap A → List AVal → (List AVal → AHeap A → Prop) → Prop) (a0 : AVal) (h : AHeap A) (K : AVal → AHeap A → Prop) : Prop :=
 nilP a0 fun v1 =>
 fadP 2 v1 fun v2 =>
 ldP 1 false v2 h fun v3 =>
 binP .neq .ifc v3 .nili fun v4 =>
 iteP v4
 (K (.str []) h)
 (nilP a0 fun v5 =>
 fadP 0 v5 fun v6 =>
 nilP a0 fun v7 =>
 fadP 1 v7 fun v8 =>
 ldP 1 false v6 h fun v9 =>
 ldP 1 false v8 h fun v10 =>
 ldV 1 false v6 h = some v9 ∧
 S n_field_text [v9, v10] h fun v11 h =>
 extP v11 0 fun v12 =>
 extP v11 1 fun v13 =>
 extP v11 2 fun v14 =>
 nilP a0 fun v15 =>
 fadP 1 v15 fun v16 =>
 stP 1 v16 v13 h fun h =>
 nilP a0 fun v17 =>
 fadP 2 v17 fun v18 =>
 stP 1 v18 v14 h fun h =>
 K v12 h)
theorem q_field_Reader_Text (S : FuncId → List AVal → AHeap A → (AVal → AHeap A → Prop) → Prop) (G : Nat → AHeap A → List AVal → (List AVal → AHeap A → Prop) → Prop) (a0 : AVal) (h : AHeap A) (K : AVal → AHeap A → Prop) : funP Try.prog S G Try.f45 (.two none .leaf (.two none .leaf (.two none (.draw none (.take 0 (.take 1 (.take 2 (.take 4 (.take 5 (.take 6 (.load 3 (.alt 7 (.alt 8 (.take 9 (.take 10 (.take 11 (.take 12 (.take 13 (.take 14 (.take 15 .stop))))))) .stop) .stop))))))))) .leaf))) [a0] h K = p_field_Reader_Text S G a0 h K := by kernel_rfl
theorem c_field_Reader_Text {R : Adts A} {h : AHeap A} {K : AVal → AHeap A → Prop} {a0 : AVal} (hk : p_field_Reader_Text (Tri Pr R) (Gives Pr R) a0 h K) : Tri Pr R n_field_Reader_Text [a0] h K :=
  tri_of_funP (by kernel_rfl) (fun _ _ _ _ h => h) (fun _ _ _ _ h => h) Try.func45 (by rw [q_field_Reader_Text]; exact hk)
/-- bastion/craft.IsHash -/
def p_craft_IsHash (S : FuncId → List AVal → AHeap A → (AVal → AHeap A → Prop) → Prop) (G : Nat → AHeap A → List AVal → (List AVal → AHeap A → Prop) → Prop) (a0 a1 a2 : AVal) (h : AHeap A) (K : AVal → AHeap A → Prop) : Prop :=
 binP .add .other (.str [72]) a1 fun v1 =>
 S n_craft_is [a0, v1, a2] h fun v2 h =>
 K v2 h
theorem q_craft_IsHash (S : FuncId → List AVal → AHeap A → (AVal → AHeap A → Prop) → Prop) (G : Nat → AHeap A → List AVal → (List AVal → AHeap A → Prop) → Prop) (a0 a1 a2 : AVal) (h : AHeap A) (K : AVal → AHeap A → Prop) : funP Try.prog S G Try.f46 .leaf [a0, a1, a2] h K = p_craft_IsHash S G a0 a1 a2 h K := by kernel_rfl
theorem c_craft_IsHash {R : Adts A} {h : AHeap A} {K : AVal → AHeap A → Prop} {a0 a1 a2 : AVal} (hk : p_craft_IsHash (Tri Pr R) (Gives Pr R) a0 a1 a2 h K) : Tri Pr R n_craft_IsHash [a0, a1, a2] h K :=
  tri_of_funP (by kernel_rfl) (fun _ _ _ _ h => h) (fun _ _ _ _ h => h) Try.func46 (by rw [q_craft_IsHash]; exact hk)
/-- (*bastion/bastionref1.Book).Find -/
def p_ref1_Book_Find (S : FuncId → List AVal → AHeap A → (AVal → AHeap A → Prop) → Prop) (G : Nat → AHeap A → List AVal → (List AVal → AHeap A → Prop) → Prop) (a0 a1 : AVal) (h : AHeap A) (K : AVal → AHeap A → Prop) : Prop :=
 loopP G (fun v15 h k2 =>
 (fun v1 =>
 nilP a0 fun v3 =>
 fadP 1 v3 fun v4 =>
 ldP 1 false v4 h fun v5 =>
 lenP v5 fun v6 =>
 binP .lss .other v1 v6 fun v7 =>
 iteP v7
 (nilP a0 fun v8 =>
 fadP 1 v8 fun v9 =>
 ldP 1 false v9 h fun v10 =>
 idxP 1 v10 v1 fun v11 =>
 ldP 1 false v11 h fun v12 =>
 binP .eql .other v12 a1 fun v13 =>
 iteP v13
 (K (.tup [v1, .bool true]) h)
 (binP .add .other v1 (.int .i64 1) fun v14 =>
 k2 [v14] h))
 (K (.tup [.int .i64 0, .bool false]) h)) (v15.getD 0 .any)) [.int .i64 0] h
theorem q_ref1_Book_Find (S : FuncId → List AVal → AHeap A → (AVal → AHeap A → Prop) → Prop) (G : Nat → AHeap A → List AVal → (List AVal → AHeap A → Prop) → Prop) (a0 a1 : AVal) (h : AHeap A) (K : AVal → AHeap A → Prop) : funP Try.prog S G Try.f47 (.two none .leaf (.two none (.two none .leaf (.one [] (.one [6] .leaf))) .leaf)) [a0, a1] h K = p_ref1_Book_Find S G a0 a1 h K := by kernel_rfl
theorem c_ref1_Book_Find {R : Adts A} {h : AHeap A} {K : AVal → AHeap A → Prop} {a0 a1 : AVal} (hk : p_ref1_Book_Find (Tri Pr R) (Gives Pr R) a0 a1 h K) : Tri Pr R n_ref1_Book_Find [a0, a1] h K :=
  tri_of_funP (by kernel_rfl) (fun _ _ _ _ h => h) (fun _ _ _ _ h => h) Try.func47 (by rw [q_ref1_Book_Find]; exact hk)
/-- bastion/bastionref1.EventMay -/
def p_ref1_EventMay (S : FuncId → List AVal → AHeap A → (AVal → AHeap A → Prop) → Prop) (G : Nat → AHeap A → List AVal → (List AVal → AHeap A → Prop) → Prop) (a0 : AVal) (h : AHeap A) (K : AVal → AHeap A → Prop) : Prop :=
 boxP t_api_Event 8 a0 h fun v1 h =>
 ldP 8 true v1 h fun v2 =>
 S n_ref1_part [v2] h fun v3 h =>
 extP v3 0 fun v4 =>
 extP v3 1 fun v5 =>
 newP t_api_Event [.int .i64 0, .int .i64 0, .int .i64 0, .int .i64 0, .int .i64 0, .int .i64 0, .int .i64 0, .int .i64 0] h fun v6 h =>
 stP 8 v6 v4 h fun h =>
 notP v5 fun v7 =>
 condP v7 false (fun k8 =>
 ldP 8 true v6 h fun v9 =>
 ldP 8 true v1 h fun v10 =>
 binP .neq (.shape (.st [(0, 1, .i), (1, 1, .i), (2, 1, .i), (3, 1, .i), (4, 1, .i), (5, 1, .i), (6, 1, .i), (7, 1, .i)])) v9 v10 fun v11 =>
 k8 v11 h)
 (.bool true) h fun v12 h =>
 condP v12 false (fun k13 =>
 fadP 1 v1 fun v14 =>
 ldP 1 false v14 h fun v15 =>
 binP .lss .other v15 (.int .i64 0) fun v16 =>
 k13 v16 h)
 (.bool true) h fun v17 h =>
 condP v17 false (fun k18 =>
 fadP 1 v1 fun v19 =>
 ldP 1 false v19 h fun v20 =>
 binP .geq .other v20 (.int .i64 8) fun v21 =>
 k18 v21 h)
 (.bool true) h fun v22 h =>
 condP v22 false (fun k23 =>
 fadP 3 v1 fun v24 =>
 ldP 1 false v24 h fun v25 =>
 binP .lss .other v25 (.int .i64 0) fun v26 =>
 k23 v26 h)
 (.bool true) h fun v27 h =>
 condP v27 false (fun k28 =>
 fadP 3 v1 fun v29 =>
 ldP 1 false v29 h fun v30 =>
 binP .geq .other v30 (.int .i64 16) fun v31 =>
 k28 v31 h)
 (.bool true) h fun v32 h =>
 condP v32 false (fun k33 =>
 fadP 7 v1 fun v34 =>
 ldP 1 false v34 h fun v35 =>
 binP .lss .other v35 (.int .i64 0) fun v36 =>
 k33 v36 h)
 (.bool true) h fun v37 h =>
 condP v37 false (fun k38 =>
 fadP 7 v1 fun v39 =>
 ldP 1 false v39 h fun v40 =>
 binP .gtr .other v40 (.int .i64 1048575) fun v41 =>
 k38 v41 h)
 (.bool true) h fun v42 h =>
 condP v42 false (fun k43 =>
 fadP 2 v1 fun v44 =>
 ldP 1 false v44 h fun v45 =>
 S n_ref1_num [v45] h fun v46 h =>
 notP v46 fun v47 =>
 k43 v47 h)
 (.bool true) h fun v48 h =>
 condP v48 false (fun k49 =>
 fadP 4 v1 fun v50 =>
 ldP 1 false v50 h fun v51 =>
 S n_ref1_num [v51] h fun v52 h =>
 notP v52 fun v53 =>
 k49 v53 h)
 (.bool true) h fun v54 h =>
 condP v54 false (fun k55 =>
 fadP 5 v1 fun v56 =>
 ldP 1 false v56 h fun v57 =>
 S n_ref1_num [v57] h fun v58 h =>
 notP v58 fun v59 =>
 k55 v59 h)
 (.bool true) h fun v60 h =>
 condP v60 false (fun k61 =>
 fadP 6 v1 fun v62 =>
 ldP 1 false v62 h fun v63 =>
 binP .lss .other v63 (.int .i64 0) fun v64 =>
 k61 v64 h)
 (.bool true) h fun v65 h =>
 condP v65 false (fun k66 =>
 fadP 6 v1 fun v67 =>
 ldP 1 false v67 h fun v68 =>
 binP .gtr .other v68 (.int .i64 1048576) fun v69 =>
 k66 v69 h)
 (.bool true) h fun v70 h =>
 iteP v70
 (K (.bool false) h)
 (fadP 0 v1 fun v71 =>
 ldP 1 false v71 h fun v72 =>
 binP .neq .other v72 (.int .i64 6) fun v73 =>
 condP v73 false (fun k74 =>
 fadP 5 v1 fun v75 =>
 ldP 1 false v75 h fun v76 =>
 binP .leq .other v76 (.int .i64 4) fun v77 =>
 k74 v77 h)
 (.bool true) h fun v78 h =>
 K v78 h)
theorem q_ref1_EventMay (S : FuncId → List AVal → AHeap A → (AVal → AHeap A → Prop) → Prop) (G : Nat → AHeap A → List AVal → (List AVal → AHeap A → Prop) → Prop) (a0 : AVal) (h : AHeap A) (K : AVal → AHeap A → Prop) : funP Try.prog S G Try.f48 .leaf [a0] h K = p_ref1_EventMay S G a0 h K := by kernel_rfl
theorem c_ref1_EventMay {R : Adts A} {h : AHeap A} {K : AVal → AHeap A → Prop} {a0 : AVal} (hk : p_ref1_EventMay (Tri Pr R) (Gives Pr R) a0 h K) : Tri Pr R n_ref1_EventMay [a0] h K :=
  tri_of_funP (by kernel_rfl) (fun _ _ _ _ h => h) (fun _ _ _ _ h => h) Try.func48 (by rw [q_ref1_EventMay]; exact hk)
/-- bastion/bastionref1.Num -/
def p_ref1_Num (S : FuncId → List AVal → AHeap A → (AVal → AHeap A → Prop) → Prop) (G : Nat → AHeap A → List AVal → (List AVal → AHeap A → Prop) → Prop) (a0 : AVal) (h : AHeap A) (K : AVal → AHeap A → Prop) : Prop :=
 S n_ref1_num [a0] h fun v1 h =>
 notP v1 fun v2 =>
 iteP v2
 (K (.tup [.str [], .int .i64 100]) h)
 (loopP G (fun v28 h k5 =>
 (fun v3 v4 =>
 binP .geq .other v4 (.int .i64 0) fun v6 =>
 iteP v6
 (joinP G h.length (fun k7 =>
 binP .mul .other (.int .i64 8) v4 fun v8 =>
 cviP .u64 v8 fun v9 =>
 binP .shr .other a0 v9 fun v10 =>
 cviP .u8 v10 fun v11 =>
 binP .neq .other v11 (.int .u8 0) fun v12 =>
 condP v12 false (fun k13 =>
 lenP v3 fun v14 =>
 binP .gtr .other v14 (.int .i64 0) fun v15 =>
 k13 v15 h)
 (.bool true) h fun v16 h =>
 iteP v16
 (bslP t_uint8 1 [.int .u8 0] [(0, 1, v11)] h fun v17 h =>
 appP t_uint8 1 1 v3 v17 h fun v18 h =>
 k7 [v18] h)
 (k7 [v3] h))
 (fun v21 h =>
 (fun v19 =>
 binP .sub .other v4 (.int .i64 1) fun v20 =>
 k5 [v19, v20] h) (v21.getD 0 .any)))
 (lenP v3 fun v22 =>
 cviP .u8 v22 fun v23 =>
 bslP t_uint8 1 [.int .u8 0] [(0, 1, v23)] h fun v24 h =>
 b2sP v24 h fun v25 =>
 b2sP v3 h fun v26 =>
 binP .add .other v25 v26 fun v27 =>
 K (.tup [v27, .int .i64 0]) h)) (v28.getD 0 .any) (v28.getD 1 .any)) [.nils, .int .i64 3] h)
theorem q_ref1_Num (S : FuncId → List AVal → AHeap A → (AVal → AHeap A → Prop) → Prop) (G : Nat → AHeap A → List AVal → (List AVal → AHeap A → Prop) → Prop) (a0 : AVal) (h : AHeap A) (K : AVal → AHeap A → Prop) : funP Try.prog S G Try.f49 (.two none .leaf (.two none .leaf (.two none .leaf (.two none (.two none .leaf (.one [] (.one [4, 5] (.two none .leaf (.two (some [4]) .leaf .leaf))))) .leaf)))) [a0] h K = p_ref1_Num S G a0 h K := by kernel_rfl
theorem c_ref1_Num {R : Adts A} {h : AHeap A} {K : AVal → AHeap A → Prop} {a0 : AVal} (hk : p_ref1_Num (Tri Pr R) (Gives Pr R) a0 h K) : Tri Pr R n_ref1_Num [a0] h K :=
  tri_of_funP (by kernel_rfl) (fun _ _ _ _ h => h) (fun _ _ _ _ h => h) Try.func49 (by rw [q_ref1_Num]; exact hk)
end Go.AI
