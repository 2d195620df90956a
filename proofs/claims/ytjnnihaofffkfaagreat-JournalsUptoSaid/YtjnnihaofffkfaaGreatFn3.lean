/- The functions as texts over the abstract heap. -/
import Derived.Test.YtjnnihaofffkfaaGreatNm
import Derived.KernelRfl
set_option linter.all false
namespace Go.AI
open Go.Proofs
set_option maxRecDepth 1000000
variable {A : Type}
/-- bastion/bastionref1.GetSuper -/
def p_ref1_GetSuper (S : FuncId → List AVal → AHeap A → (AVal → AHeap A → Prop) → Prop) (G : Nat → AHeap A → List AVal → (List AVal → AHeap A → Prop) → Prop) (a0 a1 : AVal) (h : AHeap A) (K : AVal → AHeap A → Prop) : Prop :=
 bldP [.str [], .int .i64 0, .bool false] [(0, 1, a1)] fun v1 =>
 boxP t_bastionref1_Reader 3 v1 h fun v2 h =>
 S n_ref1_Reader_Num [v2] h fun v3 h =>
 S n_ref1_Reader_Num [v2] h fun v4 h =>
 joinP G h.length (fun k5 =>
 lnsP a1 fun v6 =>
 binP .neq .other v6 (.int .i64 64) fun v7 =>
 iteP v7
 (k5 [.bool true] h)
 (nilP v2 fun v8 =>
 fadP 2 v8 fun v9 =>
 ldP 1 false v9 h fun v10 =>
 iteP v10
 (k5 [.bool true] h)
 (binP .lss .other v3 (.int .i64 1) fun v11 =>
 iteP v11
 (k5 [.bool true] h)
 (binP .gtr .other v3 (.int .i64 1023) fun v12 =>
 iteP v12
 (k5 [.bool true] h)
 (nilP v2 fun v13 =>
 fadP 1 v13 fun v14 =>
 nilP v2 fun v15 =>
 fadP 1 v15 fun v16 =>
 ldP 1 false v14 h fun v17 =>
 subP a1 (some v17) none fun v18 =>
 ldP 1 false v16 h fun v19 =>
 ldV 1 false v14 h = some v17 ∧
 binP .sub .other (.int .i64 64) v19 fun v20 =>
 mkslP t_uint8 1 1 [.int .u8 0] v20 v20 h fun v21 h =>
 ldV 1 false v14 h = some v17 ∧
 b2sP v21 h fun v22 =>
 ldV 1 false v14 h = some v17 ∧
 binP .neq .other v18 v22 fun v23 =>
 iteP v23
 (k5 [.bool true] h)
 (bslP t_int 1 [.int .i64 0] [(0, 1, v3)] h fun v24 h =>
 S n_ref1_Nums [v24] h fun v25 h =>
 binP .add .other (.str [115, 117, 112, 101, 114]) v25 fun v26 =>
 S n_ref1_IsHash [a0, v26, v4] h fun v27 h =>
 notP v27 fun v28 =>
 k5 [v28] h))))))
 (fun v30 h =>
 (fun v29 =>
 iteP v29
 (K (.tup [.int .i64 0, .int .i64 1000]) h)
 (K (.tup [v3, .int .i64 0]) h)) (v30.getD 0 .any))
theorem q_ref1_GetSuper (S : FuncId → List AVal → AHeap A → (AVal → AHeap A → Prop) → Prop) (G : Nat → AHeap A → List AVal → (List AVal → AHeap A → Prop) → Prop) (a0 a1 : AVal) (h : AHeap A) (K : AVal → AHeap A → Prop) : funP Tryz.prog S G Tryz.f67 (.two none .leaf (.two none .leaf (.two none .leaf (.two none .leaf (.two none (.two none (.draw (some [58]) (.take 0 (.take 1 (.take 2 (.take 3 (.split 3 (.skip 4 (.skip 5 (.skip 6 (.skip 7 (.take 8 (.take 9 (.known 9 true (.skip 10 (.skip 11 (.take 12 (.take 13 (.known 13 true (.skip 14 (.skip 15 (.take 16 (.take 17 (.known 17 true (.skip 18 (.skip 19 (.skip 20 (.skip 21 (.skip 22 (.skip 23 (.skip 24 (.skip 25 (.skip 26 (.skip 27 (.skip 28 (.skip 29 (.skip 30 (.skip 31 (.take 32 (.take 33 (.known 33 true (.skip 34 (.skip 35 (.skip 36 (.skip 37 (.skip 38 (.skip 39 (.skip 40 (.skip 41 (.take 42 .stop))))))))))))))))))))))))))))))))))))))))))) (.take 4 (.take 5 (.take 6 (.alt 7 (.take 8 (.take 9 (.split 9 (.skip 10 (.skip 11 (.take 12 (.take 13 (.known 13 true (.skip 14 (.skip 15 (.take 16 (.take 17 (.known 17 true (.skip 18 (.skip 19 (.skip 20 (.skip 21 (.skip 22 (.skip 23 (.skip 24 (.skip 25 (.skip 26 (.skip 27 (.skip 28 (.skip 29 (.skip 30 (.skip 31 (.take 32 (.take 33 (.known 33 true (.skip 34 (.skip 35 (.skip 36 (.skip 37 (.skip 38 (.skip 39 (.skip 40 (.skip 41 (.take 42 .stop)))))))))))))))))))))))))))))))))))) (.take 10 (.take 11 (.take 12 (.take 13 (.split 13 (.skip 14 (.skip 15 (.take 16 (.take 17 (.known 17 true (.skip 18 (.skip 19 (.skip 20 (.skip 21 (.skip 22 (.skip 23 (.skip 24 (.skip 25 (.skip 26 (.skip 27 (.skip 28 (.skip 29 (.skip 30 (.skip 31 (.take 32 (.take 33 (.known 33 true (.skip 34 (.skip 35 (.skip 36 (.skip 37 (.skip 38 (.skip 39 (.skip 40 (.skip 41 (.take 42 .stop))))))))))))))))))))))))))))))) (.take 14 (.take 15 (.take 16 (.take 17 (.split 17 (.skip 18 (.skip 19 (.skip 20 (.skip 21 (.skip 22 (.skip 23 (.skip 24 (.skip 25 (.skip 26 (.skip 27 (.skip 28 (.skip 29 (.skip 30 (.skip 31 (.take 32 (.take 33 (.known 33 true (.skip 34 (.skip 35 (.skip 36 (.skip 37 (.skip 38 (.skip 39 (.skip 40 (.skip 41 (.take 42 .stop)))))))))))))))))))))))))) (.take 18 (.take 19 (.take 20 (.take 21 (.take 24 (.take 25 (.take 26 (.load 22 (.take 23 (.alt 27 (.take 28 (.alt 29 (.alt 30 (.take 31 (.take 32 (.take 33 (.split 33 (.skip 34 (.skip 35 (.skip 36 (.skip 37 (.skip 38 (.skip 39 (.skip 40 (.skip 41 (.take 42 .stop))))))))) (.take 34 (.take 35 (.take 39 (.alt 36 (.alt 37 (.take 38 (.alt 40 (.take 41 (.take 42 .stop)) .stop)) .stop) .stop)))))))) .stop) .stop)) .stop))))))))))))))))))))))) .stop)))))))))) .leaf) .leaf))))) [a0, a1] h K = p_ref1_GetSuper S G a0 a1 h K := by kernel_rfl
theorem c_ref1_GetSuper {R : Adts A} {h : AHeap A} {K : AVal → AHeap A → Prop} {a0 a1 : AVal} (hk : p_ref1_GetSuper (Tri Pr R) (Gives Pr R) a0 a1 h K) : Tri Pr R n_ref1_GetSuper [a0, a1] h K :=
  tri_of_funP (by kernel_rfl) (fun _ _ _ _ h => h) (fun _ _ _ _ h => h) Tryz.func67 (by rw [q_ref1_GetSuper]; exact hk)
/-- bastion/bastionref1.Hash -/
def p_ref1_Hash (S : FuncId → List AVal → AHeap A → (AVal → AHeap A → Prop) → Prop) (G : Nat → AHeap A → List AVal → (List AVal → AHeap A → Prop) → Prop) (a0 a1 : AVal) (h : AHeap A) (K : AVal → AHeap A → Prop) : Prop :=
 binP .add .other (.str [72]) a1 fun v1 =>
 S n_ref1_Book_made [a0, v1] h fun v2 h =>
 extP v2 0 fun v3 =>
 extP v2 1 fun v4 =>
 K (.tup [v3, v4]) h
theorem q_ref1_Hash (S : FuncId → List AVal → AHeap A → (AVal → AHeap A → Prop) → Prop) (G : Nat → AHeap A → List AVal → (List AVal → AHeap A → Prop) → Prop) (a0 a1 : AVal) (h : AHeap A) (K : AVal → AHeap A → Prop) : funP Tryz.prog S G Tryz.f68 .leaf [a0, a1] h K = p_ref1_Hash S G a0 a1 h K := by kernel_rfl
theorem c_ref1_Hash {R : Adts A} {h : AHeap A} {K : AVal → AHeap A → Prop} {a0 a1 : AVal} (hk : p_ref1_Hash (Tri Pr R) (Gives Pr R) a0 a1 h K) : Tri Pr R n_ref1_Hash [a0, a1] h K :=
  tri_of_funP (by kernel_rfl) (fun _ _ _ _ h => h) (fun _ _ _ _ h => h) Tryz.func68 (by rw [q_ref1_Hash]; exact hk)
/-- bastion/bastionref1.Nums -/
def p_ref1_Nums (S : FuncId → List AVal → AHeap A → (AVal → AHeap A → Prop) → Prop) (G : Nat → AHeap A → List AVal → (List AVal → AHeap A → Prop) → Prop) (a0 : AVal) (h : AHeap A) (K : AVal → AHeap A → Prop) : Prop :=
 loopP G (fun v13 h k3 =>
 (fun v1 v2 =>
 lenP a0 fun v4 =>
 binP .lss .other v2 v4 fun v5 =>
 iteP v5
 (idxP 1 a0 v2 fun v6 =>
 ldP 1 false v6 h fun v7 =>
 S n_ref1_Num [v7] h fun v8 h =>
 extP v8 0 fun v9 =>
 extP v8 1 fun v10 =>
 binP .add .other v1 v9 fun v11 =>
 binP .add .other v2 (.int .i64 1) fun v12 =>
 k3 [v11, v12] h)
 (K v1 h)) (v13.getD 0 .any) (v13.getD 1 .any)) [.str [], .int .i64 0] h
theorem q_ref1_Nums (S : FuncId → List AVal → AHeap A → (AVal → AHeap A → Prop) → Prop) (G : Nat → AHeap A → List AVal → (List AVal → AHeap A → Prop) → Prop) (a0 : AVal) (h : AHeap A) (K : AVal → AHeap A → Prop) : funP Tryz.prog S G Tryz.f69 (.two none .leaf (.two none .leaf (.two none (.two none .leaf (.one [] (.one [3, 4] .leaf))) .leaf))) [a0] h K = p_ref1_Nums S G a0 h K := by kernel_rfl
theorem c_ref1_Nums {R : Adts A} {h : AHeap A} {K : AVal → AHeap A → Prop} {a0 : AVal} (hk : p_ref1_Nums (Tri Pr R) (Gives Pr R) a0 h K) : Tri Pr R n_ref1_Nums [a0] h K :=
  tri_of_funP (by kernel_rfl) (fun _ _ _ _ h => h) (fun _ _ _ _ h => h) Tryz.func69 (by rw [q_ref1_Nums]; exact hk)
/-- bastion/bastionref1.sector -/
def p_ref1_sector (S : FuncId → List AVal → AHeap A → (AVal → AHeap A → Prop) → Prop) (G : Nat → AHeap A → List AVal → (List AVal → AHeap A → Prop) → Prop) (a0 : AVal) (h : AHeap A) (K : AVal → AHeap A → Prop) : Prop :=
 lnsP a0 fun v1 =>
 binP .sub .other (.int .i64 64) v1 fun v2 =>
 mkslP t_uint8 1 1 [.int .u8 0] v2 v2 h fun v3 h =>
 b2sP v3 h fun v4 =>
 binP .add .other a0 v4 fun v5 =>
 K v5 h
theorem q_ref1_sector (S : FuncId → List AVal → AHeap A → (AVal → AHeap A → Prop) → Prop) (G : Nat → AHeap A → List AVal → (List AVal → AHeap A → Prop) → Prop) (a0 : AVal) (h : AHeap A) (K : AVal → AHeap A → Prop) : funP Tryz.prog S G Tryz.f70 .leaf [a0] h K = p_ref1_sector S G a0 h K := by kernel_rfl
theorem c_ref1_sector {R : Adts A} {h : AHeap A} {K : AVal → AHeap A → Prop} {a0 : AVal} (hk : p_ref1_sector (Tri Pr R) (Gives Pr R) a0 h K) : Tri Pr R n_ref1_sector [a0] h K :=
  tri_of_funP (by kernel_rfl) (fun _ _ _ _ h => h) (fun _ _ _ _ h => h) Tryz.func70 (by rw [q_ref1_sector]; exact hk)
/-- (*bastion/bastionref1.Reader).Num -/
def p_ref1_Reader_Num (S : FuncId → List AVal → AHeap A → (AVal → AHeap A → Prop) → Prop) (G : Nat → AHeap A → List AVal → (List AVal → AHeap A → Prop) → Prop) (a0 : AVal) (h : AHeap A) (K : AVal → AHeap A → Prop) : Prop :=
 nilP a0 fun v1 =>
 fadP 0 v1 fun v2 =>
 nilP a0 fun v3 =>
 fadP 1 v3 fun v4 =>
 ldP 1 false v2 h fun v5 =>
 ldP 1 false v4 h fun v6 =>
 ldV 1 false v2 h = some v5 ∧
 S n_ref1_GetNum [v5, v6] h fun v7 h =>
 extP v7 0 fun v8 =>
 extP v7 1 fun v9 =>
 extP v7 2 fun v10 =>
 nilP a0 fun v11 =>
 fadP 2 v11 fun v12 =>
 ldP 1 false v12 h fun v13 =>
 condP v13 false (fun k14 =>
 binP .neq .other v10 (.int .i64 0) fun v15 =>
 k14 v15 h)
 (.bool true) h fun v16 h =>
 iteP v16
 (nilP a0 fun v17 =>
 fadP 2 v17 fun v18 =>
 stP 1 v18 (.bool true) h fun h =>
 K (.int .i64 0) h)
 (nilP a0 fun v19 =>
 fadP 1 v19 fun v20 =>
 stP 1 v20 v9 h fun h =>
 K v8 h)
theorem q_ref1_Reader_Num (S : FuncId → List AVal → AHeap A → (AVal → AHeap A → Prop) → Prop) (G : Nat → AHeap A → List AVal → (List AVal → AHeap A → Prop) → Prop) (a0 : AVal) (h : AHeap A) (K : AVal → AHeap A → Prop) : funP Tryz.prog S G Tryz.f71 (.two none .leaf (.two none (.draw none (.take 0 (.take 1 (.take 2 (.take 4 (.take 5 (.take 6 (.load 3 (.alt 7 (.alt 8 (.take 9 (.take 10 (.take 11 (.take 12 (.take 13 (.take 14 (.take 15 .stop))))))) .stop) .stop))))))))) .leaf)) [a0] h K = p_ref1_Reader_Num S G a0 h K := by kernel_rfl
theorem c_ref1_Reader_Num {R : Adts A} {h : AHeap A} {K : AVal → AHeap A → Prop} {a0 : AVal} (hk : p_ref1_Reader_Num (Tri Pr R) (Gives Pr R) a0 h K) : Tri Pr R n_ref1_Reader_Num [a0] h K :=
  tri_of_funP (by kernel_rfl) (fun _ _ _ _ h => h) (fun _ _ _ _ h => h) Tryz.func71 (by rw [q_ref1_Reader_Num]; exact hk)
/-- (*bastion/bastionref1.Reader).Text -/
def p_ref1_Reader_Text (S : FuncId → List AVal → AHeap A → (AVal → AHeap A → Prop) → Prop) (G : Nat → AHeap A → List AVal → (List AVal → AHeap A → Prop) → Prop) (a0 : AVal) (h : AHeap A) (K : AVal → AHeap A → Prop) : Prop :=
 nilP a0 fun v1 =>
 fadP 0 v1 fun v2 =>
 nilP a0 fun v3 =>
 fadP 1 v3 fun v4 =>
 ldP 1 false v2 h fun v5 =>
 ldP 1 false v4 h fun v6 =>
 ldV 1 false v2 h = some v5 ∧
 S n_ref1_GetText [v5, v6] h fun v7 h =>
 extP v7 0 fun v8 =>
 extP v7 1 fun v9 =>
 extP v7 2 fun v10 =>
 nilP a0 fun v11 =>
 fadP 2 v11 fun v12 =>
 ldP 1 false v12 h fun v13 =>
 condP v13 false (fun k14 =>
 binP .neq .other v10 (.int .i64 0) fun v15 =>
 k14 v15 h)
 (.bool true) h fun v16 h =>
 iteP v16
 (nilP a0 fun v17 =>
 fadP 2 v17 fun v18 =>
 stP 1 v18 (.bool true) h fun h =>
 K (.str []) h)
 (nilP a0 fun v19 =>
 fadP 1 v19 fun v20 =>
 stP 1 v20 v9 h fun h =>
 K v8 h)
theorem q_ref1_Reader_Text (S : FuncId → List AVal → AHeap A → (AVal → AHeap A → Prop) → Prop) (G : Nat → AHeap A → List AVal → (List AVal → AHeap A → Prop) → Prop) (a0 : AVal) (h : AHeap A) (K : AVal → AHeap A → Prop) : funP Tryz.prog S G Tryz.f72 (.two none .leaf (.two none (.draw none (.take 0 (.take 1 (.take 2 (.take 4 (.take 5 (.take 6 (.load 3 (.alt 7 (.alt 8 (.take 9 (.take 10 (.take 11 (.take 12 (.take 13 (.take 14 (.take 15 .stop))))))) .stop) .stop))))))))) .leaf)) [a0] h K = p_ref1_Reader_Text S G a0 h K := by kernel_rfl
theorem c_ref1_Reader_Text {R : Adts A} {h : AHeap A} {K : AVal → AHeap A → Prop} {a0 : AVal} (hk : p_ref1_Reader_Text (Tri Pr R) (Gives Pr R) a0 h K) : Tri Pr R n_ref1_Reader_Text [a0] h K :=
  tri_of_funP (by kernel_rfl) (fun _ _ _ _ h => h) (fun _ _ _ _ h => h) Tryz.func72 (by rw [q_ref1_Reader_Text]; exact hk)
/-- bastion/bastionref1.GetEvent -/
def p_ref1_GetEvent (S : FuncId → List AVal → AHeap A → (AVal → AHeap A → Prop) → Prop) (G : Nat → AHeap A → List AVal → (List AVal → AHeap A → Prop) → Prop) (a0 : AVal) (h : AHeap A) (K : AVal → AHeap A → Prop) : Prop :=
 newP t_api_Event [.int .i64 0, .int .i64 0, .int .i64 0, .int .i64 0, .int .i64 0, .int .i64 0, .int .i64 0, .int .i64 0] h fun v1 h =>
 bldP [.str [], .int .i64 0, .bool false] [(0, 1, a0)] fun v2 =>
 boxP t_bastionref1_Reader 3 v2 h fun v3 h =>
 S n_ref1_Reader_Num [v3] h fun v4 h =>
 bldP [.int .i64 0, .int .i64 0, .int .i64 0, .int .i64 0, .int .i64 0, .int .i64 0, .int .i64 0, .int .i64 0] [(0, 1, v4)] fun v5 =>
 newP t_api_Event [.int .i64 0, .int .i64 0, .int .i64 0, .int .i64 0, .int .i64 0, .int .i64 0, .int .i64 0, .int .i64 0] h fun v6 h =>
 stP 8 v6 v5 h fun h =>
 joinP G h.length (fun k7 =>
 fadP 0 v6 fun v8 =>
 ldP 1 false v8 h fun v9 =>
 binP .eql .other v9 (.int .i64 0) fun v10 =>
 iteP v10
 (S n_ref1_Reader_Num [v3] h fun v11 h =>
 fadP 7 v6 fun v12 =>
 stP 1 v12 v11 h fun h =>
 k7 [] h)
 (binP .eql .other v9 (.int .i64 1) fun v13 =>
 iteP v13
 (S n_ref1_Reader_Num [v3] h fun v14 h =>
 fadP 1 v6 fun v15 =>
 stP 1 v15 v14 h fun h =>
 S n_ref1_Reader_Num [v3] h fun v16 h =>
 fadP 4 v6 fun v17 =>
 stP 1 v17 v16 h fun h =>
 S n_ref1_Reader_Num [v3] h fun v18 h =>
 fadP 5 v6 fun v19 =>
 stP 1 v19 v18 h fun h =>
 S n_ref1_Reader_Num [v3] h fun v20 h =>
 fadP 6 v6 fun v21 =>
 stP 1 v21 v20 h fun h =>
 k7 [] h)
 (binP .eql .other v9 (.int .i64 2) fun v22 =>
 iteP v22
 (S n_ref1_Reader_Num [v3] h fun v23 h =>
 fadP 1 v6 fun v24 =>
 stP 1 v24 v23 h fun h =>
 S n_ref1_Reader_Num [v3] h fun v25 h =>
 fadP 7 v6 fun v26 =>
 stP 1 v26 v25 h fun h =>
 k7 [] h)
 (binP .eql .other v9 (.int .i64 3) fun v27 =>
 iteP v27
 (S n_ref1_Reader_Num [v3] h fun v28 h =>
 fadP 1 v6 fun v29 =>
 stP 1 v29 v28 h fun h =>
 S n_ref1_Reader_Num [v3] h fun v30 h =>
 fadP 4 v6 fun v31 =>
 stP 1 v31 v30 h fun h =>
 k7 [] h)
 (joinP G h.length (fun k32 =>
 binP .eql .other v9 (.int .i64 4) fun v33 =>
 iteP v33
 (k32 [v33] h)
 (binP .eql .other v9 (.int .i64 7) fun v34 =>
 k32 [v34] h))
 (fun v59 h =>
 (fun v35 =>
 iteP v35
 (S n_ref1_Reader_Num [v3] h fun v36 h =>
 fadP 1 v6 fun v37 =>
 stP 1 v37 v36 h fun h =>
 k7 [] h)
 (binP .eql .other v9 (.int .i64 5) fun v38 =>
 iteP v38
 (S n_ref1_Reader_Num [v3] h fun v39 h =>
 fadP 2 v6 fun v40 =>
 stP 1 v40 v39 h fun h =>
 S n_ref1_Reader_Num [v3] h fun v41 h =>
 fadP 1 v6 fun v42 =>
 stP 1 v42 v41 h fun h =>
 S n_ref1_Reader_Num [v3] h fun v43 h =>
 fadP 3 v6 fun v44 =>
 stP 1 v44 v43 h fun h =>
 S n_ref1_Reader_Num [v3] h fun v45 h =>
 fadP 7 v6 fun v46 =>
 stP 1 v46 v45 h fun h =>
 k7 [] h)
 (binP .eql .other v9 (.int .i64 6) fun v47 =>
 iteP v47
 (S n_ref1_Reader_Num [v3] h fun v48 h =>
 fadP 2 v6 fun v49 =>
 stP 1 v49 v48 h fun h =>
 S n_ref1_Reader_Num [v3] h fun v50 h =>
 fadP 4 v6 fun v51 =>
 stP 1 v51 v50 h fun h =>
 S n_ref1_Reader_Num [v3] h fun v52 h =>
 fadP 5 v6 fun v53 =>
 stP 1 v53 v52 h fun h =>
 S n_ref1_Reader_Num [v3] h fun v54 h =>
 fadP 7 v6 fun v55 =>
 stP 1 v55 v54 h fun h =>
 k7 [] h)
 (binP .eql .other v9 (.int .i64 9) fun v56 =>
 iteP v56
 (S n_ref1_Reader_Num [v3] h fun v57 h =>
 fadP 2 v6 fun v58 =>
 stP 1 v58 v57 h fun h =>
 k7 [] h)
 (k7 [] h))))) (v59.getD 0 .any)))))))
 (fun _ h =>
 nilP v3 fun v60 =>
 fadP 2 v60 fun v61 =>
 ldP 1 false v61 h fun v62 =>
 condP v62 false (fun k63 =>
 nilP v3 fun v64 =>
 fadP 1 v64 fun v65 =>
 ldP 1 false v65 h fun v66 =>
 lnsP a0 fun v67 =>
 binP .neq .other v66 v67 fun v68 =>
 k63 v68 h)
 (.bool true) h fun v69 h =>
 condP v69 false (fun k70 =>
 ldP 8 true v6 h fun v71 =>
 S n_ref1_EventMay [v71] h fun v72 h =>
 notP v72 fun v73 =>
 k70 v73 h)
 (.bool true) h fun v74 h =>
 iteP v74
 (bldP [.int .i64 0, .int .i64 0, .int .i64 0, .int .i64 0, .int .i64 0, .int .i64 0, .int .i64 0, .int .i64 0] [] fun v75 =>
 stP 8 v1 v75 h fun h =>
 ldP 8 true v1 h fun v76 =>
 K (.tup [v76, .int .i64 700]) h)
 (ldP 8 true v6 h fun v77 =>
 stP 8 v1 v77 h fun h =>
 ldP 8 true v1 h fun v78 =>
 K (.tup [v78, .int .i64 0]) h))
theorem q_ref1_GetEvent (S : FuncId → List AVal → AHeap A → (AVal → AHeap A → Prop) → Prop) (G : Nat → AHeap A → List AVal → (List AVal → AHeap A → Prop) → Prop) (a0 : AVal) (h : AHeap A) (K : AVal → AHeap A → Prop) : funP Tryz.prog S G Tryz.f73 (.two none .leaf (.two none .leaf (.two none .leaf (.two (some []) (.two none .leaf (.one [] (.two none .leaf (.two none .leaf (.two none .leaf (.two none .leaf (.two none .leaf (.two none .leaf (.two none .leaf (.two none .leaf (.two (some [49]) .leaf .leaf))))))))))) .leaf)))) [a0] h K = p_ref1_GetEvent S G a0 h K := by kernel_rfl
theorem c_ref1_GetEvent {R : Adts A} {h : AHeap A} {K : AVal → AHeap A → Prop} {a0 : AVal} (hk : p_ref1_GetEvent (Tri Pr R) (Gives Pr R) a0 h K) : Tri Pr R n_ref1_GetEvent [a0] h K :=
  tri_of_funP (by kernel_rfl) (fun _ _ _ _ h => h) (fun _ _ _ _ h => h) Tryz.func73 (by rw [q_ref1_GetEvent]; exact hk)
/-- bastion/bastionref1.IsHash -/
def p_ref1_IsHash (S : FuncId → List AVal → AHeap A → (AVal → AHeap A → Prop) → Prop) (G : Nat → AHeap A → List AVal → (List AVal → AHeap A → Prop) → Prop) (a0 a1 a2 : AVal) (h : AHeap A) (K : AVal → AHeap A → Prop) : Prop :=
 binP .add .other (.str [72]) a1 fun v1 =>
 S n_ref1_Book_Find [a0, v1] h fun v2 h =>
 extP v2 0 fun v3 =>
 extP v2 1 fun v4 =>
 condP v4 true (fun k5 =>
 binP .eql .other v3 a2 fun v6 =>
 k5 v6 h)
 (.bool false) h fun v7 h =>
 K v7 h
theorem q_ref1_IsHash (S : FuncId → List AVal → AHeap A → (AVal → AHeap A → Prop) → Prop) (G : Nat → AHeap A → List AVal → (List AVal → AHeap A → Prop) → Prop) (a0 a1 a2 : AVal) (h : AHeap A) (K : AVal → AHeap A → Prop) : funP Tryz.prog S G Tryz.f74 .leaf [a0, a1, a2] h K = p_ref1_IsHash S G a0 a1 a2 h K := by kernel_rfl
theorem c_ref1_IsHash {R : Adts A} {h : AHeap A} {K : AVal → AHeap A → Prop} {a0 a1 a2 : AVal} (hk : p_ref1_IsHash (Tri Pr R) (Gives Pr R) a0 a1 a2 h K) : Tri Pr R n_ref1_IsHash [a0, a1, a2] h K :=
  tri_of_funP (by kernel_rfl) (fun _ _ _ _ h => h) (fun _ _ _ _ h => h) Tryz.func74 (by rw [q_ref1_IsHash]; exact hk)
/-- bastion/event.parts -/
def p_event_parts (S : FuncId → List AVal → AHeap A → (AVal → AHeap A → Prop) → Prop) (G : Nat → AHeap A → List AVal → (List AVal → AHeap A → Prop) → Prop) (a0 : AVal) (h : AHeap A) (K : AVal → AHeap A → Prop) : Prop :=
 nilP a0 fun v1 =>
 fadP 0 v1 fun v2 =>
 ldP 1 false v2 h fun v3 =>
 joinP G h.length (fun k4 =>
 joinP G h.length (fun k5 =>
 binP .eql .other v3 (.int .i64 1) fun v6 =>
 iteP v6
 (nilP a0 fun v7 =>
 fadP 1 v7 fun v8 =>
 nilP a0 fun v9 =>
 fadP 4 v9 fun v10 =>
 nilP a0 fun v11 =>
 fadP 5 v11 fun v12 =>
 nilP a0 fun v13 =>
 fadP 6 v13 fun v14 =>
 bslP t_p_int 4 [.nilp, .nilp, .nilp, .nilp] [(0, 1, v8), (1, 1, v10), (2, 1, v12), (3, 1, v14)] h fun v15 h =>
 K v15 h)
 (binP .eql .other v3 (.int .i64 3) fun v16 =>
 iteP v16
 (nilP a0 fun v17 =>
 fadP 4 v17 fun v18 =>
 bslP t_p_int 1 [.nilp] [(0, 1, v18)] h fun v19 h =>
 k5 [v19] h)
 (joinP G h.length (fun k20 =>
 binP .eql .other v3 (.int .i64 4) fun v21 =>
 iteP v21
 (k20 [v21] h)
 (binP .eql .other v3 (.int .i64 7) fun v22 =>
 k20 [v22] h))
 (fun v53 h =>
 (fun v23 =>
 iteP v23
 (k5 [.nils] h)
 (binP .eql .other v3 (.int .i64 2) fun v24 =>
 iteP v24
 (nilP a0 fun v25 =>
 fadP 1 v25 fun v26 =>
 nilP a0 fun v27 =>
 fadP 7 v27 fun v28 =>
 bslP t_p_int 2 [.nilp, .nilp] [(0, 1, v26), (1, 1, v28)] h fun v29 h =>
 K v29 h)
 (binP .eql .other v3 (.int .i64 5) fun v30 =>
 iteP v30
 (nilP a0 fun v31 =>
 fadP 2 v31 fun v32 =>
 nilP a0 fun v33 =>
 fadP 1 v33 fun v34 =>
 nilP a0 fun v35 =>
 fadP 3 v35 fun v36 =>
 nilP a0 fun v37 =>
 fadP 7 v37 fun v38 =>
 bslP t_p_int 4 [.nilp, .nilp, .nilp, .nilp] [(0, 1, v32), (1, 1, v34), (2, 1, v36), (3, 1, v38)] h fun v39 h =>
 K v39 h)
 (binP .eql .other v3 (.int .i64 6) fun v40 =>
 iteP v40
 (nilP a0 fun v41 =>
 fadP 4 v41 fun v42 =>
 nilP a0 fun v43 =>
 fadP 5 v43 fun v44 =>
 nilP a0 fun v45 =>
 fadP 7 v45 fun v46 =>
 bslP t_p_int 3 [.nilp, .nilp, .nilp] [(0, 1, v42), (1, 1, v44), (2, 1, v46)] h fun v47 h =>
 k4 [v47] h)
 (binP .eql .other v3 (.int .i64 9) fun v48 =>
 iteP v48
 (k4 [.nils] h)
 (binP .eql .other v3 (.int .i64 0) fun v49 =>
 iteP v49
 (nilP a0 fun v50 =>
 fadP 7 v50 fun v51 =>
 bslP t_p_int 1 [.nilp] [(0, 1, v51)] h fun v52 h =>
 K v52 h)
 (K .nils h))))))) (v53.getD 0 .any)))))
 (fun v59 h =>
 (fun v54 =>
 nilP a0 fun v55 =>
 fadP 1 v55 fun v56 =>
 bslP t_p_int 1 [.nilp] [(0, 1, v56)] h fun v57 h =>
 appP t_p_int 1 8 v57 v54 h fun v58 h =>
 K v58 h) (v59.getD 0 .any)))
 (fun v65 h =>
 (fun v60 =>
 nilP a0 fun v61 =>
 fadP 2 v61 fun v62 =>
 bslP t_p_int 1 [.nilp] [(0, 1, v62)] h fun v63 h =>
 appP t_p_int 1 8 v63 v60 h fun v64 h =>
 K v64 h) (v65.getD 0 .any))
theorem q_event_parts (S : FuncId → List AVal → AHeap A → (AVal → AHeap A → Prop) → Prop) (G : Nat → AHeap A → List AVal → (List AVal → AHeap A → Prop) → Prop) (a0 : AVal) (h : AHeap A) (K : AVal → AHeap A → Prop) : funP Tryz.prog S G Tryz.f75 (.two none .leaf (.two none .leaf (.two none (.two none .leaf (.one [] (.two none (.one [] (.two (some [3]) (.one [] (.two none (.one [] (.two none (.one [] (.two none (.one [] (.two (some [3]) (.one [] (.two none (.one [] (.two none (.one [] (.two none (.two none .leaf (.two none .leaf (.two none (.two (some [12]) .leaf .leaf) .leaf))) .leaf)) (.two none (.two none (.draw none (.take 0 (.take 1 (.take 2 (.take 3 (.take 4 (.take 5 (.take 6 (.take 7 (.take 8 (.take 9 (.take 10 (.take 11 (.alt 12 (.take 13 .stop) .stop)))))))))))))) .leaf) .leaf))) .leaf)) .leaf)) (.two none (.two none (.draw none (.take 0 (.take 1 (.take 2 (.take 3 (.take 4 (.take 5 (.alt 6 (.take 7 .stop) .stop)))))))) .leaf) .leaf))) (.two none (.two none (.draw none (.take 0 (.take 1 (.take 2 (.take 3 (.take 4 (.take 5 (.take 6 (.take 7 (.take 8 (.take 9 (.take 10 (.take 11 (.alt 12 (.take 13 .stop) .stop)))))))))))))) .leaf) .leaf))) (.draw none (.take 0 (.take 1 (.take 2 (.take 3 (.take 4 (.take 5 (.take 6 (.take 7 (.take 8 (.alt 9 (.take 10 .stop) .stop))))))))))))) .leaf)) .leaf))) .leaf))) [a0] h K = p_event_parts S G a0 h K := by kernel_rfl
theorem c_event_parts {R : Adts A} {h : AHeap A} {K : AVal → AHeap A → Prop} {a0 : AVal} (hk : p_event_parts (Tri Pr R) (Gives Pr R) a0 h K) : Tri Pr R n_event_parts [a0] h K :=
  tri_of_funP (by kernel_rfl) (fun _ _ _ _ h => h) (fun _ _ _ _ h => h) Tryz.func75 (by rw [q_event_parts]; exact hk)
/-- bastion/field.NumMay -/
def p_field_NumMay (S : FuncId → List AVal → AHeap A → (AVal → AHeap A → Prop) → Prop) (G : Nat → AHeap A → List AVal → (List AVal → AHeap A → Prop) → Prop) (a0 : AVal) (h : AHeap A) (K : AVal → AHeap A → Prop) : Prop :=
 binP .geq .other a0 (.int .i64 0) fun v1 =>
 condP v1 true (fun k2 =>
 binP .leq .other a0 (.int .i64 1073741823) fun v3 =>
 k2 v3 h)
 (.bool false) h fun v4 h =>
 K v4 h
theorem q_field_NumMay (S : FuncId → List AVal → AHeap A → (AVal → AHeap A → Prop) → Prop) (G : Nat → AHeap A → List AVal → (List AVal → AHeap A → Prop) → Prop) (a0 : AVal) (h : AHeap A) (K : AVal → AHeap A → Prop) : funP Tryz.prog S G Tryz.f76 .leaf [a0] h K = p_field_NumMay S G a0 h K := by kernel_rfl
theorem c_field_NumMay {R : Adts A} {h : AHeap A} {K : AVal → AHeap A → Prop} {a0 : AVal} (hk : p_field_NumMay (Tri Pr R) (Gives Pr R) a0 h K) : Tri Pr R n_field_NumMay [a0] h K :=
  tri_of_funP (by kernel_rfl) (fun _ _ _ _ h => h) (fun _ _ _ _ h => h) Tryz.func76 (by rw [q_field_NumMay]; exact hk)
/-- bastion/event.plain -/
def p_event_plain (S : FuncId → List AVal → AHeap A → (AVal → AHeap A → Prop) → Prop) (G : Nat → AHeap A → List AVal → (List AVal → AHeap A → Prop) → Prop) (a0 : AVal) (h : AHeap A) (K : AVal → AHeap A → Prop) : Prop :=
 newP t_api_Event [.int .i64 0, .int .i64 0, .int .i64 0, .int .i64 0, .int .i64 0, .int .i64 0, .int .i64 0, .int .i64 0] h fun v1 h =>
 nilP a0 fun v2 =>
 fadP 0 v2 fun v3 =>
 ldP 1 false v3 h fun v4 =>
 bldP [.int .i64 0, .int .i64 0, .int .i64 0, .int .i64 0, .int .i64 0, .int .i64 0, .int .i64 0, .int .i64 0] [(0, 1, v4)] fun v5 =>
 newP t_api_Event [.int .i64 0, .int .i64 0, .int .i64 0, .int .i64 0, .int .i64 0, .int .i64 0, .int .i64 0, .int .i64 0] h fun v6 h =>
 stP 8 v6 v5 h fun h =>
 S n_event_parts [v6] h fun v7 h =>
 S n_event_parts [a0] h fun v8 h =>
 lenP v8 fun v9 =>
 loopP G (fun v23 h k11 =>
 (fun v10 =>
 binP .lss .other v10 v9 fun v12 =>
 iteP v12
 (idxP 1 v8 v10 fun v13 =>
 ldP 1 false v13 h fun v14 =>
 idxP 1 v7 v10 fun v15 =>
 nilP v14 fun v16 =>
 ldP 1 false v15 h fun v17 =>
 ldP 1 false v16 h fun v18 =>
 ldV 1 false v15 h = some v17 ∧
 nilP v17 fun v19 =>
 stP 1 v19 v18 h fun h =>
 binP .add .other v10 (.int .i64 1) fun v20 =>
 k11 [v20] h)
 (ldP 8 true v6 h fun v21 =>
 stP 8 v1 v21 h fun h =>
 ldP 8 true v1 h fun v22 =>
 K v22 h)) (v23.getD 0 .any)) [.int .i64 0] h
theorem q_event_plain (S : FuncId → List AVal → AHeap A → (AVal → AHeap A → Prop) → Prop) (G : Nat → AHeap A → List AVal → (List AVal → AHeap A → Prop) → Prop) (a0 : AVal) (h : AHeap A) (K : AVal → AHeap A → Prop) : funP Tryz.prog S G Tryz.f77 (.two none .leaf (.two none .leaf (.two none .leaf (.two none (.two none .leaf (.one [] (.one [16] (.two none .leaf (.two none .leaf (.two none (.one [] (.two none .leaf (.draw none (.take 0 (.take 1 (.take 2 (.take 4 (.take 5 (.load 3 (.alt 6 (.take 7 (.alt 8 .stop .stop)) .stop)))))))))) .leaf)))))) .leaf)))) [a0] h K = p_event_plain S G a0 h K := by kernel_rfl
theorem c_event_plain {R : Adts A} {h : AHeap A} {K : AVal → AHeap A → Prop} {a0 : AVal} (hk : p_event_plain (Tri Pr R) (Gives Pr R) a0 h K) : Tri Pr R n_event_plain [a0] h K :=
  tri_of_funP (by kernel_rfl) (fun _ _ _ _ h => h) (fun _ _ _ _ h => h) Tryz.func77 (by rw [q_event_plain]; exact hk)
/-- slices.IndexFunc[[]bastion/api.Event,bastion/api.Event] -/
def p_slices_IndexFunc_api_Event (S : FuncId → List AVal → AHeap A → (AVal → AHeap A → Prop) → Prop) (G : Nat → AHeap A → List AVal → (List AVal → AHeap A → Prop) → Prop) (a0 a1 : AVal) (h : AHeap A) (K : AVal → AHeap A → Prop) : Prop :=
 lenP a0 fun v1 =>
 loopP G (fun v9 h k3 =>
 (fun v2 =>
 binP .lss .other v2 v1 fun v4 =>
 iteP v4
 (idxP 8 a0 v2 fun v5 =>
 ldP 8 true v5 h fun v6 =>
 dynP Pr S a1 [v6] h fun v7 h =>
 iteP v7
 (K v2 h)
 (binP .add .other v2 (.int .i64 1) fun v8 =>
 k3 [v8] h))
 (K (.int .i64 (-1)) h)) (v9.getD 0 .any)) [.int .i64 0] h
theorem q_slices_IndexFunc_api_Event (S : FuncId → List AVal → AHeap A → (AVal → AHeap A → Prop) → Prop) (G : Nat → AHeap A → List AVal → (List AVal → AHeap A → Prop) → Prop) (a0 a1 : AVal) (h : AHeap A) (K : AVal → AHeap A → Prop) : funP Tryz.prog S G Tryz.f78 (.two none .leaf (.two none (.two none .leaf (.one [] (.one [8] .leaf))) .leaf)) [a0, a1] h K = p_slices_IndexFunc_api_Event S G a0 a1 h K := by kernel_rfl
theorem c_slices_IndexFunc_api_Event {R : Adts A} {h : AHeap A} {K : AVal → AHeap A → Prop} {a0 a1 : AVal} (hk : p_slices_IndexFunc_api_Event (Tri Pr R) (Gives Pr R) a0 a1 h K) : Tri Pr R n_slices_IndexFunc_api_Event [a0, a1] h K :=
  tri_of_funP (by kernel_rfl) (fun _ _ _ _ h => h) (fun _ _ _ _ h => h) Tryz.func78 (by rw [q_slices_IndexFunc_api_Event]; exact hk)
/-- bastion/record.body -/
def p_record_body (S : FuncId → List AVal → AHeap A → (AVal → AHeap A → Prop) → Prop) (G : Nat → AHeap A → List AVal → (List AVal → AHeap A → Prop) → Prop) (a0 : AVal) (h : AHeap A) (K : AVal → AHeap A → Prop) : Prop :=
 nilP a0 fun v1 =>
 fadP 3 v1 fun v2 =>
 ldP 8 true v2 h fun v3 =>
 S n_event_Put [v3] h fun v4 h =>
 extP v4 0 fun v5 =>
 extP v4 1 fun v6 =>
 nilP a0 fun v7 =>
 fadP 0 v7 fun v8 =>
 nilP a0 fun v9 =>
 fadP 1 v9 fun v10 =>
 nilP a0 fun v11 =>
 fadP 2 v11 fun v12 =>
 ldP 1 false v8 h fun v13 =>
 ldP 1 false v10 h fun v14 =>
 ldP 1 false v12 h fun v15 =>
 ldV 1 false v10 h = some v14 ∧
 ldV 1 false v8 h = some v13 ∧
 bslP t_int 3 [.int .i64 0, .int .i64 0, .int .i64 0] [(0, 1, v13), (1, 1, v14), (2, 1, v15)] h fun v16 h =>
 S n_field_All [v16] h fun v17 h =>
 extP v17 0 fun v18 =>
 extP v17 1 fun v19 =>
 binP .neq .other v6 (.int .i64 0) fun v20 =>
 condP v20 false (fun k21 =>
 notP v19 fun v22 =>
 k21 v22 h)
 (.bool true) h fun v23 h =>
 condP v23 false (fun k24 =>
 nilP a0 fun v25 =>
 fadP 0 v25 fun v26 =>
 ldP 1 false v26 h fun v27 =>
 binP .lss .other v27 (.int .i64 1) fun v28 =>
 k24 v28 h)
 (.bool true) h fun v29 h =>
 condP v29 false (fun k30 =>
 nilP a0 fun v31 =>
 fadP 1 v31 fun v32 =>
 ldP 1 false v32 h fun v33 =>
 binP .lss .other v33 (.int .i64 1) fun v34 =>
 k30 v34 h)
 (.bool true) h fun v35 h =>
 condP v35 false (fun k36 =>
 lnsP v5 fun v37 =>
 binP .gtr .other v37 (.int .i64 44) fun v38 =>
 k36 v38 h)
 (.bool true) h fun v39 h =>
 iteP v39
 (K (.tup [.str [], .bool false]) h)
 (S n_field_Text [v5] h fun v40 h =>
 extP v40 0 fun v41 =>
 extP v40 1 fun v42 =>
 binP .add .other v18 v41 fun v43 =>
 K (.tup [v43, .bool true]) h)
theorem q_record_body (S : FuncId → List AVal → AHeap A → (AVal → AHeap A → Prop) → Prop) (G : Nat → AHeap A → List AVal → (List AVal → AHeap A → Prop) → Prop) (a0 : AVal) (h : AHeap A) (K : AVal → AHeap A → Prop) : funP Tryz.prog S G Tryz.f79 (.two none .leaf (.two none .leaf (.two none (.draw none (.take 0 (.take 1 (.take 2 (.take 4 (.take 5 (.take 6 (.take 8 (.take 9 (.take 10 (.load 3 (.load 7 (.alt 11 (.alt 12 (.alt 13 (.take 14 (.take 15 (.take 16 (.take 17 (.take 18 .stop))))) .stop) .stop) .stop))))))))))))) .leaf))) [a0] h K = p_record_body S G a0 h K := by kernel_rfl
theorem c_record_body {R : Adts A} {h : AHeap A} {K : AVal → AHeap A → Prop} {a0 : AVal} (hk : p_record_body (Tri Pr R) (Gives Pr R) a0 h K) : Tri Pr R n_record_body [a0] h K :=
  tri_of_funP (by kernel_rfl) (fun _ _ _ _ h => h) (fun _ _ _ _ h => h) Tryz.func79 (by rw [q_record_body]; exact hk)
/-- bastion/craft.Hash -/
def p_craft_Hash (S : FuncId → List AVal → AHeap A → (AVal → AHeap A → Prop) → Prop) (G : Nat → AHeap A → List AVal → (List AVal → AHeap A → Prop) → Prop) (a0 a1 : AVal) (h : AHeap A) (K : AVal → AHeap A → Prop) : Prop :=
 binP .add .other (.str [72]) a1 fun v1 =>
 S n_craft_named [a0, v1, .bool true] h fun v2 h =>
 extP v2 0 fun v3 =>
 extP v2 1 fun v4 =>
 K (.tup [v3, v4]) h
theorem q_craft_Hash (S : FuncId → List AVal → AHeap A → (AVal → AHeap A → Prop) → Prop) (G : Nat → AHeap A → List AVal → (List AVal → AHeap A → Prop) → Prop) (a0 a1 : AVal) (h : AHeap A) (K : AVal → AHeap A → Prop) : funP Tryz.prog S G Tryz.f80 .leaf [a0, a1] h K = p_craft_Hash S G a0 a1 h K := by kernel_rfl
theorem c_craft_Hash {R : Adts A} {h : AHeap A} {K : AVal → AHeap A → Prop} {a0 a1 : AVal} (hk : p_craft_Hash (Tri Pr R) (Gives Pr R) a0 a1 h K) : Tri Pr R n_craft_Hash [a0, a1] h K :=
  tri_of_funP (by kernel_rfl) (fun _ _ _ _ h => h) (fun _ _ _ _ h => h) Tryz.func80 (by rw [q_craft_Hash]; exact hk)
/-- bastion/field.Num -/
def p_field_Num (S : FuncId → List AVal → AHeap A → (AVal → AHeap A → Prop) → Prop) (G : Nat → AHeap A → List AVal → (List AVal → AHeap A → Prop) → Prop) (a0 : AVal) (h : AHeap A) (K : AVal → AHeap A → Prop) : Prop :=
 S n_field_NumMay [a0] h fun v1 h =>
 notP v1 fun v2 =>
 iteP v2
 (K (.tup [.str [], .int .i64 100]) h)
 (S n_field_width [a0] h fun v3 h =>
 cviP .u8 v3 fun v4 =>
 bslP t_uint8 1 [.int .u8 0] [(0, 1, v4)] h fun v5 h =>
 joinP G h.length (fun k6 =>
 joinP G h.length (fun k7 =>
 joinP G h.length (fun k8 =>
 joinP G h.length (fun k9 =>
 binP .eql .other v3 (.int .i64 4) fun v10 =>
 iteP v10
 (binP .shr .other a0 (.int .u64 24) fun v11 =>
 cviP .u8 v11 fun v12 =>
 bslP t_uint8 1 [.int .u8 0] [(0, 1, v12)] h fun v13 h =>
 appP t_uint8 1 1 v5 v13 h fun v14 h =>
 k9 [v14] h)
 (binP .eql .other v3 (.int .i64 3) fun v15 =>
 iteP v15
 (k9 [v5] h)
 (binP .eql .other v3 (.int .i64 2) fun v16 =>
 iteP v16
 (k8 [v5] h)
 (binP .eql .other v3 (.int .i64 1) fun v17 =>
 iteP v17
 (k7 [v5] h)
 (k6 [v5] h)))))
 (fun v23 h =>
 (fun v18 =>
 binP .shr .other a0 (.int .u64 16) fun v19 =>
 cviP .u8 v19 fun v20 =>
 bslP t_uint8 1 [.int .u8 0] [(0, 1, v20)] h fun v21 h =>
 appP t_uint8 1 1 v18 v21 h fun v22 h =>
 k8 [v22] h) (v23.getD 0 .any)))
 (fun v29 h =>
 (fun v24 =>
 binP .shr .other a0 (.int .u64 8) fun v25 =>
 cviP .u8 v25 fun v26 =>
 bslP t_uint8 1 [.int .u8 0] [(0, 1, v26)] h fun v27 h =>
 appP t_uint8 1 1 v24 v27 h fun v28 h =>
 k7 [v28] h) (v29.getD 0 .any)))
 (fun v34 h =>
 (fun v30 =>
 cviP .u8 a0 fun v31 =>
 bslP t_uint8 1 [.int .u8 0] [(0, 1, v31)] h fun v32 h =>
 appP t_uint8 1 1 v30 v32 h fun v33 h =>
 k6 [v33] h) (v34.getD 0 .any)))
 (fun v37 h =>
 (fun v35 =>
 b2sP v35 h fun v36 =>
 K (.tup [v36, .int .i64 0]) h) (v37.getD 0 .any)))
theorem q_field_Num (S : FuncId → List AVal → AHeap A → (AVal → AHeap A → Prop) → Prop) (G : Nat → AHeap A → List AVal → (List AVal → AHeap A → Prop) → Prop) (a0 : AVal) (h : AHeap A) (K : AVal → AHeap A → Prop) : funP Tryz.prog S G Tryz.f81 (.two none .leaf (.two none .leaf (.two none .leaf (.two none .leaf (.two (some [5]) (.two none .leaf (.one [] (.two (some [5]) (.one [] (.two (some [5]) (.one [] (.two (some [5]) .leaf .leaf)) .leaf)) .leaf))) .leaf))))) [a0] h K = p_field_Num S G a0 h K := by kernel_rfl
theorem c_field_Num {R : Adts A} {h : AHeap A} {K : AVal → AHeap A → Prop} {a0 : AVal} (hk : p_field_Num (Tri Pr R) (Gives Pr R) a0 h K) : Tri Pr R n_field_Num [a0] h K :=
  tri_of_funP (by kernel_rfl) (fun _ _ _ _ h => h) (fun _ _ _ _ h => h) Tryz.func81 (by rw [q_field_Num]; exact hk)
/-- bastion/record.Fill -/
def p_record_Fill (S : FuncId → List AVal → AHeap A → (AVal → AHeap A → Prop) → Prop) (G : Nat → AHeap A → List AVal → (List AVal → AHeap A → Prop) → Prop) (a0 : AVal) (h : AHeap A) (K : AVal → AHeap A → Prop) : Prop :=
 lnsP a0 fun v1 =>
 binP .gtr .other v1 (.int .i64 64) fun v2 =>
 iteP v2
 (K (.tup [.str [], .bool false]) h)
 (lnsP a0 fun v3 =>
 binP .sub .other (.int .i64 64) v3 fun v4 =>
 mkslP t_uint8 1 1 [.int .u8 0] v4 v4 h fun v5 h =>
 b2sP v5 h fun v6 =>
 binP .add .other a0 v6 fun v7 =>
 K (.tup [v7, .bool true]) h)
theorem q_record_Fill (S : FuncId → List AVal → AHeap A → (AVal → AHeap A → Prop) → Prop) (G : Nat → AHeap A → List AVal → (List AVal → AHeap A → Prop) → Prop) (a0 : AVal) (h : AHeap A) (K : AVal → AHeap A → Prop) : funP Tryz.prog S G Tryz.f82 .leaf [a0] h K = p_record_Fill S G a0 h K := by kernel_rfl
theorem c_record_Fill {R : Adts A} {h : AHeap A} {K : AVal → AHeap A → Prop} {a0 : AVal} (hk : p_record_Fill (Tri Pr R) (Gives Pr R) a0 h K) : Tri Pr R n_record_Fill [a0] h K :=
  tri_of_funP (by kernel_rfl) (fun _ _ _ _ h => h) (fun _ _ _ _ h => h) Tryz.func82 (by rw [q_record_Fill]; exact hk)
/-- bastion/bastionref1.part -/
def p_ref1_part (S : FuncId → List AVal → AHeap A → (AVal → AHeap A → Prop) → Prop) (G : Nat → AHeap A → List AVal → (List AVal → AHeap A → Prop) → Prop) (a0 : AVal) (h : AHeap A) (K : AVal → AHeap A → Prop) : Prop :=
 boxP t_api_Event 8 a0 h fun v1 h =>
 newP t_api_Event [.int .i64 0, .int .i64 0, .int .i64 0, .int .i64 0, .int .i64 0, .int .i64 0, .int .i64 0, .int .i64 0] h fun v2 h =>
 fadP 0 v1 fun v3 =>
 ldP 1 false v3 h fun v4 =>
 bldP [.int .i64 0, .int .i64 0, .int .i64 0, .int .i64 0, .int .i64 0, .int .i64 0, .int .i64 0, .int .i64 0] [(0, 1, v4)] fun v5 =>
 newP t_api_Event [.int .i64 0, .int .i64 0, .int .i64 0, .int .i64 0, .int .i64 0, .int .i64 0, .int .i64 0, .int .i64 0] h fun v6 h =>
 stP 8 v6 v5 h fun h =>
 joinP G h.length (fun k7 =>
 fadP 0 v1 fun v8 =>
 ldP 1 false v8 h fun v9 =>
 binP .eql .other v9 (.int .i64 0) fun v10 =>
 iteP v10
 (fadP 7 v1 fun v11 =>
 ldP 1 false v11 h fun v12 =>
 fadP 7 v6 fun v13 =>
 stP 1 v13 v12 h fun h =>
 k7 [] h)
 (binP .eql .other v9 (.int .i64 1) fun v14 =>
 iteP v14
 (fadP 1 v1 fun v15 =>
 ldP 1 false v15 h fun v16 =>
 fadP 1 v6 fun v17 =>
 stP 1 v17 v16 h fun h =>
 fadP 4 v1 fun v18 =>
 ldP 1 false v18 h fun v19 =>
 fadP 4 v6 fun v20 =>
 stP 1 v20 v19 h fun h =>
 fadP 5 v1 fun v21 =>
 ldP 1 false v21 h fun v22 =>
 fadP 5 v6 fun v23 =>
 stP 1 v23 v22 h fun h =>
 fadP 6 v1 fun v24 =>
 ldP 1 false v24 h fun v25 =>
 fadP 6 v6 fun v26 =>
 stP 1 v26 v25 h fun h =>
 k7 [] h)
 (binP .eql .other v9 (.int .i64 2) fun v27 =>
 iteP v27
 (fadP 1 v1 fun v28 =>
 ldP 1 false v28 h fun v29 =>
 fadP 1 v6 fun v30 =>
 stP 1 v30 v29 h fun h =>
 fadP 7 v1 fun v31 =>
 ldP 1 false v31 h fun v32 =>
 fadP 7 v6 fun v33 =>
 stP 1 v33 v32 h fun h =>
 k7 [] h)
 (binP .eql .other v9 (.int .i64 3) fun v34 =>
 iteP v34
 (fadP 1 v1 fun v35 =>
 ldP 1 false v35 h fun v36 =>
 fadP 1 v6 fun v37 =>
 stP 1 v37 v36 h fun h =>
 fadP 4 v1 fun v38 =>
 ldP 1 false v38 h fun v39 =>
 fadP 4 v6 fun v40 =>
 stP 1 v40 v39 h fun h =>
 k7 [] h)
 (joinP G h.length (fun k41 =>
 binP .eql .other v9 (.int .i64 4) fun v42 =>
 iteP v42
 (k41 [v42] h)
 (binP .eql .other v9 (.int .i64 7) fun v43 =>
 k41 [v43] h))
 (fun v81 h =>
 (fun v44 =>
 iteP v44
 (fadP 1 v1 fun v45 =>
 ldP 1 false v45 h fun v46 =>
 fadP 1 v6 fun v47 =>
 stP 1 v47 v46 h fun h =>
 k7 [] h)
 (binP .eql .other v9 (.int .i64 5) fun v48 =>
 iteP v48
 (fadP 2 v1 fun v49 =>
 ldP 1 false v49 h fun v50 =>
 fadP 2 v6 fun v51 =>
 stP 1 v51 v50 h fun h =>
 fadP 1 v1 fun v52 =>
 ldP 1 false v52 h fun v53 =>
 fadP 1 v6 fun v54 =>
 stP 1 v54 v53 h fun h =>
 fadP 3 v1 fun v55 =>
 ldP 1 false v55 h fun v56 =>
 fadP 3 v6 fun v57 =>
 stP 1 v57 v56 h fun h =>
 fadP 7 v1 fun v58 =>
 ldP 1 false v58 h fun v59 =>
 fadP 7 v6 fun v60 =>
 stP 1 v60 v59 h fun h =>
 k7 [] h)
 (binP .eql .other v9 (.int .i64 6) fun v61 =>
 iteP v61
 (fadP 2 v1 fun v62 =>
 ldP 1 false v62 h fun v63 =>
 fadP 2 v6 fun v64 =>
 stP 1 v64 v63 h fun h =>
 fadP 4 v1 fun v65 =>
 ldP 1 false v65 h fun v66 =>
 fadP 4 v6 fun v67 =>
 stP 1 v67 v66 h fun h =>
 fadP 5 v1 fun v68 =>
 ldP 1 false v68 h fun v69 =>
 fadP 5 v6 fun v70 =>
 stP 1 v70 v69 h fun h =>
 fadP 7 v1 fun v71 =>
 ldP 1 false v71 h fun v72 =>
 fadP 7 v6 fun v73 =>
 stP 1 v73 v72 h fun h =>
 k7 [] h)
 (binP .eql .other v9 (.int .i64 8) fun v74 =>
 iteP v74
 (k7 [] h)
 (binP .eql .other v9 (.int .i64 9) fun v75 =>
 iteP v75
 (fadP 2 v1 fun v76 =>
 ldP 1 false v76 h fun v77 =>
 fadP 2 v6 fun v78 =>
 stP 1 v78 v77 h fun h =>
 k7 [] h)
 (ldP 8 true v6 h fun v79 =>
 stP 8 v2 v79 h fun h =>
 ldP 8 true v2 h fun v80 =>
 K (.tup [v80, .bool false]) h)))))) (v81.getD 0 .any)))))))
 (fun _ h =>
 ldP 8 true v6 h fun v82 =>
 stP 8 v2 v82 h fun h =>
 ldP 8 true v2 h fun v83 =>
 K (.tup [v83, .bool true]) h)
theorem q_ref1_part (S : FuncId → List AVal → AHeap A → (AVal → AHeap A → Prop) → Prop) (G : Nat → AHeap A → List AVal → (List AVal → AHeap A → Prop) → Prop) (a0 : AVal) (h : AHeap A) (K : AVal → AHeap A → Prop) : funP Tryz.prog S G Tryz.f83 (.two none .leaf (.two none .leaf (.two (some []) (.two none .leaf (.one [] (.two none .leaf (.two none .leaf (.two none .leaf (.two none .leaf (.two none .leaf (.two none .leaf (.two none .leaf (.two none .leaf (.two (some [46]) .leaf .leaf))))))))))) .leaf))) [a0] h K = p_ref1_part S G a0 h K := by kernel_rfl
theorem c_ref1_part {R : Adts A} {h : AHeap A} {K : AVal → AHeap A → Prop} {a0 : AVal} (hk : p_ref1_part (Tri Pr R) (Gives Pr R) a0 h K) : Tri Pr R n_ref1_part [a0] h K :=
  tri_of_funP (by kernel_rfl) (fun _ _ _ _ h => h) (fun _ _ _ _ h => h) Tryz.func83 (by rw [q_ref1_part]; exact hk)
/-- bastion/bastionref1.num -/
def p_ref1_num (S : FuncId → List AVal → AHeap A → (AVal → AHeap A → Prop) → Prop) (G : Nat → AHeap A → List AVal → (List AVal → AHeap A → Prop) → Prop) (a0 : AVal) (h : AHeap A) (K : AVal → AHeap A → Prop) : Prop :=
 binP .geq .other a0 (.int .i64 0) fun v1 =>
 condP v1 true (fun k2 =>
 binP .leq .other a0 (.int .i64 1073741823) fun v3 =>
 k2 v3 h)
 (.bool false) h fun v4 h =>
 K v4 h
theorem q_ref1_num (S : FuncId → List AVal → AHeap A → (AVal → AHeap A → Prop) → Prop) (G : Nat → AHeap A → List AVal → (List AVal → AHeap A → Prop) → Prop) (a0 : AVal) (h : AHeap A) (K : AVal → AHeap A → Prop) : funP Tryz.prog S G Tryz.f84 .leaf [a0] h K = p_ref1_num S G a0 h K := by kernel_rfl
theorem c_ref1_num {R : Adts A} {h : AHeap A} {K : AVal → AHeap A → Prop} {a0 : AVal} (hk : p_ref1_num (Tri Pr R) (Gives Pr R) a0 h K) : Tri Pr R n_ref1_num [a0] h K :=
  tri_of_funP (by kernel_rfl) (fun _ _ _ _ h => h) (fun _ _ _ _ h => h) Tryz.func84 (by rw [q_ref1_num]; exact hk)
/-- bastion/bastionref1.PutEvent -/
def p_ref1_PutEvent (S : FuncId → List AVal → AHeap A → (AVal → AHeap A → Prop) → Prop) (G : Nat → AHeap A → List AVal → (List AVal → AHeap A → Prop) → Prop) (a0 : AVal) (h : AHeap A) (K : AVal → AHeap A → Prop) : Prop :=
 boxP t_api_Event 8 a0 h fun v1 h =>
 ldP 8 true v1 h fun v2 =>
 S n_ref1_EventMay [v2] h fun v3 h =>
 notP v3 fun v4 =>
 iteP v4
 (K (.tup [.str [], .int .i64 700]) h)
 (fadP 0 v1 fun v5 =>
 ldP 1 false v5 h fun v6 =>
 bslP t_int 1 [.int .i64 0] [(0, 1, v6)] h fun v7 h =>
 S n_ref1_Nums [v7] h fun v8 h =>
 joinP G h.length (fun k9 =>
 fadP 0 v1 fun v10 =>
 ldP 1 false v10 h fun v11 =>
 binP .eql .other v11 (.int .i64 0) fun v12 =>
 iteP v12
 (fadP 7 v1 fun v13 =>
 ldP 1 false v13 h fun v14 =>
 bslP t_int 1 [.int .i64 0] [(0, 1, v14)] h fun v15 h =>
 S n_ref1_Nums [v15] h fun v16 h =>
 binP .add .other v8 v16 fun v17 =>
 k9 [v17] h)
 (binP .eql .other v11 (.int .i64 1) fun v18 =>
 iteP v18
 (fadP 1 v1 fun v19 =>
 ldP 1 false v19 h fun v20 =>
 fadP 4 v1 fun v21 =>
 ldP 1 false v21 h fun v22 =>
 fadP 5 v1 fun v23 =>
 ldP 1 false v23 h fun v24 =>
 fadP 6 v1 fun v25 =>
 ldP 1 false v25 h fun v26 =>
 bslP t_int 4 [.int .i64 0, .int .i64 0, .int .i64 0, .int .i64 0] [(0, 1, v20), (1, 1, v22), (2, 1, v24), (3, 1, v26)] h fun v27 h =>
 S n_ref1_Nums [v27] h fun v28 h =>
 binP .add .other v8 v28 fun v29 =>
 k9 [v29] h)
 (binP .eql .other v11 (.int .i64 2) fun v30 =>
 iteP v30
 (fadP 1 v1 fun v31 =>
 ldP 1 false v31 h fun v32 =>
 fadP 7 v1 fun v33 =>
 ldP 1 false v33 h fun v34 =>
 bslP t_int 2 [.int .i64 0, .int .i64 0] [(0, 1, v32), (1, 1, v34)] h fun v35 h =>
 S n_ref1_Nums [v35] h fun v36 h =>
 binP .add .other v8 v36 fun v37 =>
 k9 [v37] h)
 (binP .eql .other v11 (.int .i64 3) fun v38 =>
 iteP v38
 (fadP 1 v1 fun v39 =>
 ldP 1 false v39 h fun v40 =>
 fadP 4 v1 fun v41 =>
 ldP 1 false v41 h fun v42 =>
 bslP t_int 2 [.int .i64 0, .int .i64 0] [(0, 1, v40), (1, 1, v42)] h fun v43 h =>
 S n_ref1_Nums [v43] h fun v44 h =>
 binP .add .other v8 v44 fun v45 =>
 k9 [v45] h)
 (joinP G h.length (fun k46 =>
 binP .eql .other v11 (.int .i64 4) fun v47 =>
 iteP v47
 (k46 [v47] h)
 (binP .eql .other v11 (.int .i64 7) fun v48 =>
 k46 [v48] h))
 (fun v85 h =>
 (fun v49 =>
 iteP v49
 (fadP 1 v1 fun v50 =>
 ldP 1 false v50 h fun v51 =>
 bslP t_int 1 [.int .i64 0] [(0, 1, v51)] h fun v52 h =>
 S n_ref1_Nums [v52] h fun v53 h =>
 binP .add .other v8 v53 fun v54 =>
 k9 [v54] h)
 (binP .eql .other v11 (.int .i64 5) fun v55 =>
 iteP v55
 (fadP 2 v1 fun v56 =>
 ldP 1 false v56 h fun v57 =>
 fadP 1 v1 fun v58 =>
 ldP 1 false v58 h fun v59 =>
 fadP 3 v1 fun v60 =>
 ldP 1 false v60 h fun v61 =>
 fadP 7 v1 fun v62 =>
 ldP 1 false v62 h fun v63 =>
 bslP t_int 4 [.int .i64 0, .int .i64 0, .int .i64 0, .int .i64 0] [(0, 1, v57), (1, 1, v59), (2, 1, v61), (3, 1, v63)] h fun v64 h =>
 S n_ref1_Nums [v64] h fun v65 h =>
 binP .add .other v8 v65 fun v66 =>
 k9 [v66] h)
 (binP .eql .other v11 (.int .i64 6) fun v67 =>
 iteP v67
 (fadP 2 v1 fun v68 =>
 ldP 1 false v68 h fun v69 =>
 fadP 4 v1 fun v70 =>
 ldP 1 false v70 h fun v71 =>
 fadP 5 v1 fun v72 =>
 ldP 1 false v72 h fun v73 =>
 fadP 7 v1 fun v74 =>
 ldP 1 false v74 h fun v75 =>
 bslP t_int 4 [.int .i64 0, .int .i64 0, .int .i64 0, .int .i64 0] [(0, 1, v69), (1, 1, v71), (2, 1, v73), (3, 1, v75)] h fun v76 h =>
 S n_ref1_Nums [v76] h fun v77 h =>
 binP .add .other v8 v77 fun v78 =>
 k9 [v78] h)
 (binP .eql .other v11 (.int .i64 9) fun v79 =>
 iteP v79
 (fadP 2 v1 fun v80 =>
 ldP 1 false v80 h fun v81 =>
 bslP t_int 1 [.int .i64 0] [(0, 1, v81)] h fun v82 h =>
 S n_ref1_Nums [v82] h fun v83 h =>
 binP .add .other v8 v83 fun v84 =>
 k9 [v84] h)
 (k9 [v8] h))))) (v85.getD 0 .any)))))))
 (fun v87 h =>
 (fun v86 =>
 K (.tup [v86, .int .i64 0]) h) (v87.getD 0 .any)))
theorem q_ref1_PutEvent (S : FuncId → List AVal → AHeap A → (AVal → AHeap A → Prop) → Prop) (G : Nat → AHeap A → List AVal → (List AVal → AHeap A → Prop) → Prop) (a0 : AVal) (h : AHeap A) (K : AVal → AHeap A → Prop) : funP Tryz.prog S G Tryz.f85 (.two none .leaf (.two none .leaf (.two none .leaf (.two (some [4]) (.two none .leaf (.one [] (.two none .leaf (.two none .leaf (.two none .leaf (.two none .leaf (.two none .leaf (.two none .leaf (.two none .leaf (.two none .leaf (.two (some [56]) .leaf .leaf))))))))))) .leaf)))) [a0] h K = p_ref1_PutEvent S G a0 h K := by kernel_rfl
theorem c_ref1_PutEvent {R : Adts A} {h : AHeap A} {K : AVal → AHeap A → Prop} {a0 : AVal} (hk : p_ref1_PutEvent (Tri Pr R) (Gives Pr R) a0 h K) : Tri Pr R n_ref1_PutEvent [a0] h K :=
  tri_of_funP (by kernel_rfl) (fun _ _ _ _ h => h) (fun _ _ _ _ h => h) Tryz.func85 (by rw [q_ref1_PutEvent]; exact hk)
/-- bastion/bastionref1.Text -/
def p_ref1_Text (S : FuncId → List AVal → AHeap A → (AVal → AHeap A → Prop) → Prop) (G : Nat → AHeap A → List AVal → (List AVal → AHeap A → Prop) → Prop) (a0 : AVal) (h : AHeap A) (K : AVal → AHeap A → Prop) : Prop :=
 lnsP a0 fun v1 =>
 binP .gtr .other v1 (.int .i64 65536) fun v2 =>
 iteP v2
 (K (.tup [.str [], .int .i64 100]) h)
 (lnsP a0 fun v3 =>
 bslP t_int 1 [.int .i64 0] [(0, 1, v3)] h fun v4 h =>
 S n_ref1_Nums [v4] h fun v5 h =>
 binP .add .other v5 a0 fun v6 =>
 K (.tup [v6, .int .i64 0]) h)
theorem q_ref1_Text (S : FuncId → List AVal → AHeap A → (AVal → AHeap A → Prop) → Prop) (G : Nat → AHeap A → List AVal → (List AVal → AHeap A → Prop) → Prop) (a0 : AVal) (h : AHeap A) (K : AVal → AHeap A → Prop) : funP Tryz.prog S G Tryz.f86 .leaf [a0] h K = p_ref1_Text S G a0 h K := by kernel_rfl
theorem c_ref1_Text {R : Adts A} {h : AHeap A} {K : AVal → AHeap A → Prop} {a0 : AVal} (hk : p_ref1_Text (Tri Pr R) (Gives Pr R) a0 h K) : Tri Pr R n_ref1_Text [a0] h K :=
  tri_of_funP (by kernel_rfl) (fun _ _ _ _ h => h) (fun _ _ _ _ h => h) Tryz.func86 (by rw [q_ref1_Text]; exact hk)
/-- bastion/super.Get -/
def p_super_Get (S : FuncId → List AVal → AHeap A → (AVal → AHeap A → Prop) → Prop) (G : Nat → AHeap A → List AVal → (List AVal → AHeap A → Prop) → Prop) (a0 a1 : AVal) (h : AHeap A) (K : AVal → AHeap A → Prop) : Prop :=
 binP .eql .ptr a0 .nilp fun v1 =>
 iteP v1
 (K (.tup [.int .i64 0, .int .i64 1]) h)
 (bldP [.str [], .int .i64 0, .nili] [(0, 1, a1)] fun v2 =>
 boxP t_field_Reader 3 v2 h fun v3 h =>
 S n_field_Reader_Num [v3] h fun v4 h =>
 nilP v3 fun v5 =>
 fadP 1 v5 fun v6 =>
 ldP 1 false v6 h fun v7 =>
 S n_field_Reader_Num [v3] h fun v8 h =>
 joinP G h.length (fun k9 =>
 nilP v3 fun v10 =>
 fadP 2 v10 fun v11 =>
 ldP 1 false v11 h fun v12 =>
 binP .neq .ifc v12 .nili fun v13 =>
 iteP v13
 (k9 [.bool true] h)
 (lnsP a1 fun v14 =>
 binP .neq .other v14 (.int .i64 64) fun v15 =>
 iteP v15
 (k9 [.bool true] h)
 (S n_super_may [v4] h fun v16 h =>
 notP v16 fun v17 =>
 iteP v17
 (k9 [.bool true] h)
 (subP a1 none (some v7) fun v18 =>
 binP .add .other (.str [115, 117, 112, 101, 114]) v18 fun v19 =>
 S n_craft_IsHash [a0, v19, v8] h fun v20 h =>
 notP v20 fun v21 =>
 iteP v21
 (k9 [.bool true] h)
 (nilP v3 fun v22 =>
 fadP 1 v22 fun v23 =>
 lnsP a1 fun v24 =>
 nilP v3 fun v25 =>
 fadP 1 v25 fun v26 =>
 ldP 1 false v23 h fun v27 =>
 subP a1 (some v27) none fun v28 =>
 ldP 1 false v26 h fun v29 =>
 ldV 1 false v23 h = some v27 ∧
 binP .sub .other v24 v29 fun v30 =>
 mkslP t_uint8 1 1 [.int .u8 0] v30 v30 h fun v31 h =>
 ldV 1 false v23 h = some v27 ∧
 b2sP v31 h fun v32 =>
 ldV 1 false v23 h = some v27 ∧
 binP .neq .other v28 v32 fun v33 =>
 k9 [v33] h)))))
 (fun v35 h =>
 (fun v34 =>
 iteP v34
 (K (.tup [.int .i64 0, .int .i64 1000]) h)
 (K (.tup [v4, .int .i64 0]) h)) (v35.getD 0 .any)))
theorem q_super_Get (S : FuncId → List AVal → AHeap A → (AVal → AHeap A → Prop) → Prop) (G : Nat → AHeap A → List AVal → (List AVal → AHeap A → Prop) → Prop) (a0 a1 : AVal) (h : AHeap A) (K : AVal → AHeap A → Prop) : funP Tryz.prog S G Tryz.f87 (.two none .leaf (.two none .leaf (.two none .leaf (.two none .leaf (.two none .leaf (.two none .leaf (.two none (.two none (.draw (some [65]) (.take 0 (.take 1 (.take 2 (.alt 3 (.take 4 (.take 5 (.split 5 (.skip 6 (.skip 7 (.skip 8 (.take 9 (.take 10 (.known 10 true (.skip 11 (.skip 12 (.skip 13 (.take 14 (.take 15 (.known 15 true (.skip 16 (.skip 17 (.skip 18 (.skip 19 (.skip 20 (.skip 21 (.skip 22 (.skip 23 (.take 24 (.take 25 (.known 25 true (.skip 26 (.skip 27 (.skip 28 (.skip 29 (.skip 30 (.skip 31 (.skip 32 (.skip 33 (.skip 34 (.skip 35 (.skip 36 (.skip 37 (.skip 38 (.skip 39 (.skip 40 (.skip 41 (.take 42 .stop)))))))))))))))))))))))))))))))))))))))) (.take 6 (.take 7 (.take 8 (.take 9 (.take 10 (.split 10 (.skip 11 (.skip 12 (.skip 13 (.take 14 (.take 15 (.known 15 true (.skip 16 (.skip 17 (.skip 18 (.skip 19 (.skip 20 (.skip 21 (.skip 22 (.skip 23 (.take 24 (.take 25 (.known 25 true (.skip 26 (.skip 27 (.skip 28 (.skip 29 (.skip 30 (.skip 31 (.skip 32 (.skip 33 (.skip 34 (.skip 35 (.skip 36 (.skip 37 (.skip 38 (.skip 39 (.skip 40 (.skip 41 (.take 42 .stop)))))))))))))))))))))))))))))))))) (.take 11 (.alt 12 (.take 13 (.take 14 (.take 15 (.split 15 (.skip 16 (.skip 17 (.skip 18 (.skip 19 (.skip 20 (.skip 21 (.skip 22 (.skip 23 (.take 24 (.take 25 (.known 25 true (.skip 26 (.skip 27 (.skip 28 (.skip 29 (.skip 30 (.skip 31 (.skip 32 (.skip 33 (.skip 34 (.skip 35 (.skip 36 (.skip 37 (.skip 38 (.skip 39 (.skip 40 (.skip 41 (.take 42 .stop)))))))))))))))))))))))))))) (.take 16 (.take 17 (.take 18 (.take 19 (.take 20 (.take 21 (.alt 22 (.take 23 (.take 24 (.take 25 (.split 25 (.skip 26 (.skip 27 (.skip 28 (.skip 29 (.skip 30 (.skip 31 (.skip 32 (.skip 33 (.skip 34 (.skip 35 (.skip 36 (.skip 37 (.skip 38 (.skip 39 (.skip 40 (.skip 41 (.take 42 .stop))))))))))))))))) (.take 26 (.take 27 (.take 28 (.take 29 (.take 32 (.take 33 (.take 34 (.take 35 (.take 36 (.load 30 (.take 31 (.alt 37 (.take 38 (.alt 39 (.alt 40 (.take 41 (.take 42 .stop)) .stop) .stop)) .stop)))))))))))))))) .stop))))))))))) .stop))))))))))) .stop))))) .leaf) .leaf))))))) [a0, a1] h K = p_super_Get S G a0 a1 h K := by kernel_rfl
theorem c_super_Get {R : Adts A} {h : AHeap A} {K : AVal → AHeap A → Prop} {a0 a1 : AVal} (hk : p_super_Get (Tri Pr R) (Gives Pr R) a0 a1 h K) : Tri Pr R n_super_Get [a0, a1] h K :=
  tri_of_funP (by kernel_rfl) (fun _ _ _ _ h => h) (fun _ _ _ _ h => h) Tryz.func87 (by rw [q_super_Get]; exact hk)
/-- bastion/super.may -/
def p_super_may (S : FuncId → List AVal → AHeap A → (AVal → AHeap A → Prop) → Prop) (G : Nat → AHeap A → List AVal → (List AVal → AHeap A → Prop) → Prop) (a0 : AVal) (h : AHeap A) (K : AVal → AHeap A → Prop) : Prop :=
 binP .geq .other a0 (.int .i64 1) fun v1 =>
 condP v1 true (fun k2 =>
 binP .leq .other a0 (.int .i64 1023) fun v3 =>
 k2 v3 h)
 (.bool false) h fun v4 h =>
 K v4 h
theorem q_super_may (S : FuncId → List AVal → AHeap A → (AVal → AHeap A → Prop) → Prop) (G : Nat → AHeap A → List AVal → (List AVal → AHeap A → Prop) → Prop) (a0 : AVal) (h : AHeap A) (K : AVal → AHeap A → Prop) : funP Tryz.prog S G Tryz.f88 .leaf [a0] h K = p_super_may S G a0 h K := by kernel_rfl
theorem c_super_may {R : Adts A} {h : AHeap A} {K : AVal → AHeap A → Prop} {a0 : AVal} (hk : p_super_may (Tri Pr R) (Gives Pr R) a0 h K) : Tri Pr R n_super_may [a0] h K :=
  tri_of_funP (by kernel_rfl) (fun _ _ _ _ h => h) (fun _ _ _ _ h => h) Tryz.func88 (by rw [q_super_may]; exact hk)
end Go.AI
