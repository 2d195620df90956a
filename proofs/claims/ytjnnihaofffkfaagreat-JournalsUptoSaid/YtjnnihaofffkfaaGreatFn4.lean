/- The functions as texts over the abstract heap. -/
import Derived.Test.YtjnnihaofffkfaaGreatNm
import Derived.KernelRfl
set_option linter.all false
namespace Go.AI
open Go.Proofs
set_option maxRecDepth 1000000
variable {A : Type}
/-- bastion/record.read -/
def p_record_read (S : FuncId → List AVal → AHeap A → (AVal → AHeap A → Prop) → Prop) (G : Nat → AHeap A → List AVal → (List AVal → AHeap A → Prop) → Prop) (a0 a1 : AVal) (h : AHeap A) (K : AVal → AHeap A → Prop) : Prop :=
 newP t_api_Record (reps 11 (.int .i64 0)) h fun v1 h =>
 bldP [.str [], .int .i64 0, .nili] [(0, 1, a1)] fun v2 =>
 boxP t_field_Reader 3 v2 h fun v3 h =>
 S n_field_Reader_Num [v3] h fun v4 h =>
 S n_field_Reader_Num [v3] h fun v5 h =>
 S n_field_Reader_Num [v3] h fun v6 h =>
 bldP [.int .i64 0, .int .i64 0, .int .i64 0, .int .i64 0, .int .i64 0, .int .i64 0, .int .i64 0, .int .i64 0, .int .i64 0, .int .i64 0, .int .i64 0] [(0, 1, v4), (1, 1, v5), (2, 1, v6)] fun v7 =>
 newP t_api_Record (reps 11 (.int .i64 0)) h fun v8 h =>
 stP 11 v8 v7 h fun h =>
 S n_field_Reader_Text [v3] h fun v9 h =>
 S n_event_Get [v9] h fun v10 h =>
 extP v10 0 fun v11 =>
 extP v10 1 fun v12 =>
 newP t_api_Event [.int .i64 0, .int .i64 0, .int .i64 0, .int .i64 0, .int .i64 0, .int .i64 0, .int .i64 0, .int .i64 0] h fun v13 h =>
 stP 8 v13 v11 h fun h =>
 ldP 8 true v13 h fun v14 =>
 fadP 3 v8 fun v15 =>
 stP 8 v15 v14 h fun h =>
 nilP v3 fun v16 =>
 fadP 1 v16 fun v17 =>
 ldP 1 false v17 h fun v18 =>
 S n_field_Reader_Num [v3] h fun v19 h =>
 nilP v3 fun v20 =>
 fadP 2 v20 fun v21 =>
 ldP 1 false v21 h fun v22 =>
 binP .neq .ifc v22 .nili fun v23 =>
 condP v23 false (fun k24 =>
 binP .neq .other v12 (.int .i64 0) fun v25 =>
 k24 v25 h)
 (.bool true) h fun v26 h =>
 condP v26 false (fun k27 =>
 lnsP a1 fun v28 =>
 binP .neq .other v28 (.int .i64 64) fun v29 =>
 k27 v29 h)
 (.bool true) h fun v30 h =>
 iteP v30
 (bldP [.int .i64 0, .int .i64 0, .int .i64 0, .int .i64 0, .int .i64 0, .int .i64 0, .int .i64 0, .int .i64 0, .int .i64 0, .int .i64 0, .int .i64 0] [] fun v31 =>
 stP 11 v1 v31 h fun h =>
 ldP 11 true v1 h fun v32 =>
 K (.tup [v32, .int .i64 0, .bool false]) h)
 (S n_record_body [v8] h fun v33 h =>
 extP v33 0 fun v34 =>
 extP v33 1 fun v35 =>
 joinP G h.length (fun k36 =>
 notP v35 fun v37 =>
 iteP v37
 (k36 [.bool true] h)
 (subP a1 none (some v18) fun v38 =>
 binP .neq .other v34 v38 fun v39 =>
 iteP v39
 (k36 [.bool true] h)
 (binP .add .other (.str [114, 101, 99, 111, 114, 100]) v34 fun v40 =>
 S n_craft_IsHash [a0, v40, v19] h fun v41 h =>
 notP v41 fun v42 =>
 iteP v42
 (k36 [.bool true] h)
 (nilP v3 fun v43 =>
 fadP 1 v43 fun v44 =>
 lnsP a1 fun v45 =>
 nilP v3 fun v46 =>
 fadP 1 v46 fun v47 =>
 ldP 1 false v44 h fun v48 =>
 subP a1 (some v48) none fun v49 =>
 ldP 1 false v47 h fun v50 =>
 ldV 1 false v44 h = some v48 ∧
 binP .sub .other v45 v50 fun v51 =>
 mkslP t_uint8 1 1 [.int .u8 0] v51 v51 h fun v52 h =>
 ldV 1 false v44 h = some v48 ∧
 b2sP v52 h fun v53 =>
 ldV 1 false v44 h = some v48 ∧
 binP .neq .other v49 v53 fun v54 =>
 k36 [v54] h))))
 (fun v60 h =>
 (fun v55 =>
 iteP v55
 (bldP [.int .i64 0, .int .i64 0, .int .i64 0, .int .i64 0, .int .i64 0, .int .i64 0, .int .i64 0, .int .i64 0, .int .i64 0, .int .i64 0, .int .i64 0] [] fun v56 =>
 stP 11 v1 v56 h fun h =>
 ldP 11 true v1 h fun v57 =>
 K (.tup [v57, .int .i64 0, .bool false]) h)
 (ldP 11 true v8 h fun v58 =>
 stP 11 v1 v58 h fun h =>
 ldP 11 true v1 h fun v59 =>
 K (.tup [v59, v19, .bool true]) h)) (v60.getD 0 .any)))
theorem q_record_read (S : FuncId → List AVal → AHeap A → (AVal → AHeap A → Prop) → Prop) (G : Nat → AHeap A → List AVal → (List AVal → AHeap A → Prop) → Prop) (a0 a1 : AVal) (h : AHeap A) (K : AVal → AHeap A → Prop) : funP Tryz.prog S G Tryz.f89 (.two none .leaf (.two none .leaf (.two none .leaf (.two none .leaf (.two none .leaf (.two none .leaf (.two none .leaf (.two none .leaf (.two none .leaf (.two none (.two none (.draw (some [92]) (.take 0 (.take 1 (.take 2 (.split 2 (.skip 3 (.skip 4 (.skip 5 (.skip 6 (.skip 7 (.take 8 (.take 9 (.known 9 true (.skip 10 (.skip 11 (.skip 12 (.skip 13 (.skip 14 (.skip 15 (.take 16 (.take 17 (.known 17 true (.skip 18 (.skip 19 (.skip 20 (.skip 21 (.skip 22 (.skip 23 (.skip 24 (.skip 25 (.skip 26 (.skip 27 (.skip 28 (.skip 29 (.skip 30 (.skip 31 (.skip 32 (.skip 33 (.take 34 .stop)))))))))))))))))))))))))))))))))) (.take 3 (.take 4 (.take 5 (.take 6 (.take 7 (.take 8 (.take 9 (.split 9 (.skip 10 (.skip 11 (.skip 12 (.skip 13 (.skip 14 (.skip 15 (.take 16 (.take 17 (.known 17 true (.skip 18 (.skip 19 (.skip 20 (.skip 21 (.skip 22 (.skip 23 (.skip 24 (.skip 25 (.skip 26 (.skip 27 (.skip 28 (.skip 29 (.skip 30 (.skip 31 (.skip 32 (.skip 33 (.take 34 .stop)))))))))))))))))))))))))) (.take 10 (.take 11 (.take 12 (.take 13 (.alt 14 (.take 15 (.take 16 (.take 17 (.split 17 (.skip 18 (.skip 19 (.skip 20 (.skip 21 (.skip 22 (.skip 23 (.skip 24 (.skip 25 (.skip 26 (.skip 27 (.skip 28 (.skip 29 (.skip 30 (.skip 31 (.skip 32 (.skip 33 (.take 34 .stop))))))))))))))))) (.take 18 (.take 19 (.take 20 (.take 21 (.take 24 (.take 25 (.take 26 (.take 27 (.take 28 (.load 22 (.take 23 (.alt 29 (.take 30 (.alt 31 (.alt 32 (.take 33 (.take 34 .stop)) .stop) .stop)) .stop)))))))))))))))) .stop)))))))))))))))))) .leaf) .leaf)))))))))) [a0, a1] h K = p_record_read S G a0 a1 h K := by kernel_rfl
theorem c_record_read {R : Adts A} {h : AHeap A} {K : AVal → AHeap A → Prop} {a0 a1 : AVal} (hk : p_record_read (Tri Pr R) (Gives Pr R) a0 a1 h K) : Tri Pr R n_record_read [a0, a1] h K :=
  tri_of_funP (by kernel_rfl) (fun _ _ _ _ h => h) (fun _ _ _ _ h => h) Tryz.func89 (by rw [q_record_read]; exact hk)
/-- (*bastion/bastionref1.Book).made -/
def p_ref1_Book_made (S : FuncId → List AVal → AHeap A → (AVal → AHeap A → Prop) → Prop) (G : Nat → AHeap A → List AVal → (List AVal → AHeap A → Prop) → Prop) (a0 a1 : AVal) (h : AHeap A) (K : AVal → AHeap A → Prop) : Prop :=
 S n_ref1_Book_Name [a0, a1] h fun v1 h =>
 extP v1 0 fun v2 =>
 extP v1 1 fun v3 =>
 binP .neq .other v3 (.int .i64 0) fun v4 =>
 iteP v4
 (K (.tup [.int .i64 0, .int .i64 300]) h)
 (K (.tup [v2, .int .i64 0]) h)
theorem q_ref1_Book_made (S : FuncId → List AVal → AHeap A → (AVal → AHeap A → Prop) → Prop) (G : Nat → AHeap A → List AVal → (List AVal → AHeap A → Prop) → Prop) (a0 a1 : AVal) (h : AHeap A) (K : AVal → AHeap A → Prop) : funP Tryz.prog S G Tryz.f90 .leaf [a0, a1] h K = p_ref1_Book_made S G a0 a1 h K := by kernel_rfl
theorem c_ref1_Book_made {R : Adts A} {h : AHeap A} {K : AVal → AHeap A → Prop} {a0 a1 : AVal} (hk : p_ref1_Book_made (Tri Pr R) (Gives Pr R) a0 a1 h K) : Tri Pr R n_ref1_Book_made [a0, a1] h K :=
  tri_of_funP (by kernel_rfl) (fun _ _ _ _ h => h) (fun _ _ _ _ h => h) Tryz.func90 (by rw [q_ref1_Book_made]; exact hk)
/-- bastion/bastionref1.Num -/
def p_ref1_Num (S : FuncId → List AVal → AHeap A → (AVal → AHeap A → Prop) → Prop) (G : Nat → AHeap A → List AVal → (List AVal → AHeap A → Prop) → Prop) (a0 : AVal) (h : AHeap A) (K : AVal → AHeap A → Prop) : Prop :=
 S n_ref1_num [a0] h fun v1 h =>
 notP v1 fun v2 =>
 iteP v2
 (K (.tup [.str [], .int .i64 100]) h)
 (loopP G (fun v28 h k5 =>
 (fun v3 v4 =>
 binP .geq .other v4 (.int .i64 0) fun v6 =>
 iteP v6
 (joinP G h.length (fun k7 =>
 binP .mul .other (.int .i64 8) v4 fun v8 =>
 cviP .u64 v8 fun v9 =>
 binP .shr .other a0 v9 fun v10 =>
 cviP .u8 v10 fun v11 =>
 binP .neq .other v11 (.int .u8 0) fun v12 =>
 condP v12 false (fun k13 =>
 lenP v3 fun v14 =>
 binP .gtr .other v14 (.int .i64 0) fun v15 =>
 k13 v15 h)
 (.bool true) h fun v16 h =>
 iteP v16
 (bslP t_uint8 1 [.int .u8 0] [(0, 1, v11)] h fun v17 h =>
 appP t_uint8 1 1 v3 v17 h fun v18 h =>
 k7 [v18] h)
 (k7 [v3] h))
 (fun v21 h =>
 (fun v19 =>
 binP .sub .other v4 (.int .i64 1) fun v20 =>
 k5 [v19, v20] h) (v21.getD 0 .any)))
 (lenP v3 fun v22 =>
 cviP .u8 v22 fun v23 =>
 bslP t_uint8 1 [.int .u8 0] [(0, 1, v23)] h fun v24 h =>
 b2sP v24 h fun v25 =>
 b2sP v3 h fun v26 =>
 binP .add .other v25 v26 fun v27 =>
 K (.tup [v27, .int .i64 0]) h)) (v28.getD 0 .any) (v28.getD 1 .any)) [.nils, .int .i64 3] h)
theorem q_ref1_Num (S : FuncId → List AVal → AHeap A → (AVal → AHeap A → Prop) → Prop) (G : Nat → AHeap A → List AVal → (List AVal → AHeap A → Prop) → Prop) (a0 : AVal) (h : AHeap A) (K : AVal → AHeap A → Prop) : funP Tryz.prog S G Tryz.f91 (.two none .leaf (.two none .leaf (.two none .leaf (.two none (.two none .leaf (.one [] (.one [4, 5] (.two none .leaf (.two (some [4]) .leaf .leaf))))) .leaf)))) [a0] h K = p_ref1_Num S G a0 h K := by kernel_rfl
theorem c_ref1_Num {R : Adts A} {h : AHeap A} {K : AVal → AHeap A → Prop} {a0 : AVal} (hk : p_ref1_Num (Tri Pr R) (Gives Pr R) a0 h K) : Tri Pr R n_ref1_Num [a0] h K :=
  tri_of_funP (by kernel_rfl) (fun _ _ _ _ h => h) (fun _ _ _ _ h => h) Tryz.func91 (by rw [q_ref1_Num]; exact hk)
/-- bastion/bastionref1.GetNum -/
def p_ref1_GetNum (S : FuncId → List AVal → AHeap A → (AVal → AHeap A → Prop) → Prop) (G : Nat → AHeap A → List AVal → (List AVal → AHeap A → Prop) → Prop) (a0 a1 : AVal) (h : AHeap A) (K : AVal → AHeap A → Prop) : Prop :=
 binP .lss .other a1 (.int .i64 0) fun v1 =>
 condP v1 false (fun k2 =>
 lnsP a0 fun v3 =>
 binP .gtr .other a1 v3 fun v4 =>
 k2 v4 h)
 (.bool true) h fun v5 h =>
 iteP v5
 (K (.tup [.int .i64 0, .int .i64 0, .int .i64 100]) h)
 (lnsP a0 fun v6 =>
 binP .eql .other a1 v6 fun v7 =>
 iteP v7
 (K (.tup [.int .i64 0, .int .i64 0, .int .i64 101]) h)
 (sixP a0 a1 fun v8 =>
 cviP .i64 v8 fun v9 =>
 binP .gtr .other v9 (.int .i64 4) fun v10 =>
 iteP v10
 (K (.tup [.int .i64 0, .int .i64 0, .int .i64 100]) h)
 (lnsP a0 fun v11 =>
 binP .sub .other v11 a1 fun v12 =>
 binP .sub .other v12 (.int .i64 1) fun v13 =>
 binP .gtr .other v9 v13 fun v14 =>
 iteP v14
 (K (.tup [.int .i64 0, .int .i64 0, .int .i64 101]) h)
 (loopP G (fun v36 h k17 =>
 (fun v15 v16 =>
 binP .leq .other v16 v9 fun v18 =>
 iteP v18
 (binP .shl .other v15 (.int .u64 8) fun v19 =>
 binP .add .other a1 v16 fun v20 =>
 sixP a0 v20 fun v21 =>
 cviP .i64 v21 fun v22 =>
 binP .or .other v19 v22 fun v23 =>
 binP .add .other v16 (.int .i64 1) fun v24 =>
 k17 [v23, v24] h)
 (binP .gtr .other v9 (.int .i64 0) fun v25 =>
 condP v25 true (fun k26 =>
 binP .add .other a1 (.int .i64 1) fun v27 =>
 sixP a0 v27 fun v28 =>
 binP .eql .other v28 (.int .u8 0) fun v29 =>
 k26 v29 h)
 (.bool false) h fun v30 h =>
 condP v30 false (fun k31 =>
 binP .gtr .other v15 (.int .i64 1073741823) fun v32 =>
 k31 v32 h)
 (.bool true) h fun v33 h =>
 iteP v33
 (K (.tup [.int .i64 0, .int .i64 0, .int .i64 100]) h)
 (binP .add .other a1 v9 fun v34 =>
 binP .add .other v34 (.int .i64 1) fun v35 =>
 K (.tup [v15, v35, .int .i64 0]) h))) (v36.getD 0 .any) (v36.getD 1 .any)) [.int .i64 0, .int .i64 1] h))))
theorem q_ref1_GetNum (S : FuncId → List AVal → AHeap A → (AVal → AHeap A → Prop) → Prop) (G : Nat → AHeap A → List AVal → (List AVal → AHeap A → Prop) → Prop) (a0 a1 : AVal) (h : AHeap A) (K : AVal → AHeap A → Prop) : funP Tryz.prog S G Tryz.f92 (.two none .leaf (.two none .leaf (.two none .leaf (.two none .leaf (.two none .leaf (.two none .leaf (.two none .leaf (.two none (.two none .leaf (.one [] (.one [8, 9] .leaf))) .leaf)))))))) [a0, a1] h K = p_ref1_GetNum S G a0 a1 h K := by kernel_rfl
theorem c_ref1_GetNum {R : Adts A} {h : AHeap A} {K : AVal → AHeap A → Prop} {a0 a1 : AVal} (hk : p_ref1_GetNum (Tri Pr R) (Gives Pr R) a0 a1 h K) : Tri Pr R n_ref1_GetNum [a0, a1] h K :=
  tri_of_funP (by kernel_rfl) (fun _ _ _ _ h => h) (fun _ _ _ _ h => h) Tryz.func92 (by rw [q_ref1_GetNum]; exact hk)
/-- bastion/bastionref1.GetText -/
def p_ref1_GetText (S : FuncId → List AVal → AHeap A → (AVal → AHeap A → Prop) → Prop) (G : Nat → AHeap A → List AVal → (List AVal → AHeap A → Prop) → Prop) (a0 a1 : AVal) (h : AHeap A) (K : AVal → AHeap A → Prop) : Prop :=
 S n_ref1_GetNum [a0, a1] h fun v1 h =>
 extP v1 0 fun v2 =>
 extP v1 1 fun v3 =>
 extP v1 2 fun v4 =>
 binP .neq .other v4 (.int .i64 0) fun v5 =>
 iteP v5
 (K (.tup [.str [], .int .i64 0, v4]) h)
 (binP .gtr .other v2 (.int .i64 65536) fun v6 =>
 iteP v6
 (K (.tup [.str [], .int .i64 0, .int .i64 100]) h)
 (lnsP a0 fun v7 =>
 binP .sub .other v7 v3 fun v8 =>
 binP .gtr .other v2 v8 fun v9 =>
 iteP v9
 (K (.tup [.str [], .int .i64 0, .int .i64 101]) h)
 (binP .add .other v3 v2 fun v10 =>
 subP a0 (some v3) (some v10) fun v11 =>
 binP .add .other v3 v2 fun v12 =>
 K (.tup [v11, v12, .int .i64 0]) h)))
theorem q_ref1_GetText (S : FuncId → List AVal → AHeap A → (AVal → AHeap A → Prop) → Prop) (G : Nat → AHeap A → List AVal → (List AVal → AHeap A → Prop) → Prop) (a0 a1 : AVal) (h : AHeap A) (K : AVal → AHeap A → Prop) : funP Tryz.prog S G Tryz.f93 .leaf [a0, a1] h K = p_ref1_GetText S G a0 a1 h K := by kernel_rfl
theorem c_ref1_GetText {R : Adts A} {h : AHeap A} {K : AVal → AHeap A → Prop} {a0 a1 : AVal} (hk : p_ref1_GetText (Tri Pr R) (Gives Pr R) a0 a1 h K) : Tri Pr R n_ref1_GetText [a0, a1] h K :=
  tri_of_funP (by kernel_rfl) (fun _ _ _ _ h => h) (fun _ _ _ _ h => h) Tryz.func93 (by rw [q_ref1_GetText]; exact hk)
/-- bastion/event.Put -/
def p_event_Put (S : FuncId → List AVal → AHeap A → (AVal → AHeap A → Prop) → Prop) (G : Nat → AHeap A → List AVal → (List AVal → AHeap A → Prop) → Prop) (a0 : AVal) (h : AHeap A) (K : AVal → AHeap A → Prop) : Prop :=
 boxP t_api_Event 8 a0 h fun v1 h =>
 ldP 8 true v1 h fun v2 =>
 S n_event_May [v2] h fun v3 h =>
 notP v3 fun v4 =>
 iteP v4
 (K (.tup [.str [], .int .i64 700]) h)
 (fadP 0 v1 fun v5 =>
 ldP 1 false v5 h fun v6 =>
 S n_field_Num [v6] h fun v7 h =>
 extP v7 0 fun v8 =>
 extP v7 1 fun v9 =>
 S n_event_parts [v1] h fun v10 h =>
 lenP v10 fun v11 =>
 loopP G (fun v25 h k14 =>
 (fun v12 v13 =>
 binP .lss .other v13 v11 fun v15 =>
 iteP v15
 (idxP 1 v10 v13 fun v16 =>
 ldP 1 false v16 h fun v17 =>
 nilP v17 fun v18 =>
 ldP 1 false v18 h fun v19 =>
 S n_field_Num [v19] h fun v20 h =>
 extP v20 0 fun v21 =>
 extP v20 1 fun v22 =>
 binP .add .other v12 v21 fun v23 =>
 binP .add .other v13 (.int .i64 1) fun v24 =>
 k14 [v23, v24] h)
 (K (.tup [v12, .int .i64 0]) h)) (v25.getD 0 .any) (v25.getD 1 .any)) [v8, .int .i64 0] h)
theorem q_event_Put (S : FuncId → List AVal → AHeap A → (AVal → AHeap A → Prop) → Prop) (G : Nat → AHeap A → List AVal → (List AVal → AHeap A → Prop) → Prop) (a0 : AVal) (h : AHeap A) (K : AVal → AHeap A → Prop) : funP Tryz.prog S G Tryz.f94 (.two none .leaf (.two none .leaf (.two none .leaf (.two none (.two none .leaf (.one [] (.one [4, 21] .leaf))) .leaf)))) [a0] h K = p_event_Put S G a0 h K := by kernel_rfl
theorem c_event_Put {R : Adts A} {h : AHeap A} {K : AVal → AHeap A → Prop} {a0 : AVal} (hk : p_event_Put (Tri Pr R) (Gives Pr R) a0 h K) : Tri Pr R n_event_Put [a0] h K :=
  tri_of_funP (by kernel_rfl) (fun _ _ _ _ h => h) (fun _ _ _ _ h => h) Tryz.func94 (by rw [q_event_Put]; exact hk)
/-- bastion/field.All -/
def p_field_All (S : FuncId → List AVal → AHeap A → (AVal → AHeap A → Prop) → Prop) (G : Nat → AHeap A → List AVal → (List AVal → AHeap A → Prop) → Prop) (a0 : AVal) (h : AHeap A) (K : AVal → AHeap A → Prop) : Prop :=
 lenP a0 fun v1 =>
 loopP G (fun v14 h k4 =>
 (fun v2 v3 =>
 binP .lss .other v3 v1 fun v5 =>
 iteP v5
 (idxP 1 a0 v3 fun v6 =>
 ldP 1 false v6 h fun v7 =>
 S n_field_Num [v7] h fun v8 h =>
 extP v8 0 fun v9 =>
 extP v8 1 fun v10 =>
 binP .neq .other v10 (.int .i64 0) fun v11 =>
 iteP v11
 (K (.tup [.str [], .bool false]) h)
 (binP .add .other v2 v9 fun v12 =>
 binP .add .other v3 (.int .i64 1) fun v13 =>
 k4 [v12, v13] h))
 (K (.tup [v2, .bool true]) h)) (v14.getD 0 .any) (v14.getD 1 .any)) [.str [], .int .i64 0] h
theorem q_field_All (S : FuncId → List AVal → AHeap A → (AVal → AHeap A → Prop) → Prop) (G : Nat → AHeap A → List AVal → (List AVal → AHeap A → Prop) → Prop) (a0 : AVal) (h : AHeap A) (K : AVal → AHeap A → Prop) : funP Tryz.prog S G Tryz.f95 (.two none .leaf (.two none .leaf (.two none (.two none .leaf (.one [] (.one [4, 11] .leaf))) .leaf))) [a0] h K = p_field_All S G a0 h K := by kernel_rfl
theorem c_field_All {R : Adts A} {h : AHeap A} {K : AVal → AHeap A → Prop} {a0 : AVal} (hk : p_field_All (Tri Pr R) (Gives Pr R) a0 h K) : Tri Pr R n_field_All [a0] h K :=
  tri_of_funP (by kernel_rfl) (fun _ _ _ _ h => h) (fun _ _ _ _ h => h) Tryz.func95 (by rw [q_field_All]; exact hk)
/-- bastion/field.Text -/
def p_field_Text (S : FuncId → List AVal → AHeap A → (AVal → AHeap A → Prop) → Prop) (G : Nat → AHeap A → List AVal → (List AVal → AHeap A → Prop) → Prop) (a0 : AVal) (h : AHeap A) (K : AVal → AHeap A → Prop) : Prop :=
 lnsP a0 fun v1 =>
 binP .gtr .other v1 (.int .i64 65536) fun v2 =>
 iteP v2
 (K (.tup [.str [], .int .i64 100]) h)
 (lnsP a0 fun v3 =>
 S n_field_Num [v3] h fun v4 h =>
 extP v4 0 fun v5 =>
 extP v4 1 fun v6 =>
 binP .add .other v5 a0 fun v7 =>
 K (.tup [v7, v6]) h)
theorem q_field_Text (S : FuncId → List AVal → AHeap A → (AVal → AHeap A → Prop) → Prop) (G : Nat → AHeap A → List AVal → (List AVal → AHeap A → Prop) → Prop) (a0 : AVal) (h : AHeap A) (K : AVal → AHeap A → Prop) : funP Tryz.prog S G Tryz.f96 .leaf [a0] h K = p_field_Text S G a0 h K := by kernel_rfl
theorem c_field_Text {R : Adts A} {h : AHeap A} {K : AVal → AHeap A → Prop} {a0 : AVal} (hk : p_field_Text (Tri Pr R) (Gives Pr R) a0 h K) : Tri Pr R n_field_Text [a0] h K :=
  tri_of_funP (by kernel_rfl) (fun _ _ _ _ h => h) (fun _ _ _ _ h => h) Tryz.func96 (by rw [q_field_Text]; exact hk)
/-- bastion/craft.named -/
def p_craft_named (S : FuncId → List AVal → AHeap A → (AVal → AHeap A → Prop) → Prop) (G : Nat → AHeap A → List AVal → (List AVal → AHeap A → Prop) → Prop) (a0 a1 a2 : AVal) (h : AHeap A) (K : AVal → AHeap A → Prop) : Prop :=
 binP .eql .ptr a0 .nilp fun v1 =>
 iteP v1
 (K (.tup [.int .i64 0, .int .i64 1]) h)
 (notP a2 fun v2 =>
 iteP v2
 (K (.tup [.int .i64 0, .int .i64 300]) h)
 (S n_book_Book_Name [a0, a1] h fun v3 h =>
 extP v3 0 fun v4 =>
 extP v3 1 fun v5 =>
 binP .neq .other v5 (.int .i64 0) fun v6 =>
 iteP v6
 (K (.tup [.int .i64 0, .int .i64 300]) h)
 (K (.tup [v4, .int .i64 0]) h)))
theorem q_craft_named (S : FuncId → List AVal → AHeap A → (AVal → AHeap A → Prop) → Prop) (G : Nat → AHeap A → List AVal → (List AVal → AHeap A → Prop) → Prop) (a0 a1 a2 : AVal) (h : AHeap A) (K : AVal → AHeap A → Prop) : funP Tryz.prog S G Tryz.f97 .leaf [a0, a1, a2] h K = p_craft_named S G a0 a1 a2 h K := by kernel_rfl
theorem c_craft_named {R : Adts A} {h : AHeap A} {K : AVal → AHeap A → Prop} {a0 a1 a2 : AVal} (hk : p_craft_named (Tri Pr R) (Gives Pr R) a0 a1 a2 h K) : Tri Pr R n_craft_named [a0, a1, a2] h K :=
  tri_of_funP (by kernel_rfl) (fun _ _ _ _ h => h) (fun _ _ _ _ h => h) Tryz.func97 (by rw [q_craft_named]; exact hk)
/-- bastion/field.width -/
def p_field_width (S : FuncId → List AVal → AHeap A → (AVal → AHeap A → Prop) → Prop) (G : Nat → AHeap A → List AVal → (List AVal → AHeap A → Prop) → Prop) (a0 : AVal) (h : AHeap A) (K : AVal → AHeap A → Prop) : Prop :=
 loopP G (fun v7 h k3 =>
 (fun v1 v2 =>
 binP .gtr .other v1 (.int .i64 0) fun v4 =>
 iteP v4
 (binP .add .other v2 (.int .i64 1) fun v5 =>
 binP .shr .other v1 (.int .u64 8) fun v6 =>
 k3 [v6, v5] h)
 (K v2 h)) (v7.getD 0 .any) (v7.getD 1 .any)) [a0, .int .i64 0] h
theorem q_field_width (S : FuncId → List AVal → AHeap A → (AVal → AHeap A → Prop) → Prop) (G : Nat → AHeap A → List AVal → (List AVal → AHeap A → Prop) → Prop) (a0 : AVal) (h : AHeap A) (K : AVal → AHeap A → Prop) : funP Tryz.prog S G Tryz.f98 (.two none .leaf (.two none .leaf (.two none (.one [] (.one [0, 3] .leaf)) .leaf))) [a0] h K = p_field_width S G a0 h K := by kernel_rfl
theorem c_field_width {R : Adts A} {h : AHeap A} {K : AVal → AHeap A → Prop} {a0 : AVal} (hk : p_field_width (Tri Pr R) (Gives Pr R) a0 h K) : Tri Pr R n_field_width [a0] h K :=
  tri_of_funP (by kernel_rfl) (fun _ _ _ _ h => h) (fun _ _ _ _ h => h) Tryz.func98 (by rw [q_field_width]; exact hk)
/-- (*bastion/field.Reader).Num -/
def p_field_Reader_Num (S : FuncId → List AVal → AHeap A → (AVal → AHeap A → Prop) → Prop) (G : Nat → AHeap A → List AVal → (List AVal → AHeap A → Prop) → Prop) (a0 : AVal) (h : AHeap A) (K : AVal → AHeap A → Prop) : Prop :=
 nilP a0 fun v1 =>
 fadP 2 v1 fun v2 =>
 ldP 1 false v2 h fun v3 =>
 binP .neq .ifc v3 .nili fun v4 =>
 iteP v4
 (K (.int .i64 0) h)
 (nilP a0 fun v5 =>
 fadP 0 v5 fun v6 =>
 nilP a0 fun v7 =>
 fadP 1 v7 fun v8 =>
 ldP 1 false v6 h fun v9 =>
 ldP 1 false v8 h fun v10 =>
 ldV 1 false v6 h = some v9 ∧
 S n_field_num [v9, v10] h fun v11 h =>
 extP v11 0 fun v12 =>
 extP v11 1 fun v13 =>
 extP v11 2 fun v14 =>
 nilP a0 fun v15 =>
 fadP 1 v15 fun v16 =>
 stP 1 v16 v13 h fun h =>
 nilP a0 fun v17 =>
 fadP 2 v17 fun v18 =>
 stP 1 v18 v14 h fun h =>
 K v12 h)
theorem q_field_Reader_Num (S : FuncId → List AVal → AHeap A → (AVal → AHeap A → Prop) → Prop) (G : Nat → AHeap A → List AVal → (List AVal → AHeap A → Prop) → Prop) (a0 : AVal) (h : AHeap A) (K : AVal → AHeap A → Prop) : funP Tryz.prog S G Tryz.f99 (.two none .leaf (.two none .leaf (.two none (.draw none (.take 0 (.take 1 (.take 2 (.take 4 (.take 5 (.take 6 (.load 3 (.alt 7 (.alt 8 (.take 9 (.take 10 (.take 11 (.take 12 (.take 13 (.take 14 (.take 15 .stop))))))) .stop) .stop))))))))) .leaf))) [a0] h K = p_field_Reader_Num S G a0 h K := by kernel_rfl
theorem c_field_Reader_Num {R : Adts A} {h : AHeap A} {K : AVal → AHeap A → Prop} {a0 : AVal} (hk : p_field_Reader_Num (Tri Pr R) (Gives Pr R) a0 h K) : Tri Pr R n_field_Reader_Num [a0] h K :=
  tri_of_funP (by kernel_rfl) (fun _ _ _ _ h => h) (fun _ _ _ _ h => h) Tryz.func99 (by rw [q_field_Reader_Num]; exact hk)
/-- bastion/craft.IsHash -/
def p_craft_IsHash (S : FuncId → List AVal → AHeap A → (AVal → AHeap A → Prop) → Prop) (G : Nat → AHeap A → List AVal → (List AVal → AHeap A → Prop) → Prop) (a0 a1 a2 : AVal) (h : AHeap A) (K : AVal → AHeap A → Prop) : Prop :=
 binP .add .other (.str [72]) a1 fun v1 =>
 S n_craft_is [a0, v1, a2] h fun v2 h =>
 K v2 h
theorem q_craft_IsHash (S : FuncId → List AVal → AHeap A → (AVal → AHeap A → Prop) → Prop) (G : Nat → AHeap A → List AVal → (List AVal → AHeap A → Prop) → Prop) (a0 a1 a2 : AVal) (h : AHeap A) (K : AVal → AHeap A → Prop) : funP Tryz.prog S G Tryz.f100 .leaf [a0, a1, a2] h K = p_craft_IsHash S G a0 a1 a2 h K := by kernel_rfl
theorem c_craft_IsHash {R : Adts A} {h : AHeap A} {K : AVal → AHeap A → Prop} {a0 a1 a2 : AVal} (hk : p_craft_IsHash (Tri Pr R) (Gives Pr R) a0 a1 a2 h K) : Tri Pr R n_craft_IsHash [a0, a1, a2] h K :=
  tri_of_funP (by kernel_rfl) (fun _ _ _ _ h => h) (fun _ _ _ _ h => h) Tryz.func100 (by rw [q_craft_IsHash]; exact hk)
/-- bastion/event.Get -/
def p_event_Get (S : FuncId → List AVal → AHeap A → (AVal → AHeap A → Prop) → Prop) (G : Nat → AHeap A → List AVal → (List AVal → AHeap A → Prop) → Prop) (a0 : AVal) (h : AHeap A) (K : AVal → AHeap A → Prop) : Prop :=
 newP t_api_Event [.int .i64 0, .int .i64 0, .int .i64 0, .int .i64 0, .int .i64 0, .int .i64 0, .int .i64 0, .int .i64 0] h fun v1 h =>
 bldP [.str [], .int .i64 0, .nili] [(0, 1, a0)] fun v2 =>
 boxP t_field_Reader 3 v2 h fun v3 h =>
 S n_field_Reader_Num [v3] h fun v4 h =>
 bldP [.int .i64 0, .int .i64 0, .int .i64 0, .int .i64 0, .int .i64 0, .int .i64 0, .int .i64 0, .int .i64 0] [(0, 1, v4)] fun v5 =>
 newP t_api_Event [.int .i64 0, .int .i64 0, .int .i64 0, .int .i64 0, .int .i64 0, .int .i64 0, .int .i64 0, .int .i64 0] h fun v6 h =>
 stP 8 v6 v5 h fun h =>
 S n_event_parts [v6] h fun v7 h =>
 lenP v7 fun v8 =>
 loopP G (fun v28 h k10 =>
 (fun v9 =>
 binP .lss .other v9 v8 fun v11 =>
 iteP v11
 (idxP 1 v7 v9 fun v12 =>
 ldP 1 false v12 h fun v13 =>
 S n_field_Reader_Num [v3] h fun v14 h =>
 nilP v13 fun v15 =>
 stP 1 v15 v14 h fun h =>
 binP .add .other v9 (.int .i64 1) fun v16 =>
 k10 [v16] h)
 (S n_field_Reader_Done [v3] h fun v17 h =>
 notP v17 fun v18 =>
 condP v18 false (fun k19 =>
 ldP 8 true v6 h fun v20 =>
 S n_event_May [v20] h fun v21 h =>
 notP v21 fun v22 =>
 k19 v22 h)
 (.bool true) h fun v23 h =>
 iteP v23
 (bldP [.int .i64 0, .int .i64 0, .int .i64 0, .int .i64 0, .int .i64 0, .int .i64 0, .int .i64 0, .int .i64 0] [] fun v24 =>
 stP 8 v1 v24 h fun h =>
 ldP 8 true v1 h fun v25 =>
 K (.tup [v25, .int .i64 700]) h)
 (ldP 8 true v6 h fun v26 =>
 stP 8 v1 v26 h fun h =>
 ldP 8 true v1 h fun v27 =>
 K (.tup [v27, .int .i64 0]) h))) (v28.getD 0 .any)) [.int .i64 0] h
theorem q_event_Get (S : FuncId → List AVal → AHeap A → (AVal → AHeap A → Prop) → Prop) (G : Nat → AHeap A → List AVal → (List AVal → AHeap A → Prop) → Prop) (a0 : AVal) (h : AHeap A) (K : AVal → AHeap A → Prop) : funP Tryz.prog S G Tryz.f101 (.two none .leaf (.two none .leaf (.two none .leaf (.two none (.two none .leaf (.one [] (.one [16] .leaf))) .leaf)))) [a0] h K = p_event_Get S G a0 h K := by kernel_rfl
theorem c_event_Get {R : Adts A} {h : AHeap A} {K : AVal → AHeap A → Prop} {a0 : AVal} (hk : p_event_Get (Tri Pr R) (Gives Pr R) a0 h K) : Tri Pr R n_event_Get [a0] h K :=
  tri_of_funP (by kernel_rfl) (fun _ _ _ _ h => h) (fun _ _ _ _ h => h) Tryz.func101 (by rw [q_event_Get]; exact hk)
/-- (*bastion/field.Reader).Text -/
def p_field_Reader_Text (S : FuncId → List AVal → AHeap A → (AVal → AHeap A → Prop) → Prop) (G : Nat → AHeap A → List AVal → (List AVal → AHeap A → Prop) → Prop) (a0 : AVal) (h : AHeap A) (K : AVal → AHeap A → Prop) : Prop :=
 nilP a0 fun v1 =>
 fadP 2 v1 fun v2 =>
 ldP 1 false v2 h fun v3 =>
 binP .neq .ifc v3 .nili fun v4 =>
 iteP v4
 (K (.str []) h)
 (nilP a0 fun v5 =>
 fadP 0 v5 fun v6 =>
 nilP a0 fun v7 =>
 fadP 1 v7 fun v8 =>
 ldP 1 false v6 h fun v9 =>
 ldP 1 false v8 h fun v10 =>
 ldV 1 false v6 h = some v9 ∧
 S n_field_text [v9, v10] h fun v11 h =>
 extP v11 0 fun v12 =>
 extP v11 1 fun v13 =>
 extP v11 2 fun v14 =>
 nilP a0 fun v15 =>
 fadP 1 v15 fun v16 =>
 stP 1 v16 v13 h fun h =>
 nilP a0 fun v17 =>
 fadP 2 v17 fun v18 =>
 stP 1 v18 v14 h fun h =>
 K v12 h)
theorem q_field_Reader_Text (S : FuncId → List AVal → AHeap A → (AVal → AHeap A → Prop) → Prop) (G : Nat → AHeap A → List AVal → (List AVal → AHeap A → Prop) → Prop) (a0 : AVal) (h : AHeap A) (K : AVal → AHeap A → Prop) : funP Tryz.prog S G Tryz.f102 (.two none .leaf (.two none .leaf (.two none (.draw none (.take 0 (.take 1 (.take 2 (.take 4 (.take 5 (.take 6 (.load 3 (.alt 7 (.alt 8 (.take 9 (.take 10 (.take 11 (.take 12 (.take 13 (.take 14 (.take 15 .stop))))))) .stop) .stop))))))))) .leaf))) [a0] h K = p_field_Reader_Text S G a0 h K := by kernel_rfl
theorem c_field_Reader_Text {R : Adts A} {h : AHeap A} {K : AVal → AHeap A → Prop} {a0 : AVal} (hk : p_field_Reader_Text (Tri Pr R) (Gives Pr R) a0 h K) : Tri Pr R n_field_Reader_Text [a0] h K :=
  tri_of_funP (by kernel_rfl) (fun _ _ _ _ h => h) (fun _ _ _ _ h => h) Tryz.func102 (by rw [q_field_Reader_Text]; exact hk)
/-- bastion/field.num -/
def p_field_num (S : FuncId → List AVal → AHeap A → (AVal → AHeap A → Prop) → Prop) (G : Nat → AHeap A → List AVal → (List AVal → AHeap A → Prop) → Prop) (a0 a1 : AVal) (h : AHeap A) (K : AVal → AHeap A → Prop) : Prop :=
 binP .lss .other a1 (.int .i64 0) fun v1 =>
 condP v1 false (fun k2 =>
 lnsP a0 fun v3 =>
 binP .gtr .other a1 v3 fun v4 =>
 k2 v4 h)
 (.bool true) h fun v5 h =>
 iteP v5
 (mkiP t_api_Errno (.int .i64 100) fun v6 =>
 bldP [.int .i64 0, .nili] [(0, 1, a1), (1, 1, v6)] fun v7 =>
 boxP t_field_Fault 2 v7 h fun v8 h =>
 mkiP t_p_field_Fault v8 fun v9 =>
 K (.tup [.int .i64 0, .int .i64 0, v9]) h)
 (lnsP a0 fun v10 =>
 binP .eql .other a1 v10 fun v11 =>
 iteP v11
 (mkiP t_api_Errno (.int .i64 101) fun v12 =>
 bldP [.int .i64 0, .nili] [(0, 1, a1), (1, 1, v12)] fun v13 =>
 boxP t_field_Fault 2 v13 h fun v14 h =>
 mkiP t_p_field_Fault v14 fun v15 =>
 K (.tup [.int .i64 0, .int .i64 0, v15]) h)
 (sixP a0 a1 fun v16 =>
 cviP .i64 v16 fun v17 =>
 binP .add .other a1 (.int .i64 1) fun v18 =>
 subP a0 (some v18) none fun v19 =>
 binP .gtr .other v17 (.int .i64 4) fun v20 =>
 iteP v20
 (mkiP t_api_Errno (.int .i64 100) fun v21 =>
 bldP [.int .i64 0, .nili] [(0, 1, a1), (1, 1, v21)] fun v22 =>
 boxP t_field_Fault 2 v22 h fun v23 h =>
 mkiP t_p_field_Fault v23 fun v24 =>
 K (.tup [.int .i64 0, .int .i64 0, v24]) h)
 (lnsP v19 fun v25 =>
 binP .gtr .other v17 v25 fun v26 =>
 iteP v26
 (binP .add .other a1 (.int .i64 1) fun v27 =>
 mkiP t_api_Errno (.int .i64 101) fun v28 =>
 bldP [.int .i64 0, .nili] [(0, 1, v27), (1, 1, v28)] fun v29 =>
 boxP t_field_Fault 2 v29 h fun v30 h =>
 mkiP t_p_field_Fault v30 fun v31 =>
 K (.tup [.int .i64 0, .int .i64 0, v31]) h)
 (subP v19 none (some v17) fun v32 =>
 s2bP t_uint8 v32 h fun v33 h =>
 lenP v33 fun v34 =>
 loopP G (fun v57 h k37 =>
 (fun v35 v36 =>
 binP .lss .other v36 v34 fun v38 =>
 iteP v38
 (idxP 1 v33 v36 fun v39 =>
 ldP 1 false v39 h fun v40 =>
 binP .shl .other v35 (.int .u64 8) fun v41 =>
 cviP .i64 v40 fun v42 =>
 binP .or .other v41 v42 fun v43 =>
 binP .add .other v36 (.int .i64 1) fun v44 =>
 k37 [v43, v44] h)
 (S n_field_width [v35] h fun v45 h =>
 binP .neq .other v45 v17 fun v46 =>
 condP v46 false (fun k47 =>
 binP .gtr .other v35 (.int .i64 1073741823) fun v48 =>
 k47 v48 h)
 (.bool true) h fun v49 h =>
 iteP v49
 (binP .add .other a1 (.int .i64 1) fun v50 =>
 mkiP t_api_Errno (.int .i64 100) fun v51 =>
 bldP [.int .i64 0, .nili] [(0, 1, v50), (1, 1, v51)] fun v52 =>
 boxP t_field_Fault 2 v52 h fun v53 h =>
 mkiP t_p_field_Fault v53 fun v54 =>
 K (.tup [.int .i64 0, .int .i64 0, v54]) h)
 (binP .add .other a1 (.int .i64 1) fun v55 =>
 binP .add .other v55 v17 fun v56 =>
 K (.tup [v35, v56, .nili]) h))) (v57.getD 0 .any) (v57.getD 1 .any)) [.int .i64 0, .int .i64 0] h))))
theorem q_field_num (S : FuncId → List AVal → AHeap A → (AVal → AHeap A → Prop) → Prop) (G : Nat → AHeap A → List AVal → (List AVal → AHeap A → Prop) → Prop) (a0 a1 : AVal) (h : AHeap A) (K : AVal → AHeap A → Prop) : funP Tryz.prog S G Tryz.f103 (.two none .leaf (.two none .leaf (.two none (.draw none (.take 0 (.take 1 (.take 2 (.take 3 (.take 4 (.take 5 (.take 6 (.take 7 (.take 8 (.take 9 .stop))))))))))) (.two none .leaf (.two none .leaf (.two none (.two none .leaf (.one [] (.one [9, 68] .leaf))) .leaf)))))) [a0, a1] h K = p_field_num S G a0 a1 h K := by kernel_rfl
theorem c_field_num {R : Adts A} {h : AHeap A} {K : AVal → AHeap A → Prop} {a0 a1 : AVal} (hk : p_field_num (Tri Pr R) (Gives Pr R) a0 a1 h K) : Tri Pr R n_field_num [a0, a1] h K :=
  tri_of_funP (by kernel_rfl) (fun _ _ _ _ h => h) (fun _ _ _ _ h => h) Tryz.func103 (by rw [q_field_num]; exact hk)
/-- bastion/craft.is -/
def p_craft_is (S : FuncId → List AVal → AHeap A → (AVal → AHeap A → Prop) → Prop) (G : Nat → AHeap A → List AVal → (List AVal → AHeap A → Prop) → Prop) (a0 a1 a2 : AVal) (h : AHeap A) (K : AVal → AHeap A → Prop) : Prop :=
 S n_book_Book_Find [a0, a1] h fun v1 h =>
 extP v1 0 fun v2 =>
 extP v1 1 fun v3 =>
 condP v3 true (fun k4 =>
 binP .eql .other v2 a2 fun v5 =>
 k4 v5 h)
 (.bool false) h fun v6 h =>
 K v6 h
theorem q_craft_is (S : FuncId → List AVal → AHeap A → (AVal → AHeap A → Prop) → Prop) (G : Nat → AHeap A → List AVal → (List AVal → AHeap A → Prop) → Prop) (a0 a1 a2 : AVal) (h : AHeap A) (K : AVal → AHeap A → Prop) : funP Tryz.prog S G Tryz.f104 .leaf [a0, a1, a2] h K = p_craft_is S G a0 a1 a2 h K := by kernel_rfl
theorem c_craft_is {R : Adts A} {h : AHeap A} {K : AVal → AHeap A → Prop} {a0 a1 a2 : AVal} (hk : p_craft_is (Tri Pr R) (Gives Pr R) a0 a1 a2 h K) : Tri Pr R n_craft_is [a0, a1, a2] h K :=
  tri_of_funP (by kernel_rfl) (fun _ _ _ _ h => h) (fun _ _ _ _ h => h) Tryz.func104 (by rw [q_craft_is]; exact hk)
/-- (*bastion/field.Reader).Done -/
def p_field_Reader_Done (S : FuncId → List AVal → AHeap A → (AVal → AHeap A → Prop) → Prop) (G : Nat → AHeap A → List AVal → (List AVal → AHeap A → Prop) → Prop) (a0 : AVal) (h : AHeap A) (K : AVal → AHeap A → Prop) : Prop :=
 joinP G h.length (fun k1 =>
 nilP a0 fun v2 =>
 fadP 2 v2 fun v3 =>
 ldP 1 false v3 h fun v4 =>
 binP .eql .ifc v4 .nili fun v5 =>
 iteP v5
 (nilP a0 fun v6 =>
 fadP 1 v6 fun v7 =>
 nilP a0 fun v8 =>
 fadP 0 v8 fun v9 =>
 ldP 1 false v7 h fun v10 =>
 ldP 1 false v9 h fun v11 =>
 ldV 1 false v7 h = some v10 ∧
 lnsP v11 fun v12 =>
 binP .eql .other v10 v12 fun v13 =>
 k1 [v13] h)
 (k1 [.bool false] h))
 (fun v15 h =>
 (fun v14 =>
 K v14 h) (v15.getD 0 .any))
theorem q_field_Reader_Done (S : FuncId → List AVal → AHeap A → (AVal → AHeap A → Prop) → Prop) (G : Nat → AHeap A → List AVal → (List AVal → AHeap A → Prop) → Prop) (a0 : AVal) (h : AHeap A) (K : AVal → AHeap A → Prop) : funP Tryz.prog S G Tryz.f105 (.two none .leaf (.two none (.draw (some [2]) (.take 0 (.take 1 (.take 2 (.alt 3 (.take 4 (.take 5 (.split 5 (.take 6 (.take 7 (.take 8 (.take 10 (.take 11 (.take 12 (.load 9 (.alt 13 (.take 14 (.take 15 (.take 16 (.take 17 .stop)))) .stop)))))))) (.skip 6 (.skip 7 (.skip 8 (.skip 9 (.skip 10 (.skip 11 (.skip 12 (.skip 13 (.skip 14 (.skip 15 (.take 16 (.take 17 .stop))))))))))))))) .stop))))) .leaf)) [a0] h K = p_field_Reader_Done S G a0 h K := by kernel_rfl
theorem c_field_Reader_Done {R : Adts A} {h : AHeap A} {K : AVal → AHeap A → Prop} {a0 : AVal} (hk : p_field_Reader_Done (Tri Pr R) (Gives Pr R) a0 h K) : Tri Pr R n_field_Reader_Done [a0] h K :=
  tri_of_funP (by kernel_rfl) (fun _ _ _ _ h => h) (fun _ _ _ _ h => h) Tryz.func105 (by rw [q_field_Reader_Done]; exact hk)
/-- bastion/field.text -/
def p_field_text (S : FuncId → List AVal → AHeap A → (AVal → AHeap A → Prop) → Prop) (G : Nat → AHeap A → List AVal → (List AVal → AHeap A → Prop) → Prop) (a0 a1 : AVal) (h : AHeap A) (K : AVal → AHeap A → Prop) : Prop :=
 S n_field_num [a0, a1] h fun v1 h =>
 extP v1 0 fun v2 =>
 extP v1 1 fun v3 =>
 extP v1 2 fun v4 =>
 binP .neq .ifc v4 .nili fun v5 =>
 iteP v5
 (bldP [.int .i64 0, .nili] [(0, 1, a1), (1, 1, v4)] fun v6 =>
 boxP t_field_Fault 2 v6 h fun v7 h =>
 mkiP t_p_field_Fault v7 fun v8 =>
 K (.tup [.str [], .int .i64 0, v8]) h)
 (binP .gtr .other v2 (.int .i64 65536) fun v9 =>
 iteP v9
 (mkiP t_api_Errno (.int .i64 100) fun v10 =>
 bldP [.int .i64 0, .nili] [(0, 1, a1), (1, 1, v10)] fun v11 =>
 boxP t_field_Fault 2 v11 h fun v12 h =>
 mkiP t_p_field_Fault v12 fun v13 =>
 K (.tup [.str [], .int .i64 0, v13]) h)
 (lnsP a0 fun v14 =>
 binP .sub .other v14 v3 fun v15 =>
 binP .gtr .other v2 v15 fun v16 =>
 iteP v16
 (mkiP t_api_Errno (.int .i64 101) fun v17 =>
 bldP [.int .i64 0, .nili] [(0, 1, v3), (1, 1, v17)] fun v18 =>
 boxP t_field_Fault 2 v18 h fun v19 h =>
 mkiP t_p_field_Fault v19 fun v20 =>
 K (.tup [.str [], .int .i64 0, v20]) h)
 (binP .add .other v3 v2 fun v21 =>
 subP a0 (some v3) (some v21) fun v22 =>
 binP .add .other v3 v2 fun v23 =>
 K (.tup [v22, v23, .nili]) h)))
theorem q_field_text (S : FuncId → List AVal → AHeap A → (AVal → AHeap A → Prop) → Prop) (G : Nat → AHeap A → List AVal → (List AVal → AHeap A → Prop) → Prop) (a0 a1 : AVal) (h : AHeap A) (K : AVal → AHeap A → Prop) : funP Tryz.prog S G Tryz.f106 .leaf [a0, a1] h K = p_field_text S G a0 a1 h K := by kernel_rfl
theorem c_field_text {R : Adts A} {h : AHeap A} {K : AVal → AHeap A → Prop} {a0 a1 : AVal} (hk : p_field_text (Tri Pr R) (Gives Pr R) a0 a1 h K) : Tri Pr R n_field_text [a0, a1] h K :=
  tri_of_funP (by kernel_rfl) (fun _ _ _ _ h => h) (fun _ _ _ _ h => h) Tryz.func106 (by rw [q_field_text]; exact hk)
/-- (*bastion/book.Book).Find -/
def p_book_Book_Find (S : FuncId → List AVal → AHeap A → (AVal → AHeap A → Prop) → Prop) (G : Nat → AHeap A → List AVal → (List AVal → AHeap A → Prop) → Prop) (a0 a1 : AVal) (h : AHeap A) (K : AVal → AHeap A → Prop) : Prop :=
 binP .eql .ptr a0 .nilp fun v1 =>
 iteP v1
 (K (.tup [.int .i64 0, .bool false]) h)
 (nilP a0 fun v2 =>
 fadP 2 v2 fun v3 =>
 ldP 1 false v3 h fun v4 =>
 lkP true (.int .i64 0) true v4 a1 h fun v5 =>
 extP v5 0 fun v6 =>
 extP v5 1 fun v7 =>
 K (.tup [v6, v7]) h)
theorem q_book_Book_Find (S : FuncId → List AVal → AHeap A → (AVal → AHeap A → Prop) → Prop) (G : Nat → AHeap A → List AVal → (List AVal → AHeap A → Prop) → Prop) (a0 a1 : AVal) (h : AHeap A) (K : AVal → AHeap A → Prop) : funP Tryz.prog S G Tryz.f107 .leaf [a0, a1] h K = p_book_Book_Find S G a0 a1 h K := by kernel_rfl
theorem c_book_Book_Find {R : Adts A} {h : AHeap A} {K : AVal → AHeap A → Prop} {a0 a1 : AVal} (hk : p_book_Book_Find (Tri Pr R) (Gives Pr R) a0 a1 h K) : Tri Pr R n_book_Book_Find [a0, a1] h K :=
  tri_of_funP (by kernel_rfl) (fun _ _ _ _ h => h) (fun _ _ _ _ h => h) Tryz.func107 (by rw [q_book_Book_Find]; exact hk)
/-- (*bastion/journal.place).Unwrap -/
def p_journal_place_Unwrap (S : FuncId → List AVal → AHeap A → (AVal → AHeap A → Prop) → Prop) (G : Nat → AHeap A → List AVal → (List AVal → AHeap A → Prop) → Prop) (a0 : AVal) (h : AHeap A) (K : AVal → AHeap A → Prop) : Prop :=
 nilP a0 fun v1 =>
 fadP 1 v1 fun v2 =>
 ldP 1 false v2 h fun v3 =>
 K v3 h
theorem q_journal_place_Unwrap (S : FuncId → List AVal → AHeap A → (AVal → AHeap A → Prop) → Prop) (G : Nat → AHeap A → List AVal → (List AVal → AHeap A → Prop) → Prop) (a0 : AVal) (h : AHeap A) (K : AVal → AHeap A → Prop) : funP Tryz.prog S G Tryz.f125 .leaf [a0] h K = p_journal_place_Unwrap S G a0 h K := by kernel_rfl
theorem c_journal_place_Unwrap {R : Adts A} {h : AHeap A} {K : AVal → AHeap A → Prop} {a0 : AVal} (hk : p_journal_place_Unwrap (Tri Pr R) (Gives Pr R) a0 h K) : Tri Pr R n_journal_place_Unwrap [a0] h K :=
  tri_of_funP (by kernel_rfl) (fun _ _ _ _ h => h) (fun _ _ _ _ h => h) Tryz.func125 (by rw [q_journal_place_Unwrap]; exact hk)
/-- (*bastion/field.Fault).Unwrap -/
def p_field_Fault_Unwrap (S : FuncId → List AVal → AHeap A → (AVal → AHeap A → Prop) → Prop) (G : Nat → AHeap A → List AVal → (List AVal → AHeap A → Prop) → Prop) (a0 : AVal) (h : AHeap A) (K : AVal → AHeap A → Prop) : Prop :=
 nilP a0 fun v1 =>
 fadP 1 v1 fun v2 =>
 ldP 1 false v2 h fun v3 =>
 K v3 h
theorem q_field_Fault_Unwrap (S : FuncId → List AVal → AHeap A → (AVal → AHeap A → Prop) → Prop) (G : Nat → AHeap A → List AVal → (List AVal → AHeap A → Prop) → Prop) (a0 : AVal) (h : AHeap A) (K : AVal → AHeap A → Prop) : funP Tryz.prog S G Tryz.f139 .leaf [a0] h K = p_field_Fault_Unwrap S G a0 h K := by kernel_rfl
theorem c_field_Fault_Unwrap {R : Adts A} {h : AHeap A} {K : AVal → AHeap A → Prop} {a0 : AVal} (hk : p_field_Fault_Unwrap (Tri Pr R) (Gives Pr R) a0 h K) : Tri Pr R n_field_Fault_Unwrap [a0] h K :=
  tri_of_funP (by kernel_rfl) (fun _ _ _ _ h => h) (fun _ _ _ _ h => h) Tryz.func139 (by rw [q_field_Fault_Unwrap]; exact hk)
end Go.AI
