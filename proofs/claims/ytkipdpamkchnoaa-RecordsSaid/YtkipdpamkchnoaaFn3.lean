/- The functions as texts over the abstract heap. -/
import Derived.Test.YtkipdpamkchnoaaNm
import Derived.KernelRfl
set_option linter.all false
namespace Go.AI
open Go.Proofs
set_option maxRecDepth 1000000
variable {A : Type}
/-- (*bastion/bastionref1.Book).made -/
def p_ref1_Book_made (S : FuncId → List AVal → AHeap A → (AVal → AHeap A → Prop) → Prop) (G : Nat → AHeap A → List AVal → (List AVal → AHeap A → Prop) → Prop) (a0 a1 : AVal) (h : AHeap A) (K : AVal → AHeap A → Prop) : Prop :=
 S n_ref1_Book_Name [a0, a1] h fun v1 h =>
 extP v1 0 fun v2 =>
 extP v1 1 fun v3 =>
 binP .neq .other v3 (.int .i64 0) fun v4 =>
 iteP v4
 (K (.tup [.int .i64 0, .int .i64 300]) h)
 (K (.tup [v2, .int .i64 0]) h)
theorem q_ref1_Book_made (S : FuncId → List AVal → AHeap A → (AVal → AHeap A → Prop) → Prop) (G : Nat → AHeap A → List AVal → (List AVal → AHeap A → Prop) → Prop) (a0 a1 : AVal) (h : AHeap A) (K : AVal → AHeap A → Prop) : funP Try.prog S G Try.f50 .leaf [a0, a1] h K = p_ref1_Book_made S G a0 a1 h K := by kernel_rfl
theorem c_ref1_Book_made {R : Adts A} {h : AHeap A} {K : AVal → AHeap A → Prop} {a0 a1 : AVal} (hk : p_ref1_Book_made (Tri Pr R) (Gives Pr R) a0 a1 h K) : Tri Pr R n_ref1_Book_made [a0, a1] h K :=
  tri_of_funP (by kernel_rfl) (fun _ _ _ _ h => h) (fun _ _ _ _ h => h) Try.func50 (by rw [q_ref1_Book_made]; exact hk)
/-- bastion/bastionref1.GetNum -/
def p_ref1_GetNum (S : FuncId → List AVal → AHeap A → (AVal → AHeap A → Prop) → Prop) (G : Nat → AHeap A → List AVal → (List AVal → AHeap A → Prop) → Prop) (a0 a1 : AVal) (h : AHeap A) (K : AVal → AHeap A → Prop) : Prop :=
 binP .lss .other a1 (.int .i64 0) fun v1 =>
 condP v1 false (fun k2 =>
 lnsP a0 fun v3 =>
 binP .gtr .other a1 v3 fun v4 =>
 k2 v4 h)
 (.bool true) h fun v5 h =>
 iteP v5
 (K (.tup [.int .i64 0, .int .i64 0, .int .i64 100]) h)
 (lnsP a0 fun v6 =>
 binP .eql .other a1 v6 fun v7 =>
 iteP v7
 (K (.tup [.int .i64 0, .int .i64 0, .int .i64 101]) h)
 (sixP a0 a1 fun v8 =>
 cviP .i64 v8 fun v9 =>
 binP .gtr .other v9 (.int .i64 4) fun v10 =>
 iteP v10
 (K (.tup [.int .i64 0, .int .i64 0, .int .i64 100]) h)
 (lnsP a0 fun v11 =>
 binP .sub .other v11 a1 fun v12 =>
 binP .sub .other v12 (.int .i64 1) fun v13 =>
 binP .gtr .other v9 v13 fun v14 =>
 iteP v14
 (K (.tup [.int .i64 0, .int .i64 0, .int .i64 101]) h)
 (loopP G (fun v36 h k17 =>
 (fun v15 v16 =>
 binP .leq .other v16 v9 fun v18 =>
 iteP v18
 (binP .shl .other v15 (.int .u64 8) fun v19 =>
 binP .add .other a1 v16 fun v20 =>
 sixP a0 v20 fun v21 =>
 cviP .i64 v21 fun v22 =>
 binP .or .other v19 v22 fun v23 =>
 binP .add .other v16 (.int .i64 1) fun v24 =>
 k17 [v23, v24] h)
 (binP .gtr .other v9 (.int .i64 0) fun v25 =>
 condP v25 true (fun k26 =>
 binP .add .other a1 (.int .i64 1) fun v27 =>
 sixP a0 v27 fun v28 =>
 binP .eql .other v28 (.int .u8 0) fun v29 =>
 k26 v29 h)
 (.bool false) h fun v30 h =>
 condP v30 false (fun k31 =>
 binP .gtr .other v15 (.int .i64 1073741823) fun v32 =>
 k31 v32 h)
 (.bool true) h fun v33 h =>
 iteP v33
 (K (.tup [.int .i64 0, .int .i64 0, .int .i64 100]) h)
 (binP .add .other a1 v9 fun v34 =>
 binP .add .other v34 (.int .i64 1) fun v35 =>
 K (.tup [v15, v35, .int .i64 0]) h))) (v36.getD 0 .any) (v36.getD 1 .any)) [.int .i64 0, .int .i64 1] h))))
theorem q_ref1_GetNum (S : FuncId → List AVal → AHeap A → (AVal → AHeap A → Prop) → Prop) (G : Nat → AHeap A → List AVal → (List AVal → AHeap A → Prop) → Prop) (a0 a1 : AVal) (h : AHeap A) (K : AVal → AHeap A → Prop) : funP Try.prog S G Try.f51 (.two none .leaf (.two none .leaf (.two none .leaf (.two none .leaf (.two none .leaf (.two none .leaf (.two none .leaf (.two none (.two none .leaf (.one [] (.one [8, 9] .leaf))) .leaf)))))))) [a0, a1] h K = p_ref1_GetNum S G a0 a1 h K := by kernel_rfl
theorem c_ref1_GetNum {R : Adts A} {h : AHeap A} {K : AVal → AHeap A → Prop} {a0 a1 : AVal} (hk : p_ref1_GetNum (Tri Pr R) (Gives Pr R) a0 a1 h K) : Tri Pr R n_ref1_GetNum [a0, a1] h K :=
  tri_of_funP (by kernel_rfl) (fun _ _ _ _ h => h) (fun _ _ _ _ h => h) Try.func51 (by rw [q_ref1_GetNum]; exact hk)
/-- bastion/bastionref1.GetText -/
def p_ref1_GetText (S : FuncId → List AVal → AHeap A → (AVal → AHeap A → Prop) → Prop) (G : Nat → AHeap A → List AVal → (List AVal → AHeap A → Prop) → Prop) (a0 a1 : AVal) (h : AHeap A) (K : AVal → AHeap A → Prop) : Prop :=
 S n_ref1_GetNum [a0, a1] h fun v1 h =>
 extP v1 0 fun v2 =>
 extP v1 1 fun v3 =>
 extP v1 2 fun v4 =>
 binP .neq .other v4 (.int .i64 0) fun v5 =>
 iteP v5
 (K (.tup [.str [], .int .i64 0, v4]) h)
 (binP .gtr .other v2 (.int .i64 65536) fun v6 =>
 iteP v6
 (K (.tup [.str [], .int .i64 0, .int .i64 100]) h)
 (lnsP a0 fun v7 =>
 binP .sub .other v7 v3 fun v8 =>
 binP .gtr .other v2 v8 fun v9 =>
 iteP v9
 (K (.tup [.str [], .int .i64 0, .int .i64 101]) h)
 (binP .add .other v3 v2 fun v10 =>
 subP a0 (some v3) (some v10) fun v11 =>
 binP .add .other v3 v2 fun v12 =>
 K (.tup [v11, v12, .int .i64 0]) h)))
theorem q_ref1_GetText (S : FuncId → List AVal → AHeap A → (AVal → AHeap A → Prop) → Prop) (G : Nat → AHeap A → List AVal → (List AVal → AHeap A → Prop) → Prop) (a0 a1 : AVal) (h : AHeap A) (K : AVal → AHeap A → Prop) : funP Try.prog S G Try.f52 .leaf [a0, a1] h K = p_ref1_GetText S G a0 a1 h K := by kernel_rfl
theorem c_ref1_GetText {R : Adts A} {h : AHeap A} {K : AVal → AHeap A → Prop} {a0 a1 : AVal} (hk : p_ref1_GetText (Tri Pr R) (Gives Pr R) a0 a1 h K) : Tri Pr R n_ref1_GetText [a0, a1] h K :=
  tri_of_funP (by kernel_rfl) (fun _ _ _ _ h => h) (fun _ _ _ _ h => h) Try.func52 (by rw [q_ref1_GetText]; exact hk)
/-- bastion/event.May -/
def p_event_May (S : FuncId → List AVal → AHeap A → (AVal → AHeap A → Prop) → Prop) (G : Nat → AHeap A → List AVal → (List AVal → AHeap A → Prop) → Prop) (a0 : AVal) (h : AHeap A) (K : AVal → AHeap A → Prop) : Prop :=
 boxP t_api_Event 8 a0 h fun v1 h =>
 fadP 0 v1 fun v2 =>
 ldP 1 false v2 h fun v3 =>
 binP .lss .other v3 (.int .i64 0) fun v4 =>
 condP v4 false (fun k5 =>
 fadP 0 v1 fun v6 =>
 ldP 1 false v6 h fun v7 =>
 binP .gtr .other v7 (.int .i64 9) fun v8 =>
 k5 v8 h)
 (.bool true) h fun v9 h =>
 condP v9 false (fun k10 =>
 fadP 0 v1 fun v11 =>
 ldP 1 false v11 h fun v12 =>
 binP .eql .other v12 (.int .i64 6) fun v13 =>
 condP v13 true (fun k14 =>
 fadP 5 v1 fun v15 =>
 ldP 1 false v15 h fun v16 =>
 binP .gtr .other v16 (.int .i64 4) fun v17 =>
 k14 v17 h)
 (.bool false) h fun v18 h =>
 k10 v18 h)
 (.bool true) h fun v19 h =>
 iteP v19
 (K (.bool false) h)
 (S n_event_parts [v1] h fun v20 h =>
 lenP v20 fun v21 =>
 loopP G (fun v50 h k23 =>
 (fun v22 =>
 binP .lss .other v22 v21 fun v24 =>
 iteP v24
 (idxP 1 v20 v22 fun v25 =>
 ldP 1 false v25 h fun v26 =>
 nilP v26 fun v27 =>
 ldP 1 false v27 h fun v28 =>
 S n_field_NumMay [v28] h fun v29 h =>
 notP v29 fun v30 =>
 iteP v30
 (K (.bool false) h)
 (binP .add .other v22 (.int .i64 1) fun v31 =>
 k23 [v31] h))
 (joinP G h.length (fun k32 =>
 fadP 1 v1 fun v33 =>
 ldP 1 false v33 h fun v34 =>
 binP .lss .other v34 (.int .i64 8) fun v35 =>
 iteP v35
 (fadP 3 v1 fun v36 =>
 ldP 1 false v36 h fun v37 =>
 binP .lss .other v37 (.int .i64 16) fun v38 =>
 iteP v38
 (fadP 7 v1 fun v39 =>
 ldP 1 false v39 h fun v40 =>
 binP .leq .other v40 (.int .i64 1048575) fun v41 =>
 iteP v41
 (fadP 6 v1 fun v42 =>
 ldP 1 false v42 h fun v43 =>
 binP .leq .other v43 (.int .i64 1048576) fun v44 =>
 iteP v44
 (ldP 8 true v1 h fun v45 =>
 S n_event_plain [v1] h fun v46 h =>
 ldV 8 true v1 h = some v45 ∧
 binP .eql (.shape (.st [(0, 1, .i), (1, 1, .i), (2, 1, .i), (3, 1, .i), (4, 1, .i), (5, 1, .i), (6, 1, .i), (7, 1, .i)])) v45 v46 fun v47 =>
 k32 [v47] h)
 (k32 [.bool false] h))
 (k32 [.bool false] h))
 (k32 [.bool false] h))
 (k32 [.bool false] h))
 (fun v49 h =>
 (fun v48 =>
 K v48 h) (v49.getD 0 .any)))) (v50.getD 0 .any)) [.int .i64 0] h)
theorem q_event_May (S : FuncId → List AVal → AHeap A → (AVal → AHeap A → Prop) → Prop) (G : Nat → AHeap A → List AVal → (List AVal → AHeap A → Prop) → Prop) (a0 : AVal) (h : AHeap A) (K : AVal → AHeap A → Prop) : funP Try.prog S G Try.f53 (.two none .leaf (.two none .leaf (.two none (.two none .leaf (.one [] (.one [25] .leaf))) (.two none (.draw (some [2]) (.take 0 (.alt 1 (.take 2 (.take 3 (.split 3 (.take 4 (.alt 5 (.take 6 (.take 7 (.take 8 (.split 8 (.take 9 (.alt 10 (.take 11 (.take 12 (.take 13 (.split 13 (.take 14 (.alt 15 (.take 16 (.take 17 (.take 18 (.split 18 (.load 19 (.alt 20 (.take 21 (.take 22 (.take 23 .stop))) .stop)) (.skip 19 (.skip 20 (.skip 21 (.take 22 (.take 23 .stop))))))))) .stop)) (.skip 14 (.skip 15 (.skip 16 (.take 17 (.take 18 (.known 18 false (.skip 19 (.skip 20 (.skip 21 (.take 22 (.take 23 .stop))))))))))))))) .stop)) (.skip 9 (.skip 10 (.skip 11 (.take 12 (.take 13 (.known 13 false (.skip 14 (.skip 15 (.skip 16 (.take 17 (.take 18 (.known 18 false (.skip 19 (.skip 20 (.skip 21 (.take 22 (.take 23 .stop))))))))))))))))))))) .stop)) (.skip 4 (.skip 5 (.skip 6 (.take 7 (.take 8 (.known 8 false (.skip 9 (.skip 10 (.skip 11 (.take 12 (.take 13 (.known 13 false (.skip 14 (.skip 15 (.skip 16 (.take 17 (.take 18 (.known 18 false (.skip 19 (.skip 20 (.skip 21 (.take 22 (.take 23 .stop)))))))))))))))))))))))))) .stop))) .leaf)))) [a0] h K = p_event_May S G a0 h K := by kernel_rfl
theorem c_event_May {R : Adts A} {h : AHeap A} {K : AVal → AHeap A → Prop} {a0 : AVal} (hk : p_event_May (Tri Pr R) (Gives Pr R) a0 h K) : Tri Pr R n_event_May [a0] h K :=
  tri_of_funP (by kernel_rfl) (fun _ _ _ _ h => h) (fun _ _ _ _ h => h) Try.func53 (by rw [q_event_May]; exact hk)
/-- bastion/event.parts -/
def p_event_parts (S : FuncId → List AVal → AHeap A → (AVal → AHeap A → Prop) → Prop) (G : Nat → AHeap A → List AVal → (List AVal → AHeap A → Prop) → Prop) (a0 : AVal) (h : AHeap A) (K : AVal → AHeap A → Prop) : Prop :=
 nilP a0 fun v1 =>
 fadP 0 v1 fun v2 =>
 ldP 1 false v2 h fun v3 =>
 joinP G h.length (fun k4 =>
 joinP G h.length (fun k5 =>
 binP .eql .other v3 (.int .i64 1) fun v6 =>
 iteP v6
 (nilP a0 fun v7 =>
 fadP 1 v7 fun v8 =>
 nilP a0 fun v9 =>
 fadP 4 v9 fun v10 =>
 nilP a0 fun v11 =>
 fadP 5 v11 fun v12 =>
 nilP a0 fun v13 =>
 fadP 6 v13 fun v14 =>
 bslP t_p_int 4 [.nilp, .nilp, .nilp, .nilp] [(0, 1, v8), (1, 1, v10), (2, 1, v12), (3, 1, v14)] h fun v15 h =>
 K v15 h)
 (binP .eql .other v3 (.int .i64 3) fun v16 =>
 iteP v16
 (nilP a0 fun v17 =>
 fadP 4 v17 fun v18 =>
 bslP t_p_int 1 [.nilp] [(0, 1, v18)] h fun v19 h =>
 k5 [v19] h)
 (joinP G h.length (fun k20 =>
 binP .eql .other v3 (.int .i64 4) fun v21 =>
 iteP v21
 (k20 [v21] h)
 (binP .eql .other v3 (.int .i64 7) fun v22 =>
 k20 [v22] h))
 (fun v53 h =>
 (fun v23 =>
 iteP v23
 (k5 [.nils] h)
 (binP .eql .other v3 (.int .i64 2) fun v24 =>
 iteP v24
 (nilP a0 fun v25 =>
 fadP 1 v25 fun v26 =>
 nilP a0 fun v27 =>
 fadP 7 v27 fun v28 =>
 bslP t_p_int 2 [.nilp, .nilp] [(0, 1, v26), (1, 1, v28)] h fun v29 h =>
 K v29 h)
 (binP .eql .other v3 (.int .i64 5) fun v30 =>
 iteP v30
 (nilP a0 fun v31 =>
 fadP 2 v31 fun v32 =>
 nilP a0 fun v33 =>
 fadP 1 v33 fun v34 =>
 nilP a0 fun v35 =>
 fadP 3 v35 fun v36 =>
 nilP a0 fun v37 =>
 fadP 7 v37 fun v38 =>
 bslP t_p_int 4 [.nilp, .nilp, .nilp, .nilp] [(0, 1, v32), (1, 1, v34), (2, 1, v36), (3, 1, v38)] h fun v39 h =>
 K v39 h)
 (binP .eql .other v3 (.int .i64 6) fun v40 =>
 iteP v40
 (nilP a0 fun v41 =>
 fadP 4 v41 fun v42 =>
 nilP a0 fun v43 =>
 fadP 5 v43 fun v44 =>
 nilP a0 fun v45 =>
 fadP 7 v45 fun v46 =>
 bslP t_p_int 3 [.nilp, .nilp, .nilp] [(0, 1, v42), (1, 1, v44), (2, 1, v46)] h fun v47 h =>
 k4 [v47] h)
 (binP .eql .other v3 (.int .i64 9) fun v48 =>
 iteP v48
 (k4 [.nils] h)
 (binP .eql .other v3 (.int .i64 0) fun v49 =>
 iteP v49
 (nilP a0 fun v50 =>
 fadP 7 v50 fun v51 =>
 bslP t_p_int 1 [.nilp] [(0, 1, v51)] h fun v52 h =>
 K v52 h)
 (K .nils h))))))) (v53.getD 0 .any)))))
 (fun v59 h =>
 (fun v54 =>
 nilP a0 fun v55 =>
 fadP 1 v55 fun v56 =>
 bslP t_p_int 1 [.nilp] [(0, 1, v56)] h fun v57 h =>
 appP t_p_int 1 8 v57 v54 h fun v58 h =>
 K v58 h) (v59.getD 0 .any)))
 (fun v65 h =>
 (fun v60 =>
 nilP a0 fun v61 =>
 fadP 2 v61 fun v62 =>
 bslP t_p_int 1 [.nilp] [(0, 1, v62)] h fun v63 h =>
 appP t_p_int 1 8 v63 v60 h fun v64 h =>
 K v64 h) (v65.getD 0 .any))
theorem q_event_parts (S : FuncId → List AVal → AHeap A → (AVal → AHeap A → Prop) → Prop) (G : Nat → AHeap A → List AVal → (List AVal → AHeap A → Prop) → Prop) (a0 : AVal) (h : AHeap A) (K : AVal → AHeap A → Prop) : funP Try.prog S G Try.f54 (.two none .leaf (.two none .leaf (.two none (.two none .leaf (.one [] (.two none (.one [] (.two (some [3]) (.one [] (.two none (.one [] (.two none (.one [] (.two none (.one [] (.two (some [3]) (.one [] (.two none (.one [] (.two none (.one [] (.two none (.two none .leaf (.two none .leaf (.two none (.two (some [12]) .leaf .leaf) .leaf))) .leaf)) (.two none (.two none (.draw none (.take 0 (.take 1 (.take 2 (.take 3 (.take 4 (.take 5 (.take 6 (.take 7 (.take 8 (.take 9 (.take 10 (.take 11 (.alt 12 (.take 13 .stop) .stop)))))))))))))) .leaf) .leaf))) .leaf)) .leaf)) (.two none (.two none (.draw none (.take 0 (.take 1 (.take 2 (.take 3 (.take 4 (.take 5 (.alt 6 (.take 7 .stop) .stop)))))))) .leaf) .leaf))) (.two none (.two none (.draw none (.take 0 (.take 1 (.take 2 (.take 3 (.take 4 (.take 5 (.take 6 (.take 7 (.take 8 (.take 9 (.take 10 (.take 11 (.alt 12 (.take 13 .stop) .stop)))))))))))))) .leaf) .leaf))) (.draw none (.take 0 (.take 1 (.take 2 (.take 3 (.take 4 (.take 5 (.take 6 (.take 7 (.take 8 (.alt 9 (.take 10 .stop) .stop))))))))))))) .leaf)) .leaf))) .leaf))) [a0] h K = p_event_parts S G a0 h K := by kernel_rfl
theorem c_event_parts {R : Adts A} {h : AHeap A} {K : AVal → AHeap A → Prop} {a0 : AVal} (hk : p_event_parts (Tri Pr R) (Gives Pr R) a0 h K) : Tri Pr R n_event_parts [a0] h K :=
  tri_of_funP (by kernel_rfl) (fun _ _ _ _ h => h) (fun _ _ _ _ h => h) Try.func54 (by rw [q_event_parts]; exact hk)
/-- bastion/field.num -/
def p_field_num (S : FuncId → List AVal → AHeap A → (AVal → AHeap A → Prop) → Prop) (G : Nat → AHeap A → List AVal → (List AVal → AHeap A → Prop) → Prop) (a0 a1 : AVal) (h : AHeap A) (K : AVal → AHeap A → Prop) : Prop :=
 binP .lss .other a1 (.int .i64 0) fun v1 =>
 condP v1 false (fun k2 =>
 lnsP a0 fun v3 =>
 binP .gtr .other a1 v3 fun v4 =>
 k2 v4 h)
 (.bool true) h fun v5 h =>
 iteP v5
 (mkiP t_api_Errno (.int .i64 100) fun v6 =>
 bldP [.int .i64 0, .nili] [(0, 1, a1), (1, 1, v6)] fun v7 =>
 boxP t_field_Fault 2 v7 h fun v8 h =>
 mkiP t_p_field_Fault v8 fun v9 =>
 K (.tup [.int .i64 0, .int .i64 0, v9]) h)
 (lnsP a0 fun v10 =>
 binP .eql .other a1 v10 fun v11 =>
 iteP v11
 (mkiP t_api_Errno (.int .i64 101) fun v12 =>
 bldP [.int .i64 0, .nili] [(0, 1, a1), (1, 1, v12)] fun v13 =>
 boxP t_field_Fault 2 v13 h fun v14 h =>
 mkiP t_p_field_Fault v14 fun v15 =>
 K (.tup [.int .i64 0, .int .i64 0, v15]) h)
 (sixP a0 a1 fun v16 =>
 cviP .i64 v16 fun v17 =>
 binP .add .other a1 (.int .i64 1) fun v18 =>
 subP a0 (some v18) none fun v19 =>
 binP .gtr .other v17 (.int .i64 4) fun v20 =>
 iteP v20
 (mkiP t_api_Errno (.int .i64 100) fun v21 =>
 bldP [.int .i64 0, .nili] [(0, 1, a1), (1, 1, v21)] fun v22 =>
 boxP t_field_Fault 2 v22 h fun v23 h =>
 mkiP t_p_field_Fault v23 fun v24 =>
 K (.tup [.int .i64 0, .int .i64 0, v24]) h)
 (lnsP v19 fun v25 =>
 binP .gtr .other v17 v25 fun v26 =>
 iteP v26
 (binP .add .other a1 (.int .i64 1) fun v27 =>
 mkiP t_api_Errno (.int .i64 101) fun v28 =>
 bldP [.int .i64 0, .nili] [(0, 1, v27), (1, 1, v28)] fun v29 =>
 boxP t_field_Fault 2 v29 h fun v30 h =>
 mkiP t_p_field_Fault v30 fun v31 =>
 K (.tup [.int .i64 0, .int .i64 0, v31]) h)
 (subP v19 none (some v17) fun v32 =>
 s2bP t_uint8 v32 h fun v33 h =>
 lenP v33 fun v34 =>
 loopP G (fun v57 h k37 =>
 (fun v35 v36 =>
 binP .lss .other v36 v34 fun v38 =>
 iteP v38
 (idxP 1 v33 v36 fun v39 =>
 ldP 1 false v39 h fun v40 =>
 binP .shl .other v35 (.int .u64 8) fun v41 =>
 cviP .i64 v40 fun v42 =>
 binP .or .other v41 v42 fun v43 =>
 binP .add .other v36 (.int .i64 1) fun v44 =>
 k37 [v43, v44] h)
 (S n_field_width [v35] h fun v45 h =>
 binP .neq .other v45 v17 fun v46 =>
 condP v46 false (fun k47 =>
 binP .gtr .other v35 (.int .i64 1073741823) fun v48 =>
 k47 v48 h)
 (.bool true) h fun v49 h =>
 iteP v49
 (binP .add .other a1 (.int .i64 1) fun v50 =>
 mkiP t_api_Errno (.int .i64 100) fun v51 =>
 bldP [.int .i64 0, .nili] [(0, 1, v50), (1, 1, v51)] fun v52 =>
 boxP t_field_Fault 2 v52 h fun v53 h =>
 mkiP t_p_field_Fault v53 fun v54 =>
 K (.tup [.int .i64 0, .int .i64 0, v54]) h)
 (binP .add .other a1 (.int .i64 1) fun v55 =>
 binP .add .other v55 v17 fun v56 =>
 K (.tup [v35, v56, .nili]) h))) (v57.getD 0 .any) (v57.getD 1 .any)) [.int .i64 0, .int .i64 0] h))))
theorem q_field_num (S : FuncId → List AVal → AHeap A → (AVal → AHeap A → Prop) → Prop) (G : Nat → AHeap A → List AVal → (List AVal → AHeap A → Prop) → Prop) (a0 a1 : AVal) (h : AHeap A) (K : AVal → AHeap A → Prop) : funP Try.prog S G Try.f55 (.two none .leaf (.two none .leaf (.two none (.draw none (.take 0 (.take 1 (.take 2 (.take 3 (.take 4 (.take 5 (.take 6 (.take 7 (.take 8 (.take 9 .stop))))))))))) (.two none .leaf (.two none .leaf (.two none (.two none .leaf (.one [] (.one [9, 68] .leaf))) .leaf)))))) [a0, a1] h K = p_field_num S G a0 a1 h K := by kernel_rfl
theorem c_field_num {R : Adts A} {h : AHeap A} {K : AVal → AHeap A → Prop} {a0 a1 : AVal} (hk : p_field_num (Tri Pr R) (Gives Pr R) a0 a1 h K) : Tri Pr R n_field_num [a0, a1] h K :=
  tri_of_funP (by kernel_rfl) (fun _ _ _ _ h => h) (fun _ _ _ _ h => h) Try.func55 (by rw [q_field_num]; exact hk)
/-- (*bastion/field.Reader).Done -/
def p_field_Reader_Done (S : FuncId → List AVal → AHeap A → (AVal → AHeap A → Prop) → Prop) (G : Nat → AHeap A → List AVal → (List AVal → AHeap A → Prop) → Prop) (a0 : AVal) (h : AHeap A) (K : AVal → AHeap A → Prop) : Prop :=
 joinP G h.length (fun k1 =>
 nilP a0 fun v2 =>
 fadP 2 v2 fun v3 =>
 ldP 1 false v3 h fun v4 =>
 binP .eql .ifc v4 .nili fun v5 =>
 iteP v5
 (nilP a0 fun v6 =>
 fadP 1 v6 fun v7 =>
 nilP a0 fun v8 =>
 fadP 0 v8 fun v9 =>
 ldP 1 false v7 h fun v10 =>
 ldP 1 false v9 h fun v11 =>
 ldV 1 false v7 h = some v10 ∧
 lnsP v11 fun v12 =>
 binP .eql .other v10 v12 fun v13 =>
 k1 [v13] h)
 (k1 [.bool false] h))
 (fun v15 h =>
 (fun v14 =>
 K v14 h) (v15.getD 0 .any))
theorem q_field_Reader_Done (S : FuncId → List AVal → AHeap A → (AVal → AHeap A → Prop) → Prop) (G : Nat → AHeap A → List AVal → (List AVal → AHeap A → Prop) → Prop) (a0 : AVal) (h : AHeap A) (K : AVal → AHeap A → Prop) : funP Try.prog S G Try.f56 (.two none .leaf (.two none (.draw (some [2]) (.take 0 (.take 1 (.take 2 (.alt 3 (.take 4 (.take 5 (.split 5 (.take 6 (.take 7 (.take 8 (.take 10 (.take 11 (.take 12 (.load 9 (.alt 13 (.take 14 (.take 15 (.take 16 (.take 17 .stop)))) .stop)))))))) (.skip 6 (.skip 7 (.skip 8 (.skip 9 (.skip 10 (.skip 11 (.skip 12 (.skip 13 (.skip 14 (.skip 15 (.take 16 (.take 17 .stop))))))))))))))) .stop))))) .leaf)) [a0] h K = p_field_Reader_Done S G a0 h K := by kernel_rfl
theorem c_field_Reader_Done {R : Adts A} {h : AHeap A} {K : AVal → AHeap A → Prop} {a0 : AVal} (hk : p_field_Reader_Done (Tri Pr R) (Gives Pr R) a0 h K) : Tri Pr R n_field_Reader_Done [a0] h K :=
  tri_of_funP (by kernel_rfl) (fun _ _ _ _ h => h) (fun _ _ _ _ h => h) Try.func56 (by rw [q_field_Reader_Done]; exact hk)
/-- bastion/field.text -/
def p_field_text (S : FuncId → List AVal → AHeap A → (AVal → AHeap A → Prop) → Prop) (G : Nat → AHeap A → List AVal → (List AVal → AHeap A → Prop) → Prop) (a0 a1 : AVal) (h : AHeap A) (K : AVal → AHeap A → Prop) : Prop :=
 S n_field_num [a0, a1] h fun v1 h =>
 extP v1 0 fun v2 =>
 extP v1 1 fun v3 =>
 extP v1 2 fun v4 =>
 binP .neq .ifc v4 .nili fun v5 =>
 iteP v5
 (bldP [.int .i64 0, .nili] [(0, 1, a1), (1, 1, v4)] fun v6 =>
 boxP t_field_Fault 2 v6 h fun v7 h =>
 mkiP t_p_field_Fault v7 fun v8 =>
 K (.tup [.str [], .int .i64 0, v8]) h)
 (binP .gtr .other v2 (.int .i64 65536) fun v9 =>
 iteP v9
 (mkiP t_api_Errno (.int .i64 100) fun v10 =>
 bldP [.int .i64 0, .nili] [(0, 1, a1), (1, 1, v10)] fun v11 =>
 boxP t_field_Fault 2 v11 h fun v12 h =>
 mkiP t_p_field_Fault v12 fun v13 =>
 K (.tup [.str [], .int .i64 0, v13]) h)
 (lnsP a0 fun v14 =>
 binP .sub .other v14 v3 fun v15 =>
 binP .gtr .other v2 v15 fun v16 =>
 iteP v16
 (mkiP t_api_Errno (.int .i64 101) fun v17 =>
 bldP [.int .i64 0, .nili] [(0, 1, v3), (1, 1, v17)] fun v18 =>
 boxP t_field_Fault 2 v18 h fun v19 h =>
 mkiP t_p_field_Fault v19 fun v20 =>
 K (.tup [.str [], .int .i64 0, v20]) h)
 (binP .add .other v3 v2 fun v21 =>
 subP a0 (some v3) (some v21) fun v22 =>
 binP .add .other v3 v2 fun v23 =>
 K (.tup [v22, v23, .nili]) h)))
theorem q_field_text (S : FuncId → List AVal → AHeap A → (AVal → AHeap A → Prop) → Prop) (G : Nat → AHeap A → List AVal → (List AVal → AHeap A → Prop) → Prop) (a0 a1 : AVal) (h : AHeap A) (K : AVal → AHeap A → Prop) : funP Try.prog S G Try.f57 .leaf [a0, a1] h K = p_field_text S G a0 a1 h K := by kernel_rfl
theorem c_field_text {R : Adts A} {h : AHeap A} {K : AVal → AHeap A → Prop} {a0 a1 : AVal} (hk : p_field_text (Tri Pr R) (Gives Pr R) a0 a1 h K) : Tri Pr R n_field_text [a0, a1] h K :=
  tri_of_funP (by kernel_rfl) (fun _ _ _ _ h => h) (fun _ _ _ _ h => h) Try.func57 (by rw [q_field_text]; exact hk)
/-- bastion/craft.is -/
def p_craft_is (S : FuncId → List AVal → AHeap A → (AVal → AHeap A → Prop) → Prop) (G : Nat → AHeap A → List AVal → (List AVal → AHeap A → Prop) → Prop) (a0 a1 a2 : AVal) (h : AHeap A) (K : AVal → AHeap A → Prop) : Prop :=
 S n_book_Book_Find [a0, a1] h fun v1 h =>
 extP v1 0 fun v2 =>
 extP v1 1 fun v3 =>
 condP v3 true (fun k4 =>
 binP .eql .other v2 a2 fun v5 =>
 k4 v5 h)
 (.bool false) h fun v6 h =>
 K v6 h
theorem q_craft_is (S : FuncId → List AVal → AHeap A → (AVal → AHeap A → Prop) → Prop) (G : Nat → AHeap A → List AVal → (List AVal → AHeap A → Prop) → Prop) (a0 a1 a2 : AVal) (h : AHeap A) (K : AVal → AHeap A → Prop) : funP Try.prog S G Try.f58 .leaf [a0, a1, a2] h K = p_craft_is S G a0 a1 a2 h K := by kernel_rfl
theorem c_craft_is {R : Adts A} {h : AHeap A} {K : AVal → AHeap A → Prop} {a0 a1 a2 : AVal} (hk : p_craft_is (Tri Pr R) (Gives Pr R) a0 a1 a2 h K) : Tri Pr R n_craft_is [a0, a1, a2] h K :=
  tri_of_funP (by kernel_rfl) (fun _ _ _ _ h => h) (fun _ _ _ _ h => h) Try.func58 (by rw [q_craft_is]; exact hk)
/-- bastion/bastionref1.part -/
def p_ref1_part (S : FuncId → List AVal → AHeap A → (AVal → AHeap A → Prop) → Prop) (G : Nat → AHeap A → List AVal → (List AVal → AHeap A → Prop) → Prop) (a0 : AVal) (h : AHeap A) (K : AVal → AHeap A → Prop) : Prop :=
 boxP t_api_Event 8 a0 h fun v1 h =>
 newP t_api_Event [.int .i64 0, .int .i64 0, .int .i64 0, .int .i64 0, .int .i64 0, .int .i64 0, .int .i64 0, .int .i64 0] h fun v2 h =>
 fadP 0 v1 fun v3 =>
 ldP 1 false v3 h fun v4 =>
 bldP [.int .i64 0, .int .i64 0, .int .i64 0, .int .i64 0, .int .i64 0, .int .i64 0, .int .i64 0, .int .i64 0] [(0, 1, v4)] fun v5 =>
 newP t_api_Event [.int .i64 0, .int .i64 0, .int .i64 0, .int .i64 0, .int .i64 0, .int .i64 0, .int .i64 0, .int .i64 0] h fun v6 h =>
 stP 8 v6 v5 h fun h =>
 joinP G h.length (fun k7 =>
 fadP 0 v1 fun v8 =>
 ldP 1 false v8 h fun v9 =>
 binP .eql .other v9 (.int .i64 0) fun v10 =>
 iteP v10
 (fadP 7 v1 fun v11 =>
 ldP 1 false v11 h fun v12 =>
 fadP 7 v6 fun v13 =>
 stP 1 v13 v12 h fun h =>
 k7 [] h)
 (binP .eql .other v9 (.int .i64 1) fun v14 =>
 iteP v14
 (fadP 1 v1 fun v15 =>
 ldP 1 false v15 h fun v16 =>
 fadP 1 v6 fun v17 =>
 stP 1 v17 v16 h fun h =>
 fadP 4 v1 fun v18 =>
 ldP 1 false v18 h fun v19 =>
 fadP 4 v6 fun v20 =>
 stP 1 v20 v19 h fun h =>
 fadP 5 v1 fun v21 =>
 ldP 1 false v21 h fun v22 =>
 fadP 5 v6 fun v23 =>
 stP 1 v23 v22 h fun h =>
 fadP 6 v1 fun v24 =>
 ldP 1 false v24 h fun v25 =>
 fadP 6 v6 fun v26 =>
 stP 1 v26 v25 h fun h =>
 k7 [] h)
 (binP .eql .other v9 (.int .i64 2) fun v27 =>
 iteP v27
 (fadP 1 v1 fun v28 =>
 ldP 1 false v28 h fun v29 =>
 fadP 1 v6 fun v30 =>
 stP 1 v30 v29 h fun h =>
 fadP 7 v1 fun v31 =>
 ldP 1 false v31 h fun v32 =>
 fadP 7 v6 fun v33 =>
 stP 1 v33 v32 h fun h =>
 k7 [] h)
 (binP .eql .other v9 (.int .i64 3) fun v34 =>
 iteP v34
 (fadP 1 v1 fun v35 =>
 ldP 1 false v35 h fun v36 =>
 fadP 1 v6 fun v37 =>
 stP 1 v37 v36 h fun h =>
 fadP 4 v1 fun v38 =>
 ldP 1 false v38 h fun v39 =>
 fadP 4 v6 fun v40 =>
 stP 1 v40 v39 h fun h =>
 k7 [] h)
 (joinP G h.length (fun k41 =>
 binP .eql .other v9 (.int .i64 4) fun v42 =>
 iteP v42
 (k41 [v42] h)
 (binP .eql .other v9 (.int .i64 7) fun v43 =>
 k41 [v43] h))
 (fun v81 h =>
 (fun v44 =>
 iteP v44
 (fadP 1 v1 fun v45 =>
 ldP 1 false v45 h fun v46 =>
 fadP 1 v6 fun v47 =>
 stP 1 v47 v46 h fun h =>
 k7 [] h)
 (binP .eql .other v9 (.int .i64 5) fun v48 =>
 iteP v48
 (fadP 2 v1 fun v49 =>
 ldP 1 false v49 h fun v50 =>
 fadP 2 v6 fun v51 =>
 stP 1 v51 v50 h fun h =>
 fadP 1 v1 fun v52 =>
 ldP 1 false v52 h fun v53 =>
 fadP 1 v6 fun v54 =>
 stP 1 v54 v53 h fun h =>
 fadP 3 v1 fun v55 =>
 ldP 1 false v55 h fun v56 =>
 fadP 3 v6 fun v57 =>
 stP 1 v57 v56 h fun h =>
 fadP 7 v1 fun v58 =>
 ldP 1 false v58 h fun v59 =>
 fadP 7 v6 fun v60 =>
 stP 1 v60 v59 h fun h =>
 k7 [] h)
 (binP .eql .other v9 (.int .i64 6) fun v61 =>
 iteP v61
 (fadP 2 v1 fun v62 =>
 ldP 1 false v62 h fun v63 =>
 fadP 2 v6 fun v64 =>
 stP 1 v64 v63 h fun h =>
 fadP 4 v1 fun v65 =>
 ldP 1 false v65 h fun v66 =>
 fadP 4 v6 fun v67 =>
 stP 1 v67 v66 h fun h =>
 fadP 5 v1 fun v68 =>
 ldP 1 false v68 h fun v69 =>
 fadP 5 v6 fun v70 =>
 stP 1 v70 v69 h fun h =>
 fadP 7 v1 fun v71 =>
 ldP 1 false v71 h fun v72 =>
 fadP 7 v6 fun v73 =>
 stP 1 v73 v72 h fun h =>
 k7 [] h)
 (binP .eql .other v9 (.int .i64 8) fun v74 =>
 iteP v74
 (k7 [] h)
 (binP .eql .other v9 (.int .i64 9) fun v75 =>
 iteP v75
 (fadP 2 v1 fun v76 =>
 ldP 1 false v76 h fun v77 =>
 fadP 2 v6 fun v78 =>
 stP 1 v78 v77 h fun h =>
 k7 [] h)
 (ldP 8 true v6 h fun v79 =>
 stP 8 v2 v79 h fun h =>
 ldP 8 true v2 h fun v80 =>
 K (.tup [v80, .bool false]) h)))))) (v81.getD 0 .any)))))))
 (fun _ h =>
 ldP 8 true v6 h fun v82 =>
 stP 8 v2 v82 h fun h =>
 ldP 8 true v2 h fun v83 =>
 K (.tup [v83, .bool true]) h)
theorem q_ref1_part (S : FuncId → List AVal → AHeap A → (AVal → AHeap A → Prop) → Prop) (G : Nat → AHeap A → List AVal → (List AVal → AHeap A → Prop) → Prop) (a0 : AVal) (h : AHeap A) (K : AVal → AHeap A → Prop) : funP Try.prog S G Try.f59 (.two none .leaf (.two none .leaf (.two (some []) (.two none .leaf (.one [] (.two none .leaf (.two none .leaf (.two none .leaf (.two none .leaf (.two none .leaf (.two none .leaf (.two none .leaf (.two none .leaf (.two (some [46]) .leaf .leaf))))))))))) .leaf))) [a0] h K = p_ref1_part S G a0 h K := by kernel_rfl
theorem c_ref1_part {R : Adts A} {h : AHeap A} {K : AVal → AHeap A → Prop} {a0 : AVal} (hk : p_ref1_part (Tri Pr R) (Gives Pr R) a0 h K) : Tri Pr R n_ref1_part [a0] h K :=
  tri_of_funP (by kernel_rfl) (fun _ _ _ _ h => h) (fun _ _ _ _ h => h) Try.func59 (by rw [q_ref1_part]; exact hk)
/-- bastion/event.plain -/
def p_event_plain (S : FuncId → List AVal → AHeap A → (AVal → AHeap A → Prop) → Prop) (G : Nat → AHeap A → List AVal → (List AVal → AHeap A → Prop) → Prop) (a0 : AVal) (h : AHeap A) (K : AVal → AHeap A → Prop) : Prop :=
 newP t_api_Event [.int .i64 0, .int .i64 0, .int .i64 0, .int .i64 0, .int .i64 0, .int .i64 0, .int .i64 0, .int .i64 0] h fun v1 h =>
 nilP a0 fun v2 =>
 fadP 0 v2 fun v3 =>
 ldP 1 false v3 h fun v4 =>
 bldP [.int .i64 0, .int .i64 0, .int .i64 0, .int .i64 0, .int .i64 0, .int .i64 0, .int .i64 0, .int .i64 0] [(0, 1, v4)] fun v5 =>
 newP t_api_Event [.int .i64 0, .int .i64 0, .int .i64 0, .int .i64 0, .int .i64 0, .int .i64 0, .int .i64 0, .int .i64 0] h fun v6 h =>
 stP 8 v6 v5 h fun h =>
 S n_event_parts [v6] h fun v7 h =>
 S n_event_parts [a0] h fun v8 h =>
 lenP v8 fun v9 =>
 loopP G (fun v23 h k11 =>
 (fun v10 =>
 binP .lss .other v10 v9 fun v12 =>
 iteP v12
 (idxP 1 v8 v10 fun v13 =>
 ldP 1 false v13 h fun v14 =>
 idxP 1 v7 v10 fun v15 =>
 nilP v14 fun v16 =>
 ldP 1 false v15 h fun v17 =>
 ldP 1 false v16 h fun v18 =>
 ldV 1 false v15 h = some v17 ∧
 nilP v17 fun v19 =>
 stP 1 v19 v18 h fun h =>
 binP .add .other v10 (.int .i64 1) fun v20 =>
 k11 [v20] h)
 (ldP 8 true v6 h fun v21 =>
 stP 8 v1 v21 h fun h =>
 ldP 8 true v1 h fun v22 =>
 K v22 h)) (v23.getD 0 .any)) [.int .i64 0] h
theorem q_event_plain (S : FuncId → List AVal → AHeap A → (AVal → AHeap A → Prop) → Prop) (G : Nat → AHeap A → List AVal → (List AVal → AHeap A → Prop) → Prop) (a0 : AVal) (h : AHeap A) (K : AVal → AHeap A → Prop) : funP Try.prog S G Try.f60 (.two none .leaf (.two none .leaf (.two none .leaf (.two none (.two none .leaf (.one [] (.one [16] (.two none .leaf (.two none .leaf (.two none (.one [] (.two none .leaf (.draw none (.take 0 (.take 1 (.take 2 (.take 4 (.take 5 (.load 3 (.alt 6 (.take 7 (.alt 8 .stop .stop)) .stop)))))))))) .leaf)))))) .leaf)))) [a0] h K = p_event_plain S G a0 h K := by kernel_rfl
theorem c_event_plain {R : Adts A} {h : AHeap A} {K : AVal → AHeap A → Prop} {a0 : AVal} (hk : p_event_plain (Tri Pr R) (Gives Pr R) a0 h K) : Tri Pr R n_event_plain [a0] h K :=
  tri_of_funP (by kernel_rfl) (fun _ _ _ _ h => h) (fun _ _ _ _ h => h) Try.func60 (by rw [q_event_plain]; exact hk)
/-- (*bastion/book.Book).Find -/
def p_book_Book_Find (S : FuncId → List AVal → AHeap A → (AVal → AHeap A → Prop) → Prop) (G : Nat → AHeap A → List AVal → (List AVal → AHeap A → Prop) → Prop) (a0 a1 : AVal) (h : AHeap A) (K : AVal → AHeap A → Prop) : Prop :=
 binP .eql .ptr a0 .nilp fun v1 =>
 iteP v1
 (K (.tup [.int .i64 0, .bool false]) h)
 (nilP a0 fun v2 =>
 fadP 2 v2 fun v3 =>
 ldP 1 false v3 h fun v4 =>
 lkP true (.int .i64 0) true v4 a1 h fun v5 =>
 extP v5 0 fun v6 =>
 extP v5 1 fun v7 =>
 K (.tup [v6, v7]) h)
theorem q_book_Book_Find (S : FuncId → List AVal → AHeap A → (AVal → AHeap A → Prop) → Prop) (G : Nat → AHeap A → List AVal → (List AVal → AHeap A → Prop) → Prop) (a0 a1 : AVal) (h : AHeap A) (K : AVal → AHeap A → Prop) : funP Try.prog S G Try.f61 .leaf [a0, a1] h K = p_book_Book_Find S G a0 a1 h K := by kernel_rfl
theorem c_book_Book_Find {R : Adts A} {h : AHeap A} {K : AVal → AHeap A → Prop} {a0 a1 : AVal} (hk : p_book_Book_Find (Tri Pr R) (Gives Pr R) a0 a1 h K) : Tri Pr R n_book_Book_Find [a0, a1] h K :=
  tri_of_funP (by kernel_rfl) (fun _ _ _ _ h => h) (fun _ _ _ _ h => h) Try.func61 (by rw [q_book_Book_Find]; exact hk)
end Go.AI
