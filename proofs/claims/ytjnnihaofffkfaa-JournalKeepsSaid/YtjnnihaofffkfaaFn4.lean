/- The functions as texts over the abstract heap. -/
import Derived.Test.YtjnnihaofffkfaaNm
import Derived.KernelRfl
set_option linter.all false
namespace Go.AI
open Go.Proofs
set_option maxRecDepth 1000000
variable {A : Type}
/-- bastion/event.parts -/
def p_event_parts (S : FuncId → List AVal → AHeap A → (AVal → AHeap A → Prop) → Prop) (G : Nat → AHeap A → List AVal → (List AVal → AHeap A → Prop) → Prop) (a0 : AVal) (h : AHeap A) (K : AVal → AHeap A → Prop) : Prop :=
 nilP a0 fun v1 =>
 fadP 0 v1 fun v2 =>
 ldP 1 false v2 h fun v3 =>
 joinP G h.length (fun k4 =>
 joinP G h.length (fun k5 =>
 binP .eql .other v3 (.int .i64 1) fun v6 =>
 iteP v6
 (nilP a0 fun v7 =>
 fadP 1 v7 fun v8 =>
 nilP a0 fun v9 =>
 fadP 4 v9 fun v10 =>
 nilP a0 fun v11 =>
 fadP 5 v11 fun v12 =>
 nilP a0 fun v13 =>
 fadP 6 v13 fun v14 =>
 bslP t_p_int 4 [.nilp, .nilp, .nilp, .nilp] [(0, 1, v8), (1, 1, v10), (2, 1, v12), (3, 1, v14)] h fun v15 h =>
 K v15 h)
 (binP .eql .other v3 (.int .i64 3) fun v16 =>
 iteP v16
 (nilP a0 fun v17 =>
 fadP 4 v17 fun v18 =>
 bslP t_p_int 1 [.nilp] [(0, 1, v18)] h fun v19 h =>
 k5 [v19] h)
 (joinP G h.length (fun k20 =>
 binP .eql .other v3 (.int .i64 4) fun v21 =>
 iteP v21
 (k20 [v21] h)
 (binP .eql .other v3 (.int .i64 7) fun v22 =>
 k20 [v22] h))
 (fun v53 h =>
 (fun v23 =>
 iteP v23
 (k5 [.nils] h)
 (binP .eql .other v3 (.int .i64 2) fun v24 =>
 iteP v24
 (nilP a0 fun v25 =>
 fadP 1 v25 fun v26 =>
 nilP a0 fun v27 =>
 fadP 7 v27 fun v28 =>
 bslP t_p_int 2 [.nilp, .nilp] [(0, 1, v26), (1, 1, v28)] h fun v29 h =>
 K v29 h)
 (binP .eql .other v3 (.int .i64 5) fun v30 =>
 iteP v30
 (nilP a0 fun v31 =>
 fadP 2 v31 fun v32 =>
 nilP a0 fun v33 =>
 fadP 1 v33 fun v34 =>
 nilP a0 fun v35 =>
 fadP 3 v35 fun v36 =>
 nilP a0 fun v37 =>
 fadP 7 v37 fun v38 =>
 bslP t_p_int 4 [.nilp, .nilp, .nilp, .nilp] [(0, 1, v32), (1, 1, v34), (2, 1, v36), (3, 1, v38)] h fun v39 h =>
 K v39 h)
 (binP .eql .other v3 (.int .i64 6) fun v40 =>
 iteP v40
 (nilP a0 fun v41 =>
 fadP 4 v41 fun v42 =>
 nilP a0 fun v43 =>
 fadP 5 v43 fun v44 =>
 nilP a0 fun v45 =>
 fadP 7 v45 fun v46 =>
 bslP t_p_int 3 [.nilp, .nilp, .nilp] [(0, 1, v42), (1, 1, v44), (2, 1, v46)] h fun v47 h =>
 k4 [v47] h)
 (binP .eql .other v3 (.int .i64 9) fun v48 =>
 iteP v48
 (k4 [.nils] h)
 (binP .eql .other v3 (.int .i64 0) fun v49 =>
 iteP v49
 (nilP a0 fun v50 =>
 fadP 7 v50 fun v51 =>
 bslP t_p_int 1 [.nilp] [(0, 1, v51)] h fun v52 h =>
 K v52 h)
 (K .nils h))))))) (v53.getD 0 .any)))))
 (fun v59 h =>
 (fun v54 =>
 nilP a0 fun v55 =>
 fadP 1 v55 fun v56 =>
 bslP t_p_int 1 [.nilp] [(0, 1, v56)] h fun v57 h =>
 appP t_p_int 1 8 v57 v54 h fun v58 h =>
 K v58 h) (v59.getD 0 .any)))
 (fun v65 h =>
 (fun v60 =>
 nilP a0 fun v61 =>
 fadP 2 v61 fun v62 =>
 bslP t_p_int 1 [.nilp] [(0, 1, v62)] h fun v63 h =>
 appP t_p_int 1 8 v63 v60 h fun v64 h =>
 K v64 h) (v65.getD 0 .any))
theorem q_event_parts (S : FuncId → List AVal → AHeap A → (AVal → AHeap A → Prop) → Prop) (G : Nat → AHeap A → List AVal → (List AVal → AHeap A → Prop) → Prop) (a0 : AVal) (h : AHeap A) (K : AVal → AHeap A → Prop) : funP Try.prog S G Try.f66 (.two none .leaf (.two none .leaf (.two none (.two none .leaf (.one [] (.two none (.one [] (.two (some [3]) (.one [] (.two none (.one [] (.two none (.one [] (.two none (.one [] (.two (some [3]) (.one [] (.two none (.one [] (.two none (.one [] (.two none (.two none .leaf (.two none .leaf (.two none (.two (some [12]) .leaf .leaf) .leaf))) .leaf)) (.two none (.two none (.draw none (.take 0 (.take 1 (.take 2 (.take 3 (.take 4 (.take 5 (.take 6 (.take 7 (.take 8 (.take 9 (.take 10 (.take 11 (.alt 12 (.take 13 .stop) .stop)))))))))))))) .leaf) .leaf))) .leaf)) .leaf)) (.two none (.two none (.draw none (.take 0 (.take 1 (.take 2 (.take 3 (.take 4 (.take 5 (.alt 6 (.take 7 .stop) .stop)))))))) .leaf) .leaf))) (.two none (.two none (.draw none (.take 0 (.take 1 (.take 2 (.take 3 (.take 4 (.take 5 (.take 6 (.take 7 (.take 8 (.take 9 (.take 10 (.take 11 (.alt 12 (.take 13 .stop) .stop)))))))))))))) .leaf) .leaf))) (.draw none (.take 0 (.take 1 (.take 2 (.take 3 (.take 4 (.take 5 (.take 6 (.take 7 (.take 8 (.alt 9 (.take 10 .stop) .stop))))))))))))) .leaf)) .leaf))) .leaf))) [a0] h K = p_event_parts S G a0 h K := by kernel_rfl
theorem c_event_parts {R : Adts A} {h : AHeap A} {K : AVal → AHeap A → Prop} {a0 : AVal} (hk : p_event_parts (Tri Pr R) (Gives Pr R) a0 h K) : Tri Pr R n_event_parts [a0] h K :=
  tri_of_funP (by kernel_rfl) (fun _ _ _ _ h => h) (fun _ _ _ _ h => h) Try.func66 (by rw [q_event_parts]; exact hk)
/-- bastion/field.NumMay -/
def p_field_NumMay (S : FuncId → List AVal → AHeap A → (AVal → AHeap A → Prop) → Prop) (G : Nat → AHeap A → List AVal → (List AVal → AHeap A → Prop) → Prop) (a0 : AVal) (h : AHeap A) (K : AVal → AHeap A → Prop) : Prop :=
 binP .geq .other a0 (.int .i64 0) fun v1 =>
 condP v1 true (fun k2 =>
 binP .leq .other a0 (.int .i64 1073741823) fun v3 =>
 k2 v3 h)
 (.bool false) h fun v4 h =>
 K v4 h
theorem q_field_NumMay (S : FuncId → List AVal → AHeap A → (AVal → AHeap A → Prop) → Prop) (G : Nat → AHeap A → List AVal → (List AVal → AHeap A → Prop) → Prop) (a0 : AVal) (h : AHeap A) (K : AVal → AHeap A → Prop) : funP Try.prog S G Try.f67 .leaf [a0] h K = p_field_NumMay S G a0 h K := by kernel_rfl
theorem c_field_NumMay {R : Adts A} {h : AHeap A} {K : AVal → AHeap A → Prop} {a0 : AVal} (hk : p_field_NumMay (Tri Pr R) (Gives Pr R) a0 h K) : Tri Pr R n_field_NumMay [a0] h K :=
  tri_of_funP (by kernel_rfl) (fun _ _ _ _ h => h) (fun _ _ _ _ h => h) Try.func67 (by rw [q_field_NumMay]; exact hk)
/-- bastion/event.plain -/
def p_event_plain (S : FuncId → List AVal → AHeap A → (AVal → AHeap A → Prop) → Prop) (G : Nat → AHeap A → List AVal → (List AVal → AHeap A → Prop) → Prop) (a0 : AVal) (h : AHeap A) (K : AVal → AHeap A → Prop) : Prop :=
 newP t_api_Event [.int .i64 0, .int .i64 0, .int .i64 0, .int .i64 0, .int .i64 0, .int .i64 0, .int .i64 0, .int .i64 0] h fun v1 h =>
 nilP a0 fun v2 =>
 fadP 0 v2 fun v3 =>
 ldP 1 false v3 h fun v4 =>
 bldP [.int .i64 0, .int .i64 0, .int .i64 0, .int .i64 0, .int .i64 0, .int .i64 0, .int .i64 0, .int .i64 0] [(0, 1, v4)] fun v5 =>
 newP t_api_Event [.int .i64 0, .int .i64 0, .int .i64 0, .int .i64 0, .int .i64 0, .int .i64 0, .int .i64 0, .int .i64 0] h fun v6 h =>
 stP 8 v6 v5 h fun h =>
 S n_event_parts [v6] h fun v7 h =>
 S n_event_parts [a0] h fun v8 h =>
 lenP v8 fun v9 =>
 loopP G (fun v23 h k11 =>
 (fun v10 =>
 binP .lss .other v10 v9 fun v12 =>
 iteP v12
 (idxP 1 v8 v10 fun v13 =>
 ldP 1 false v13 h fun v14 =>
 idxP 1 v7 v10 fun v15 =>
 nilP v14 fun v16 =>
 ldP 1 false v15 h fun v17 =>
 ldP 1 false v16 h fun v18 =>
 ldV 1 false v15 h = some v17 ∧
 nilP v17 fun v19 =>
 stP 1 v19 v18 h fun h =>
 binP .add .other v10 (.int .i64 1) fun v20 =>
 k11 [v20] h)
 (ldP 8 true v6 h fun v21 =>
 stP 8 v1 v21 h fun h =>
 ldP 8 true v1 h fun v22 =>
 K v22 h)) (v23.getD 0 .any)) [.int .i64 0] h
theorem q_event_plain (S : FuncId → List AVal → AHeap A → (AVal → AHeap A → Prop) → Prop) (G : Nat → AHeap A → List AVal → (List AVal → AHeap A → Prop) → Prop) (a0 : AVal) (h : AHeap A) (K : AVal → AHeap A → Prop) : funP Try.prog S G Try.f68 (.two none .leaf (.two none .leaf (.two none .leaf (.two none (.two none .leaf (.one [] (.one [16] (.two none .leaf (.two none .leaf (.two none (.one [] (.two none .leaf (.draw none (.take 0 (.take 1 (.take 2 (.take 4 (.take 5 (.load 3 (.alt 6 (.take 7 (.alt 8 .stop .stop)) .stop)))))))))) .leaf)))))) .leaf)))) [a0] h K = p_event_plain S G a0 h K := by kernel_rfl
theorem c_event_plain {R : Adts A} {h : AHeap A} {K : AVal → AHeap A → Prop} {a0 : AVal} (hk : p_event_plain (Tri Pr R) (Gives Pr R) a0 h K) : Tri Pr R n_event_plain [a0] h K :=
  tri_of_funP (by kernel_rfl) (fun _ _ _ _ h => h) (fun _ _ _ _ h => h) Try.func68 (by rw [q_event_plain]; exact hk)
/-- slices.IndexFunc[[]bastion/api.Event,bastion/api.Event] -/
def p_slices_IndexFunc_api_Event (S : FuncId → List AVal → AHeap A → (AVal → AHeap A → Prop) → Prop) (G : Nat → AHeap A → List AVal → (List AVal → AHeap A → Prop) → Prop) (a0 a1 : AVal) (h : AHeap A) (K : AVal → AHeap A → Prop) : Prop :=
 lenP a0 fun v1 =>
 loopP G (fun v9 h k3 =>
 (fun v2 =>
 binP .lss .other v2 v1 fun v4 =>
 iteP v4
 (idxP 8 a0 v2 fun v5 =>
 ldP 8 true v5 h fun v6 =>
 dynP Pr S a1 [v6] h fun v7 h =>
 iteP v7
 (K v2 h)
 (binP .add .other v2 (.int .i64 1) fun v8 =>
 k3 [v8] h))
 (K (.int .i64 (-1)) h)) (v9.getD 0 .any)) [.int .i64 0] h
theorem q_slices_IndexFunc_api_Event (S : FuncId → List AVal → AHeap A → (AVal → AHeap A → Prop) → Prop) (G : Nat → AHeap A → List AVal → (List AVal → AHeap A → Prop) → Prop) (a0 a1 : AVal) (h : AHeap A) (K : AVal → AHeap A → Prop) : funP Try.prog S G Try.f69 (.two none .leaf (.two none (.two none .leaf (.one [] (.one [8] .leaf))) .leaf)) [a0, a1] h K = p_slices_IndexFunc_api_Event S G a0 a1 h K := by kernel_rfl
theorem c_slices_IndexFunc_api_Event {R : Adts A} {h : AHeap A} {K : AVal → AHeap A → Prop} {a0 a1 : AVal} (hk : p_slices_IndexFunc_api_Event (Tri Pr R) (Gives Pr R) a0 a1 h K) : Tri Pr R n_slices_IndexFunc_api_Event [a0, a1] h K :=
  tri_of_funP (by kernel_rfl) (fun _ _ _ _ h => h) (fun _ _ _ _ h => h) Try.func69 (by rw [q_slices_IndexFunc_api_Event]; exact hk)
/-- bastion/record.body -/
def p_record_body (S : FuncId → List AVal → AHeap A → (AVal → AHeap A → Prop) → Prop) (G : Nat → AHeap A → List AVal → (List AVal → AHeap A → Prop) → Prop) (a0 : AVal) (h : AHeap A) (K : AVal → AHeap A → Prop) : Prop :=
 nilP a0 fun v1 =>
 fadP 3 v1 fun v2 =>
 ldP 8 true v2 h fun v3 =>
 S n_event_Put [v3] h fun v4 h =>
 extP v4 0 fun v5 =>
 extP v4 1 fun v6 =>
 nilP a0 fun v7 =>
 fadP 0 v7 fun v8 =>
 nilP a0 fun v9 =>
 fadP 1 v9 fun v10 =>
 nilP a0 fun v11 =>
 fadP 2 v11 fun v12 =>
 ldP 1 false v8 h fun v13 =>
 ldP 1 false v10 h fun v14 =>
 ldP 1 false v12 h fun v15 =>
 ldV 1 false v10 h = some v14 ∧
 ldV 1 false v8 h = some v13 ∧
 bslP t_int 3 [.int .i64 0, .int .i64 0, .int .i64 0] [(0, 1, v13), (1, 1, v14), (2, 1, v15)] h fun v16 h =>
 S n_field_All [v16] h fun v17 h =>
 extP v17 0 fun v18 =>
 extP v17 1 fun v19 =>
 binP .neq .other v6 (.int .i64 0) fun v20 =>
 condP v20 false (fun k21 =>
 notP v19 fun v22 =>
 k21 v22 h)
 (.bool true) h fun v23 h =>
 condP v23 false (fun k24 =>
 nilP a0 fun v25 =>
 fadP 0 v25 fun v26 =>
 ldP 1 false v26 h fun v27 =>
 binP .lss .other v27 (.int .i64 1) fun v28 =>
 k24 v28 h)
 (.bool true) h fun v29 h =>
 condP v29 false (fun k30 =>
 nilP a0 fun v31 =>
 fadP 1 v31 fun v32 =>
 ldP 1 false v32 h fun v33 =>
 binP .lss .other v33 (.int .i64 1) fun v34 =>
 k30 v34 h)
 (.bool true) h fun v35 h =>
 condP v35 false (fun k36 =>
 lnsP v5 fun v37 =>
 binP .gtr .other v37 (.int .i64 44) fun v38 =>
 k36 v38 h)
 (.bool true) h fun v39 h =>
 iteP v39
 (K (.tup [.str [], .bool false]) h)
 (S n_field_Text [v5] h fun v40 h =>
 extP v40 0 fun v41 =>
 extP v40 1 fun v42 =>
 binP .add .other v18 v41 fun v43 =>
 K (.tup [v43, .bool true]) h)
theorem q_record_body (S : FuncId → List AVal → AHeap A → (AVal → AHeap A → Prop) → Prop) (G : Nat → AHeap A → List AVal → (List AVal → AHeap A → Prop) → Prop) (a0 : AVal) (h : AHeap A) (K : AVal → AHeap A → Prop) : funP Try.prog S G Try.f70 (.two none .leaf (.two none .leaf (.two none (.draw none (.take 0 (.take 1 (.take 2 (.take 4 (.take 5 (.take 6 (.take 8 (.take 9 (.take 10 (.load 3 (.load 7 (.alt 11 (.alt 12 (.alt 13 (.take 14 (.take 15 (.take 16 (.take 17 (.take 18 .stop))))) .stop) .stop) .stop))))))))))))) .leaf))) [a0] h K = p_record_body S G a0 h K := by kernel_rfl
theorem c_record_body {R : Adts A} {h : AHeap A} {K : AVal → AHeap A → Prop} {a0 : AVal} (hk : p_record_body (Tri Pr R) (Gives Pr R) a0 h K) : Tri Pr R n_record_body [a0] h K :=
  tri_of_funP (by kernel_rfl) (fun _ _ _ _ h => h) (fun _ _ _ _ h => h) Try.func70 (by rw [q_record_body]; exact hk)
/-- bastion/bastionref1.part -/
def p_ref1_part (S : FuncId → List AVal → AHeap A → (AVal → AHeap A → Prop) → Prop) (G : Nat → AHeap A → List AVal → (List AVal → AHeap A → Prop) → Prop) (a0 : AVal) (h : AHeap A) (K : AVal → AHeap A → Prop) : Prop :=
 boxP t_api_Event 8 a0 h fun v1 h =>
 newP t_api_Event [.int .i64 0, .int .i64 0, .int .i64 0, .int .i64 0, .int .i64 0, .int .i64 0, .int .i64 0, .int .i64 0] h fun v2 h =>
 fadP 0 v1 fun v3 =>
 ldP 1 false v3 h fun v4 =>
 bldP [.int .i64 0, .int .i64 0, .int .i64 0, .int .i64 0, .int .i64 0, .int .i64 0, .int .i64 0, .int .i64 0] [(0, 1, v4)] fun v5 =>
 newP t_api_Event [.int .i64 0, .int .i64 0, .int .i64 0, .int .i64 0, .int .i64 0, .int .i64 0, .int .i64 0, .int .i64 0] h fun v6 h =>
 stP 8 v6 v5 h fun h =>
 joinP G h.length (fun k7 =>
 fadP 0 v1 fun v8 =>
 ldP 1 false v8 h fun v9 =>
 binP .eql .other v9 (.int .i64 0) fun v10 =>
 iteP v10
 (fadP 7 v1 fun v11 =>
 ldP 1 false v11 h fun v12 =>
 fadP 7 v6 fun v13 =>
 stP 1 v13 v12 h fun h =>
 k7 [] h)
 (binP .eql .other v9 (.int .i64 1) fun v14 =>
 iteP v14
 (fadP 1 v1 fun v15 =>
 ldP 1 false v15 h fun v16 =>
 fadP 1 v6 fun v17 =>
 stP 1 v17 v16 h fun h =>
 fadP 4 v1 fun v18 =>
 ldP 1 false v18 h fun v19 =>
 fadP 4 v6 fun v20 =>
 stP 1 v20 v19 h fun h =>
 fadP 5 v1 fun v21 =>
 ldP 1 false v21 h fun v22 =>
 fadP 5 v6 fun v23 =>
 stP 1 v23 v22 h fun h =>
 fadP 6 v1 fun v24 =>
 ldP 1 false v24 h fun v25 =>
 fadP 6 v6 fun v26 =>
 stP 1 v26 v25 h fun h =>
 k7 [] h)
 (binP .eql .other v9 (.int .i64 2) fun v27 =>
 iteP v27
 (fadP 1 v1 fun v28 =>
 ldP 1 false v28 h fun v29 =>
 fadP 1 v6 fun v30 =>
 stP 1 v30 v29 h fun h =>
 fadP 7 v1 fun v31 =>
 ldP 1 false v31 h fun v32 =>
 fadP 7 v6 fun v33 =>
 stP 1 v33 v32 h fun h =>
 k7 [] h)
 (binP .eql .other v9 (.int .i64 3) fun v34 =>
 iteP v34
 (fadP 1 v1 fun v35 =>
 ldP 1 false v35 h fun v36 =>
 fadP 1 v6 fun v37 =>
 stP 1 v37 v36 h fun h =>
 fadP 4 v1 fun v38 =>
 ldP 1 false v38 h fun v39 =>
 fadP 4 v6 fun v40 =>
 stP 1 v40 v39 h fun h =>
 k7 [] h)
 (joinP G h.length (fun k41 =>
 binP .eql .other v9 (.int .i64 4) fun v42 =>
 iteP v42
 (k41 [v42] h)
 (binP .eql .other v9 (.int .i64 7) fun v43 =>
 k41 [v43] h))
 (fun v81 h =>
 (fun v44 =>
 iteP v44
 (fadP 1 v1 fun v45 =>
 ldP 1 false v45 h fun v46 =>
 fadP 1 v6 fun v47 =>
 stP 1 v47 v46 h fun h =>
 k7 [] h)
 (binP .eql .other v9 (.int .i64 5) fun v48 =>
 iteP v48
 (fadP 2 v1 fun v49 =>
 ldP 1 false v49 h fun v50 =>
 fadP 2 v6 fun v51 =>
 stP 1 v51 v50 h fun h =>
 fadP 1 v1 fun v52 =>
 ldP 1 false v52 h fun v53 =>
 fadP 1 v6 fun v54 =>
 stP 1 v54 v53 h fun h =>
 fadP 3 v1 fun v55 =>
 ldP 1 false v55 h fun v56 =>
 fadP 3 v6 fun v57 =>
 stP 1 v57 v56 h fun h =>
 fadP 7 v1 fun v58 =>
 ldP 1 false v58 h fun v59 =>
 fadP 7 v6 fun v60 =>
 stP 1 v60 v59 h fun h =>
 k7 [] h)
 (binP .eql .other v9 (.int .i64 6) fun v61 =>
 iteP v61
 (fadP 2 v1 fun v62 =>
 ldP 1 false v62 h fun v63 =>
 fadP 2 v6 fun v64 =>
 stP 1 v64 v63 h fun h =>
 fadP 4 v1 fun v65 =>
 ldP 1 false v65 h fun v66 =>
 fadP 4 v6 fun v67 =>
 stP 1 v67 v66 h fun h =>
 fadP 5 v1 fun v68 =>
 ldP 1 false v68 h fun v69 =>
 fadP 5 v6 fun v70 =>
 stP 1 v70 v69 h fun h =>
 fadP 7 v1 fun v71 =>
 ldP 1 false v71 h fun v72 =>
 fadP 7 v6 fun v73 =>
 stP 1 v73 v72 h fun h =>
 k7 [] h)
 (binP .eql .other v9 (.int .i64 8) fun v74 =>
 iteP v74
 (k7 [] h)
 (binP .eql .other v9 (.int .i64 9) fun v75 =>
 iteP v75
 (fadP 2 v1 fun v76 =>
 ldP 1 false v76 h fun v77 =>
 fadP 2 v6 fun v78 =>
 stP 1 v78 v77 h fun h =>
 k7 [] h)
 (ldP 8 true v6 h fun v79 =>
 stP 8 v2 v79 h fun h =>
 ldP 8 true v2 h fun v80 =>
 K (.tup [v80, .bool false]) h)))))) (v81.getD 0 .any)))))))
 (fun _ h =>
 ldP 8 true v6 h fun v82 =>
 stP 8 v2 v82 h fun h =>
 ldP 8 true v2 h fun v83 =>
 K (.tup [v83, .bool true]) h)
theorem q_ref1_part (S : FuncId → List AVal → AHeap A → (AVal → AHeap A → Prop) → Prop) (G : Nat → AHeap A → List AVal → (List AVal → AHeap A → Prop) → Prop) (a0 : AVal) (h : AHeap A) (K : AVal → AHeap A → Prop) : funP Try.prog S G Try.f71 (.two none .leaf (.two none .leaf (.two (some []) (.two none .leaf (.one [] (.two none .leaf (.two none .leaf (.two none .leaf (.two none .leaf (.two none .leaf (.two none .leaf (.two none .leaf (.two none .leaf (.two (some [46]) .leaf .leaf))))))))))) .leaf))) [a0] h K = p_ref1_part S G a0 h K := by kernel_rfl
theorem c_ref1_part {R : Adts A} {h : AHeap A} {K : AVal → AHeap A → Prop} {a0 : AVal} (hk : p_ref1_part (Tri Pr R) (Gives Pr R) a0 h K) : Tri Pr R n_ref1_part [a0] h K :=
  tri_of_funP (by kernel_rfl) (fun _ _ _ _ h => h) (fun _ _ _ _ h => h) Try.func71 (by rw [q_ref1_part]; exact hk)
/-- bastion/bastionref1.num -/
def p_ref1_num (S : FuncId → List AVal → AHeap A → (AVal → AHeap A → Prop) → Prop) (G : Nat → AHeap A → List AVal → (List AVal → AHeap A → Prop) → Prop) (a0 : AVal) (h : AHeap A) (K : AVal → AHeap A → Prop) : Prop :=
 binP .geq .other a0 (.int .i64 0) fun v1 =>
 condP v1 true (fun k2 =>
 binP .leq .other a0 (.int .i64 1073741823) fun v3 =>
 k2 v3 h)
 (.bool false) h fun v4 h =>
 K v4 h
theorem q_ref1_num (S : FuncId → List AVal → AHeap A → (AVal → AHeap A → Prop) → Prop) (G : Nat → AHeap A → List AVal → (List AVal → AHeap A → Prop) → Prop) (a0 : AVal) (h : AHeap A) (K : AVal → AHeap A → Prop) : funP Try.prog S G Try.f72 .leaf [a0] h K = p_ref1_num S G a0 h K := by kernel_rfl
theorem c_ref1_num {R : Adts A} {h : AHeap A} {K : AVal → AHeap A → Prop} {a0 : AVal} (hk : p_ref1_num (Tri Pr R) (Gives Pr R) a0 h K) : Tri Pr R n_ref1_num [a0] h K :=
  tri_of_funP (by kernel_rfl) (fun _ _ _ _ h => h) (fun _ _ _ _ h => h) Try.func72 (by rw [q_ref1_num]; exact hk)
/-- (*bastion/field.Reader).Num -/
def p_field_Reader_Num (S : FuncId → List AVal → AHeap A → (AVal → AHeap A → Prop) → Prop) (G : Nat → AHeap A → List AVal → (List AVal → AHeap A → Prop) → Prop) (a0 : AVal) (h : AHeap A) (K : AVal → AHeap A → Prop) : Prop :=
 nilP a0 fun v1 =>
 fadP 2 v1 fun v2 =>
 ldP 1 false v2 h fun v3 =>
 binP .neq .ifc v3 .nili fun v4 =>
 iteP v4
 (K (.int .i64 0) h)
 (nilP a0 fun v5 =>
 fadP 0 v5 fun v6 =>
 nilP a0 fun v7 =>
 fadP 1 v7 fun v8 =>
 ldP 1 false v6 h fun v9 =>
 ldP 1 false v8 h fun v10 =>
 ldV 1 false v6 h = some v9 ∧
 S n_field_num [v9, v10] h fun v11 h =>
 extP v11 0 fun v12 =>
 extP v11 1 fun v13 =>
 extP v11 2 fun v14 =>
 nilP a0 fun v15 =>
 fadP 1 v15 fun v16 =>
 stP 1 v16 v13 h fun h =>
 nilP a0 fun v17 =>
 fadP 2 v17 fun v18 =>
 stP 1 v18 v14 h fun h =>
 K v12 h)
theorem q_field_Reader_Num (S : FuncId → List AVal → AHeap A → (AVal → AHeap A → Prop) → Prop) (G : Nat → AHeap A → List AVal → (List AVal → AHeap A → Prop) → Prop) (a0 : AVal) (h : AHeap A) (K : AVal → AHeap A → Prop) : funP Try.prog S G Try.f73 (.two none .leaf (.two none .leaf (.two none (.draw none (.take 0 (.take 1 (.take 2 (.take 4 (.take 5 (.take 6 (.load 3 (.alt 7 (.alt 8 (.take 9 (.take 10 (.take 11 (.take 12 (.take 13 (.take 14 (.take 15 .stop))))))) .stop) .stop))))))))) .leaf))) [a0] h K = p_field_Reader_Num S G a0 h K := by kernel_rfl
theorem c_field_Reader_Num {R : Adts A} {h : AHeap A} {K : AVal → AHeap A → Prop} {a0 : AVal} (hk : p_field_Reader_Num (Tri Pr R) (Gives Pr R) a0 h K) : Tri Pr R n_field_Reader_Num [a0] h K :=
  tri_of_funP (by kernel_rfl) (fun _ _ _ _ h => h) (fun _ _ _ _ h => h) Try.func73 (by rw [q_field_Reader_Num]; exact hk)
/-- bastion/craft.IsHash -/
def p_craft_IsHash (S : FuncId → List AVal → AHeap A → (AVal → AHeap A → Prop) → Prop) (G : Nat → AHeap A → List AVal → (List AVal → AHeap A → Prop) → Prop) (a0 a1 a2 : AVal) (h : AHeap A) (K : AVal → AHeap A → Prop) : Prop :=
 binP .add .other (.str [72]) a1 fun v1 =>
 S n_craft_is [a0, v1, a2] h fun v2 h =>
 K v2 h
theorem q_craft_IsHash (S : FuncId → List AVal → AHeap A → (AVal → AHeap A → Prop) → Prop) (G : Nat → AHeap A → List AVal → (List AVal → AHeap A → Prop) → Prop) (a0 a1 a2 : AVal) (h : AHeap A) (K : AVal → AHeap A → Prop) : funP Try.prog S G Try.f74 .leaf [a0, a1, a2] h K = p_craft_IsHash S G a0 a1 a2 h K := by kernel_rfl
theorem c_craft_IsHash {R : Adts A} {h : AHeap A} {K : AVal → AHeap A → Prop} {a0 a1 a2 : AVal} (hk : p_craft_IsHash (Tri Pr R) (Gives Pr R) a0 a1 a2 h K) : Tri Pr R n_craft_IsHash [a0, a1, a2] h K :=
  tri_of_funP (by kernel_rfl) (fun _ _ _ _ h => h) (fun _ _ _ _ h => h) Try.func74 (by rw [q_craft_IsHash]; exact hk)
/-- bastion/field.width -/
def p_field_width (S : FuncId → List AVal → AHeap A → (AVal → AHeap A → Prop) → Prop) (G : Nat → AHeap A → List AVal → (List AVal → AHeap A → Prop) → Prop) (a0 : AVal) (h : AHeap A) (K : AVal → AHeap A → Prop) : Prop :=
 loopP G (fun v7 h k3 =>
 (fun v1 v2 =>
 binP .gtr .other v1 (.int .i64 0) fun v4 =>
 iteP v4
 (binP .add .other v2 (.int .i64 1) fun v5 =>
 binP .shr .other v1 (.int .u64 8) fun v6 =>
 k3 [v6, v5] h)
 (K v2 h)) (v7.getD 0 .any) (v7.getD 1 .any)) [a0, .int .i64 0] h
theorem q_field_width (S : FuncId → List AVal → AHeap A → (AVal → AHeap A → Prop) → Prop) (G : Nat → AHeap A → List AVal → (List AVal → AHeap A → Prop) → Prop) (a0 : AVal) (h : AHeap A) (K : AVal → AHeap A → Prop) : funP Try.prog S G Try.f75 (.two none .leaf (.two none .leaf (.two none (.one [] (.one [0, 3] .leaf)) .leaf))) [a0] h K = p_field_width S G a0 h K := by kernel_rfl
theorem c_field_width {R : Adts A} {h : AHeap A} {K : AVal → AHeap A → Prop} {a0 : AVal} (hk : p_field_width (Tri Pr R) (Gives Pr R) a0 h K) : Tri Pr R n_field_width [a0] h K :=
  tri_of_funP (by kernel_rfl) (fun _ _ _ _ h => h) (fun _ _ _ _ h => h) Try.func75 (by rw [q_field_width]; exact hk)
/-- bastion/craft.named -/
def p_craft_named (S : FuncId → List AVal → AHeap A → (AVal → AHeap A → Prop) → Prop) (G : Nat → AHeap A → List AVal → (List AVal → AHeap A → Prop) → Prop) (a0 a1 a2 : AVal) (h : AHeap A) (K : AVal → AHeap A → Prop) : Prop :=
 binP .eql .ptr a0 .nilp fun v1 =>
 iteP v1
 (K (.tup [.int .i64 0, .int .i64 1]) h)
 (notP a2 fun v2 =>
 iteP v2
 (K (.tup [.int .i64 0, .int .i64 300]) h)
 (S n_book_Book_Name [a0, a1] h fun v3 h =>
 extP v3 0 fun v4 =>
 extP v3 1 fun v5 =>
 binP .neq .other v5 (.int .i64 0) fun v6 =>
 iteP v6
 (K (.tup [.int .i64 0, .int .i64 300]) h)
 (K (.tup [v4, .int .i64 0]) h)))
theorem q_craft_named (S : FuncId → List AVal → AHeap A → (AVal → AHeap A → Prop) → Prop) (G : Nat → AHeap A → List AVal → (List AVal → AHeap A → Prop) → Prop) (a0 a1 a2 : AVal) (h : AHeap A) (K : AVal → AHeap A → Prop) : funP Try.prog S G Try.f76 .leaf [a0, a1, a2] h K = p_craft_named S G a0 a1 a2 h K := by kernel_rfl
theorem c_craft_named {R : Adts A} {h : AHeap A} {K : AVal → AHeap A → Prop} {a0 a1 a2 : AVal} (hk : p_craft_named (Tri Pr R) (Gives Pr R) a0 a1 a2 h K) : Tri Pr R n_craft_named [a0, a1, a2] h K :=
  tri_of_funP (by kernel_rfl) (fun _ _ _ _ h => h) (fun _ _ _ _ h => h) Try.func76 (by rw [q_craft_named]; exact hk)
/-- bastion/event.Get -/
def p_event_Get (S : FuncId → List AVal → AHeap A → (AVal → AHeap A → Prop) → Prop) (G : Nat → AHeap A → List AVal → (List AVal → AHeap A → Prop) → Prop) (a0 : AVal) (h : AHeap A) (K : AVal → AHeap A → Prop) : Prop :=
 newP t_api_Event [.int .i64 0, .int .i64 0, .int .i64 0, .int .i64 0, .int .i64 0, .int .i64 0, .int .i64 0, .int .i64 0] h fun v1 h =>
 bldP [.str [], .int .i64 0, .nili] [(0, 1, a0)] fun v2 =>
 boxP t_field_Reader 3 v2 h fun v3 h =>
 S n_field_Reader_Num [v3] h fun v4 h =>
 bldP [.int .i64 0, .int .i64 0, .int .i64 0, .int .i64 0, .int .i64 0, .int .i64 0, .int .i64 0, .int .i64 0] [(0, 1, v4)] fun v5 =>
 newP t_api_Event [.int .i64 0, .int .i64 0, .int .i64 0, .int .i64 0, .int .i64 0, .int .i64 0, .int .i64 0, .int .i64 0] h fun v6 h =>
 stP 8 v6 v5 h fun h =>
 S n_event_parts [v6] h fun v7 h =>
 lenP v7 fun v8 =>
 loopP G (fun v28 h k10 =>
 (fun v9 =>
 binP .lss .other v9 v8 fun v11 =>
 iteP v11
 (idxP 1 v7 v9 fun v12 =>
 ldP 1 false v12 h fun v13 =>
 S n_field_Reader_Num [v3] h fun v14 h =>
 nilP v13 fun v15 =>
 stP 1 v15 v14 h fun h =>
 binP .add .other v9 (.int .i64 1) fun v16 =>
 k10 [v16] h)
 (S n_field_Reader_Done [v3] h fun v17 h =>
 notP v17 fun v18 =>
 condP v18 false (fun k19 =>
 ldP 8 true v6 h fun v20 =>
 S n_event_May [v20] h fun v21 h =>
 notP v21 fun v22 =>
 k19 v22 h)
 (.bool true) h fun v23 h =>
 iteP v23
 (bldP [.int .i64 0, .int .i64 0, .int .i64 0, .int .i64 0, .int .i64 0, .int .i64 0, .int .i64 0, .int .i64 0] [] fun v24 =>
 stP 8 v1 v24 h fun h =>
 ldP 8 true v1 h fun v25 =>
 K (.tup [v25, .int .i64 700]) h)
 (ldP 8 true v6 h fun v26 =>
 stP 8 v1 v26 h fun h =>
 ldP 8 true v1 h fun v27 =>
 K (.tup [v27, .int .i64 0]) h))) (v28.getD 0 .any)) [.int .i64 0] h
theorem q_event_Get (S : FuncId → List AVal → AHeap A → (AVal → AHeap A → Prop) → Prop) (G : Nat → AHeap A → List AVal → (List AVal → AHeap A → Prop) → Prop) (a0 : AVal) (h : AHeap A) (K : AVal → AHeap A → Prop) : funP Try.prog S G Try.f77 (.two none .leaf (.two none .leaf (.two none .leaf (.two none (.two none .leaf (.one [] (.one [16] .leaf))) .leaf)))) [a0] h K = p_event_Get S G a0 h K := by kernel_rfl
theorem c_event_Get {R : Adts A} {h : AHeap A} {K : AVal → AHeap A → Prop} {a0 : AVal} (hk : p_event_Get (Tri Pr R) (Gives Pr R) a0 h K) : Tri Pr R n_event_Get [a0] h K :=
  tri_of_funP (by kernel_rfl) (fun _ _ _ _ h => h) (fun _ _ _ _ h => h) Try.func77 (by rw [q_event_Get]; exact hk)
/-- (*bastion/field.Reader).Text -/
def p_field_Reader_Text (S : FuncId → List AVal → AHeap A → (AVal → AHeap A → Prop) → Prop) (G : Nat → AHeap A → List AVal → (List AVal → AHeap A → Prop) → Prop) (a0 : AVal) (h : AHeap A) (K : AVal → AHeap A → Prop) : Prop :=
 nilP a0 fun v1 =>
 fadP 2 v1 fun v2 =>
 ldP 1 false v2 h fun v3 =>
 binP .neq .ifc v3 .nili fun v4 =>
 iteP v4
 (K (.str []) h)
 (nilP a0 fun v5 =>
 fadP 0 v5 fun v6 =>
 nilP a0 fun v7 =>
 fadP 1 v7 fun v8 =>
 ldP 1 false v6 h fun v9 =>
 ldP 1 false v8 h fun v10 =>
 ldV 1 false v6 h = some v9 ∧
 S n_field_text [v9, v10] h fun v11 h =>
 extP v11 0 fun v12 =>
 extP v11 1 fun v13 =>
 extP v11 2 fun v14 =>
 nilP a0 fun v15 =>
 fadP 1 v15 fun v16 =>
 stP 1 v16 v13 h fun h =>
 nilP a0 fun v17 =>
 fadP 2 v17 fun v18 =>
 stP 1 v18 v14 h fun h =>
 K v12 h)
theorem q_field_Reader_Text (S : FuncId → List AVal → AHeap A → (AVal → AHeap A → Prop) → Prop) (G : Nat → AHeap A → List AVal → (List AVal → AHeap A → Prop) → Prop) (a0 : AVal) (h : AHeap A) (K : AVal → AHeap A → Prop) : funP Try.prog S G Try.f78 (.two none .leaf (.two none .leaf (.two none (.draw none (.take 0 (.take 1 (.take 2 (.take 4 (.take 5 (.take 6 (.load 3 (.alt 7 (.alt 8 (.take 9 (.take 10 (.take 11 (.take 12 (.take 13 (.take 14 (.take 15 .stop))))))) .stop) .stop))))))))) .leaf))) [a0] h K = p_field_Reader_Text S G a0 h K := by kernel_rfl
theorem c_field_Reader_Text {R : Adts A} {h : AHeap A} {K : AVal → AHeap A → Prop} {a0 : AVal} (hk : p_field_Reader_Text (Tri Pr R) (Gives Pr R) a0 h K) : Tri Pr R n_field_Reader_Text [a0] h K :=
  tri_of_funP (by kernel_rfl) (fun _ _ _ _ h => h) (fun _ _ _ _ h => h) Try.func78 (by rw [q_field_Reader_Text]; exact hk)
/-- bastion/event.Put -/
def p_event_Put (S : FuncId → List AVal → AHeap A → (AVal → AHeap A → Prop) → Prop) (G : Nat → AHeap A → List AVal → (List AVal → AHeap A → Prop) → Prop) (a0 : AVal) (h : AHeap A) (K : AVal → AHeap A → Prop) : Prop :=
 boxP t_api_Event 8 a0 h fun v1 h =>
 ldP 8 true v1 h fun v2 =>
 S n_event_May [v2] h fun v3 h =>
 notP v3 fun v4 =>
 iteP v4
 (K (.tup [.str [], .int .i64 700]) h)
 (fadP 0 v1 fun v5 =>
 ldP 1 false v5 h fun v6 =>
 S n_field_Num [v6] h fun v7 h =>
 extP v7 0 fun v8 =>
 extP v7 1 fun v9 =>
 S n_event_parts [v1] h fun v10 h =>
 lenP v10 fun v11 =>
 loopP G (fun v25 h k14 =>
 (fun v12 v13 =>
 binP .lss .other v13 v11 fun v15 =>
 iteP v15
 (idxP 1 v10 v13 fun v16 =>
 ldP 1 false v16 h fun v17 =>
 nilP v17 fun v18 =>
 ldP 1 false v18 h fun v19 =>
 S n_field_Num [v19] h fun v20 h =>
 extP v20 0 fun v21 =>
 extP v20 1 fun v22 =>
 binP .add .other v12 v21 fun v23 =>
 binP .add .other v13 (.int .i64 1) fun v24 =>
 k14 [v23, v24] h)
 (K (.tup [v12, .int .i64 0]) h)) (v25.getD 0 .any) (v25.getD 1 .any)) [v8, .int .i64 0] h)
theorem q_event_Put (S : FuncId → List AVal → AHeap A → (AVal → AHeap A → Prop) → Prop) (G : Nat → AHeap A → List AVal → (List AVal → AHeap A → Prop) → Prop) (a0 : AVal) (h : AHeap A) (K : AVal → AHeap A → Prop) : funP Try.prog S G Try.f79 (.two none .leaf (.two none .leaf (.two none .leaf (.two none (.two none .leaf (.one [] (.one [4, 21] .leaf))) .leaf)))) [a0] h K = p_event_Put S G a0 h K := by kernel_rfl
theorem c_event_Put {R : Adts A} {h : AHeap A} {K : AVal → AHeap A → Prop} {a0 : AVal} (hk : p_event_Put (Tri Pr R) (Gives Pr R) a0 h K) : Tri Pr R n_event_Put [a0] h K :=
  tri_of_funP (by kernel_rfl) (fun _ _ _ _ h => h) (fun _ _ _ _ h => h) Try.func79 (by rw [q_event_Put]; exact hk)
/-- bastion/field.All -/
def p_field_All (S : FuncId → List AVal → AHeap A → (AVal → AHeap A → Prop) → Prop) (G : Nat → AHeap A → List AVal → (List AVal → AHeap A → Prop) → Prop) (a0 : AVal) (h : AHeap A) (K : AVal → AHeap A → Prop) : Prop :=
 lenP a0 fun v1 =>
 loopP G (fun v14 h k4 =>
 (fun v2 v3 =>
 binP .lss .other v3 v1 fun v5 =>
 iteP v5
 (idxP 1 a0 v3 fun v6 =>
 ldP 1 false v6 h fun v7 =>
 S n_field_Num [v7] h fun v8 h =>
 extP v8 0 fun v9 =>
 extP v8 1 fun v10 =>
 binP .neq .other v10 (.int .i64 0) fun v11 =>
 iteP v11
 (K (.tup [.str [], .bool false]) h)
 (binP .add .other v2 v9 fun v12 =>
 binP .add .other v3 (.int .i64 1) fun v13 =>
 k4 [v12, v13] h))
 (K (.tup [v2, .bool true]) h)) (v14.getD 0 .any) (v14.getD 1 .any)) [.str [], .int .i64 0] h
theorem q_field_All (S : FuncId → List AVal → AHeap A → (AVal → AHeap A → Prop) → Prop) (G : Nat → AHeap A → List AVal → (List AVal → AHeap A → Prop) → Prop) (a0 : AVal) (h : AHeap A) (K : AVal → AHeap A → Prop) : funP Try.prog S G Try.f80 (.two none .leaf (.two none .leaf (.two none (.two none .leaf (.one [] (.one [4, 11] .leaf))) .leaf))) [a0] h K = p_field_All S G a0 h K := by kernel_rfl
theorem c_field_All {R : Adts A} {h : AHeap A} {K : AVal → AHeap A → Prop} {a0 : AVal} (hk : p_field_All (Tri Pr R) (Gives Pr R) a0 h K) : Tri Pr R n_field_All [a0] h K :=
  tri_of_funP (by kernel_rfl) (fun _ _ _ _ h => h) (fun _ _ _ _ h => h) Try.func80 (by rw [q_field_All]; exact hk)
/-- bastion/field.Text -/
def p_field_Text (S : FuncId → List AVal → AHeap A → (AVal → AHeap A → Prop) → Prop) (G : Nat → AHeap A → List AVal → (List AVal → AHeap A → Prop) → Prop) (a0 : AVal) (h : AHeap A) (K : AVal → AHeap A → Prop) : Prop :=
 lnsP a0 fun v1 =>
 binP .gtr .other v1 (.int .i64 65536) fun v2 =>
 iteP v2
 (K (.tup [.str [], .int .i64 100]) h)
 (lnsP a0 fun v3 =>
 S n_field_Num [v3] h fun v4 h =>
 extP v4 0 fun v5 =>
 extP v4 1 fun v6 =>
 binP .add .other v5 a0 fun v7 =>
 K (.tup [v7, v6]) h)
theorem q_field_Text (S : FuncId → List AVal → AHeap A → (AVal → AHeap A → Prop) → Prop) (G : Nat → AHeap A → List AVal → (List AVal → AHeap A → Prop) → Prop) (a0 : AVal) (h : AHeap A) (K : AVal → AHeap A → Prop) : funP Try.prog S G Try.f81 .leaf [a0] h K = p_field_Text S G a0 h K := by kernel_rfl
theorem c_field_Text {R : Adts A} {h : AHeap A} {K : AVal → AHeap A → Prop} {a0 : AVal} (hk : p_field_Text (Tri Pr R) (Gives Pr R) a0 h K) : Tri Pr R n_field_Text [a0] h K :=
  tri_of_funP (by kernel_rfl) (fun _ _ _ _ h => h) (fun _ _ _ _ h => h) Try.func81 (by rw [q_field_Text]; exact hk)
/-- bastion/field.num -/
def p_field_num (S : FuncId → List AVal → AHeap A → (AVal → AHeap A → Prop) → Prop) (G : Nat → AHeap A → List AVal → (List AVal → AHeap A → Prop) → Prop) (a0 a1 : AVal) (h : AHeap A) (K : AVal → AHeap A → Prop) : Prop :=
 binP .lss .other a1 (.int .i64 0) fun v1 =>
 condP v1 false (fun k2 =>
 lnsP a0 fun v3 =>
 binP .gtr .other a1 v3 fun v4 =>
 k2 v4 h)
 (.bool true) h fun v5 h =>
 iteP v5
 (mkiP t_api_Errno (.int .i64 100) fun v6 =>
 bldP [.int .i64 0, .nili] [(0, 1, a1), (1, 1, v6)] fun v7 =>
 boxP t_field_Fault 2 v7 h fun v8 h =>
 mkiP t_p_field_Fault v8 fun v9 =>
 K (.tup [.int .i64 0, .int .i64 0, v9]) h)
 (lnsP a0 fun v10 =>
 binP .eql .other a1 v10 fun v11 =>
 iteP v11
 (mkiP t_api_Errno (.int .i64 101) fun v12 =>
 bldP [.int .i64 0, .nili] [(0, 1, a1), (1, 1, v12)] fun v13 =>
 boxP t_field_Fault 2 v13 h fun v14 h =>
 mkiP t_p_field_Fault v14 fun v15 =>
 K (.tup [.int .i64 0, .int .i64 0, v15]) h)
 (sixP a0 a1 fun v16 =>
 cviP .i64 v16 fun v17 =>
 binP .add .other a1 (.int .i64 1) fun v18 =>
 subP a0 (some v18) none fun v19 =>
 binP .gtr .other v17 (.int .i64 4) fun v20 =>
 iteP v20
 (mkiP t_api_Errno (.int .i64 100) fun v21 =>
 bldP [.int .i64 0, .nili] [(0, 1, a1), (1, 1, v21)] fun v22 =>
 boxP t_field_Fault 2 v22 h fun v23 h =>
 mkiP t_p_field_Fault v23 fun v24 =>
 K (.tup [.int .i64 0, .int .i64 0, v24]) h)
 (lnsP v19 fun v25 =>
 binP .gtr .other v17 v25 fun v26 =>
 iteP v26
 (binP .add .other a1 (.int .i64 1) fun v27 =>
 mkiP t_api_Errno (.int .i64 101) fun v28 =>
 bldP [.int .i64 0, .nili] [(0, 1, v27), (1, 1, v28)] fun v29 =>
 boxP t_field_Fault 2 v29 h fun v30 h =>
 mkiP t_p_field_Fault v30 fun v31 =>
 K (.tup [.int .i64 0, .int .i64 0, v31]) h)
 (subP v19 none (some v17) fun v32 =>
 s2bP t_uint8 v32 h fun v33 h =>
 lenP v33 fun v34 =>
 loopP G (fun v57 h k37 =>
 (fun v35 v36 =>
 binP .lss .other v36 v34 fun v38 =>
 iteP v38
 (idxP 1 v33 v36 fun v39 =>
 ldP 1 false v39 h fun v40 =>
 binP .shl .other v35 (.int .u64 8) fun v41 =>
 cviP .i64 v40 fun v42 =>
 binP .or .other v41 v42 fun v43 =>
 binP .add .other v36 (.int .i64 1) fun v44 =>
 k37 [v43, v44] h)
 (S n_field_width [v35] h fun v45 h =>
 binP .neq .other v45 v17 fun v46 =>
 condP v46 false (fun k47 =>
 binP .gtr .other v35 (.int .i64 1073741823) fun v48 =>
 k47 v48 h)
 (.bool true) h fun v49 h =>
 iteP v49
 (binP .add .other a1 (.int .i64 1) fun v50 =>
 mkiP t_api_Errno (.int .i64 100) fun v51 =>
 bldP [.int .i64 0, .nili] [(0, 1, v50), (1, 1, v51)] fun v52 =>
 boxP t_field_Fault 2 v52 h fun v53 h =>
 mkiP t_p_field_Fault v53 fun v54 =>
 K (.tup [.int .i64 0, .int .i64 0, v54]) h)
 (binP .add .other a1 (.int .i64 1) fun v55 =>
 binP .add .other v55 v17 fun v56 =>
 K (.tup [v35, v56, .nili]) h))) (v57.getD 0 .any) (v57.getD 1 .any)) [.int .i64 0, .int .i64 0] h))))
theorem q_field_num (S : FuncId → List AVal → AHeap A → (AVal → AHeap A → Prop) → Prop) (G : Nat → AHeap A → List AVal → (List AVal → AHeap A → Prop) → Prop) (a0 a1 : AVal) (h : AHeap A) (K : AVal → AHeap A → Prop) : funP Try.prog S G Try.f82 (.two none .leaf (.two none .leaf (.two none (.draw none (.take 0 (.take 1 (.take 2 (.take 3 (.take 4 (.take 5 (.take 6 (.take 7 (.take 8 (.take 9 .stop))))))))))) (.two none .leaf (.two none .leaf (.two none (.two none .leaf (.one [] (.one [9, 68] .leaf))) .leaf)))))) [a0, a1] h K = p_field_num S G a0 a1 h K := by kernel_rfl
theorem c_field_num {R : Adts A} {h : AHeap A} {K : AVal → AHeap A → Prop} {a0 a1 : AVal} (hk : p_field_num (Tri Pr R) (Gives Pr R) a0 a1 h K) : Tri Pr R n_field_num [a0, a1] h K :=
  tri_of_funP (by kernel_rfl) (fun _ _ _ _ h => h) (fun _ _ _ _ h => h) Try.func82 (by rw [q_field_num]; exact hk)
/-- bastion/craft.is -/
def p_craft_is (S : FuncId → List AVal → AHeap A → (AVal → AHeap A → Prop) → Prop) (G : Nat → AHeap A → List AVal → (List AVal → AHeap A → Prop) → Prop) (a0 a1 a2 : AVal) (h : AHeap A) (K : AVal → AHeap A → Prop) : Prop :=
 S n_book_Book_Find [a0, a1] h fun v1 h =>
 extP v1 0 fun v2 =>
 extP v1 1 fun v3 =>
 condP v3 true (fun k4 =>
 binP .eql .other v2 a2 fun v5 =>
 k4 v5 h)
 (.bool false) h fun v6 h =>
 K v6 h
theorem q_craft_is (S : FuncId → List AVal → AHeap A → (AVal → AHeap A → Prop) → Prop) (G : Nat → AHeap A → List AVal → (List AVal → AHeap A → Prop) → Prop) (a0 a1 a2 : AVal) (h : AHeap A) (K : AVal → AHeap A → Prop) : funP Try.prog S G Try.f83 .leaf [a0, a1, a2] h K = p_craft_is S G a0 a1 a2 h K := by kernel_rfl
theorem c_craft_is {R : Adts A} {h : AHeap A} {K : AVal → AHeap A → Prop} {a0 a1 a2 : AVal} (hk : p_craft_is (Tri Pr R) (Gives Pr R) a0 a1 a2 h K) : Tri Pr R n_craft_is [a0, a1, a2] h K :=
  tri_of_funP (by kernel_rfl) (fun _ _ _ _ h => h) (fun _ _ _ _ h => h) Try.func83 (by rw [q_craft_is]; exact hk)
/-- (*bastion/field.Reader).Done -/
def p_field_Reader_Done (S : FuncId → List AVal → AHeap A → (AVal → AHeap A → Prop) → Prop) (G : Nat → AHeap A → List AVal → (List AVal → AHeap A → Prop) → Prop) (a0 : AVal) (h : AHeap A) (K : AVal → AHeap A → Prop) : Prop :=
 joinP G h.length (fun k1 =>
 nilP a0 fun v2 =>
 fadP 2 v2 fun v3 =>
 ldP 1 false v3 h fun v4 =>
 binP .eql .ifc v4 .nili fun v5 =>
 iteP v5
 (nilP a0 fun v6 =>
 fadP 1 v6 fun v7 =>
 nilP a0 fun v8 =>
 fadP 0 v8 fun v9 =>
 ldP 1 false v7 h fun v10 =>
 ldP 1 false v9 h fun v11 =>
 ldV 1 false v7 h = some v10 ∧
 lnsP v11 fun v12 =>
 binP .eql .other v10 v12 fun v13 =>
 k1 [v13] h)
 (k1 [.bool false] h))
 (fun v15 h =>
 (fun v14 =>
 K v14 h) (v15.getD 0 .any))
theorem q_field_Reader_Done (S : FuncId → List AVal → AHeap A → (AVal → AHeap A → Prop) → Prop) (G : Nat → AHeap A → List AVal → (List AVal → AHeap A → Prop) → Prop) (a0 : AVal) (h : AHeap A) (K : AVal → AHeap A → Prop) : funP Try.prog S G Try.f84 (.two none .leaf (.two none (.draw (some [2]) (.take 0 (.take 1 (.take 2 (.alt 3 (.take 4 (.take 5 (.split 5 (.take 6 (.take 7 (.take 8 (.take 10 (.take 11 (.take 12 (.load 9 (.alt 13 (.take 14 (.take 15 (.take 16 (.take 17 .stop)))) .stop)))))))) (.skip 6 (.skip 7 (.skip 8 (.skip 9 (.skip 10 (.skip 11 (.skip 12 (.skip 13 (.skip 14 (.skip 15 (.take 16 (.take 17 .stop))))))))))))))) .stop))))) .leaf)) [a0] h K = p_field_Reader_Done S G a0 h K := by kernel_rfl
theorem c_field_Reader_Done {R : Adts A} {h : AHeap A} {K : AVal → AHeap A → Prop} {a0 : AVal} (hk : p_field_Reader_Done (Tri Pr R) (Gives Pr R) a0 h K) : Tri Pr R n_field_Reader_Done [a0] h K :=
  tri_of_funP (by kernel_rfl) (fun _ _ _ _ h => h) (fun _ _ _ _ h => h) Try.func84 (by rw [q_field_Reader_Done]; exact hk)
/-- bastion/field.text -/
def p_field_text (S : FuncId → List AVal → AHeap A → (AVal → AHeap A → Prop) → Prop) (G : Nat → AHeap A → List AVal → (List AVal → AHeap A → Prop) → Prop) (a0 a1 : AVal) (h : AHeap A) (K : AVal → AHeap A → Prop) : Prop :=
 S n_field_num [a0, a1] h fun v1 h =>
 extP v1 0 fun v2 =>
 extP v1 1 fun v3 =>
 extP v1 2 fun v4 =>
 binP .neq .ifc v4 .nili fun v5 =>
 iteP v5
 (bldP [.int .i64 0, .nili] [(0, 1, a1), (1, 1, v4)] fun v6 =>
 boxP t_field_Fault 2 v6 h fun v7 h =>
 mkiP t_p_field_Fault v7 fun v8 =>
 K (.tup [.str [], .int .i64 0, v8]) h)
 (binP .gtr .other v2 (.int .i64 65536) fun v9 =>
 iteP v9
 (mkiP t_api_Errno (.int .i64 100) fun v10 =>
 bldP [.int .i64 0, .nili] [(0, 1, a1), (1, 1, v10)] fun v11 =>
 boxP t_field_Fault 2 v11 h fun v12 h =>
 mkiP t_p_field_Fault v12 fun v13 =>
 K (.tup [.str [], .int .i64 0, v13]) h)
 (lnsP a0 fun v14 =>
 binP .sub .other v14 v3 fun v15 =>
 binP .gtr .other v2 v15 fun v16 =>
 iteP v16
 (mkiP t_api_Errno (.int .i64 101) fun v17 =>
 bldP [.int .i64 0, .nili] [(0, 1, v3), (1, 1, v17)] fun v18 =>
 boxP t_field_Fault 2 v18 h fun v19 h =>
 mkiP t_p_field_Fault v19 fun v20 =>
 K (.tup [.str [], .int .i64 0, v20]) h)
 (binP .add .other v3 v2 fun v21 =>
 subP a0 (some v3) (some v21) fun v22 =>
 binP .add .other v3 v2 fun v23 =>
 K (.tup [v22, v23, .nili]) h)))
theorem q_field_text (S : FuncId → List AVal → AHeap A → (AVal → AHeap A → Prop) → Prop) (G : Nat → AHeap A → List AVal → (List AVal → AHeap A → Prop) → Prop) (a0 a1 : AVal) (h : AHeap A) (K : AVal → AHeap A → Prop) : funP Try.prog S G Try.f85 .leaf [a0, a1] h K = p_field_text S G a0 a1 h K := by kernel_rfl
theorem c_field_text {R : Adts A} {h : AHeap A} {K : AVal → AHeap A → Prop} {a0 a1 : AVal} (hk : p_field_text (Tri Pr R) (Gives Pr R) a0 a1 h K) : Tri Pr R n_field_text [a0, a1] h K :=
  tri_of_funP (by kernel_rfl) (fun _ _ _ _ h => h) (fun _ _ _ _ h => h) Try.func85 (by rw [q_field_text]; exact hk)
/-- (*bastion/book.Book).Find -/
def p_book_Book_Find (S : FuncId → List AVal → AHeap A → (AVal → AHeap A → Prop) → Prop) (G : Nat → AHeap A → List AVal → (List AVal → AHeap A → Prop) → Prop) (a0 a1 : AVal) (h : AHeap A) (K : AVal → AHeap A → Prop) : Prop :=
 binP .eql .ptr a0 .nilp fun v1 =>
 iteP v1
 (K (.tup [.int .i64 0, .bool false]) h)
 (nilP a0 fun v2 =>
 fadP 2 v2 fun v3 =>
 ldP 1 false v3 h fun v4 =>
 lkP true (.int .i64 0) true v4 a1 h fun v5 =>
 extP v5 0 fun v6 =>
 extP v5 1 fun v7 =>
 K (.tup [v6, v7]) h)
theorem q_book_Book_Find (S : FuncId → List AVal → AHeap A → (AVal → AHeap A → Prop) → Prop) (G : Nat → AHeap A → List AVal → (List AVal → AHeap A → Prop) → Prop) (a0 a1 : AVal) (h : AHeap A) (K : AVal → AHeap A → Prop) : funP Try.prog S G Try.f86 .leaf [a0, a1] h K = p_book_Book_Find S G a0 a1 h K := by kernel_rfl
theorem c_book_Book_Find {R : Adts A} {h : AHeap A} {K : AVal → AHeap A → Prop} {a0 a1 : AVal} (hk : p_book_Book_Find (Tri Pr R) (Gives Pr R) a0 a1 h K) : Tri Pr R n_book_Book_Find [a0, a1] h K :=
  tri_of_funP (by kernel_rfl) (fun _ _ _ _ h => h) (fun _ _ _ _ h => h) Try.func86 (by rw [q_book_Book_Find]; exact hk)
/-- (*bastion/journal.place).Unwrap -/
def p_journal_place_Unwrap (S : FuncId → List AVal → AHeap A → (AVal → AHeap A → Prop) → Prop) (G : Nat → AHeap A → List AVal → (List AVal → AHeap A → Prop) → Prop) (a0 : AVal) (h : AHeap A) (K : AVal → AHeap A → Prop) : Prop :=
 nilP a0 fun v1 =>
 fadP 1 v1 fun v2 =>
 ldP 1 false v2 h fun v3 =>
 K v3 h
theorem q_journal_place_Unwrap (S : FuncId → List AVal → AHeap A → (AVal → AHeap A → Prop) → Prop) (G : Nat → AHeap A → List AVal → (List AVal → AHeap A → Prop) → Prop) (a0 : AVal) (h : AHeap A) (K : AVal → AHeap A → Prop) : funP Try.prog S G Try.f105 .leaf [a0] h K = p_journal_place_Unwrap S G a0 h K := by kernel_rfl
theorem c_journal_place_Unwrap {R : Adts A} {h : AHeap A} {K : AVal → AHeap A → Prop} {a0 : AVal} (hk : p_journal_place_Unwrap (Tri Pr R) (Gives Pr R) a0 h K) : Tri Pr R n_journal_place_Unwrap [a0] h K :=
  tri_of_funP (by kernel_rfl) (fun _ _ _ _ h => h) (fun _ _ _ _ h => h) Try.func105 (by rw [q_journal_place_Unwrap]; exact hk)
/-- (*bastion/field.Fault).Unwrap -/
def p_field_Fault_Unwrap (S : FuncId → List AVal → AHeap A → (AVal → AHeap A → Prop) → Prop) (G : Nat → AHeap A → List AVal → (List AVal → AHeap A → Prop) → Prop) (a0 : AVal) (h : AHeap A) (K : AVal → AHeap A → Prop) : Prop :=
 nilP a0 fun v1 =>
 fadP 1 v1 fun v2 =>
 ldP 1 false v2 h fun v3 =>
 K v3 h
theorem q_field_Fault_Unwrap (S : FuncId → List AVal → AHeap A → (AVal → AHeap A → Prop) → Prop) (G : Nat → AHeap A → List AVal → (List AVal → AHeap A → Prop) → Prop) (a0 : AVal) (h : AHeap A) (K : AVal → AHeap A → Prop) : funP Try.prog S G Try.f119 .leaf [a0] h K = p_field_Fault_Unwrap S G a0 h K := by kernel_rfl
theorem c_field_Fault_Unwrap {R : Adts A} {h : AHeap A} {K : AVal → AHeap A → Prop} {a0 : AVal} (hk : p_field_Fault_Unwrap (Tri Pr R) (Gives Pr R) a0 h K) : Tri Pr R n_field_Fault_Unwrap [a0] h K :=
  tri_of_funP (by kernel_rfl) (fun _ _ _ _ h => h) (fun _ _ _ _ h => h) Try.func119 (by rw [q_field_Fault_Unwrap]; exact hk)
end Go.AI
