/- The functions as texts over the abstract heap. -/
import Derived.Test.YtmdlhohhimdkaaaNm
import Derived.KernelRfl
set_option linter.all false
namespace Go.AI
open Go.Proofs
set_option maxRecDepth 1000000
variable {A : Type}
/-- (*bastion/state.turn).does -/
def p_state_turn_does (S : FuncId → List AVal → AHeap A → (AVal → AHeap A → Prop) → Prop) (G : Nat → AHeap A → List AVal → (List AVal → AHeap A → Prop) → Prop) (a0 : AVal) (h : AHeap A) (K : AVal → AHeap A → Prop) : Prop :=
 nilP a0 fun v1 =>
 fadP 8 v1 fun v2 =>
 ldP 1 false v2 h fun v3 =>
 nilP v3 fun v4 =>
 fadP 0 v4 fun v5 =>
 ldP 1 false v5 h fun v6 =>
 binP .eql .other v6 (.int .i64 0) fun v7 =>
 iteP v7
 (S n_state_turn_boot [a0] h fun v8 h =>
 K v8 h)
 (binP .eql .other v6 (.int .i64 1) fun v9 =>
 iteP v9
 (S n_state_turn_user [a0] h fun v10 h =>
 K v10 h)
 (binP .eql .other v6 (.int .i64 5) fun v11 =>
 iteP v11
 (S n_state_turn_lease [a0] h fun v12 h =>
 K v12 h)
 (binP .eql .other v6 (.int .i64 6) fun v13 =>
 iteP v13
 (S n_state_turn_closes [a0] h fun v14 h =>
 K v14 h)
 (binP .eql .other v6 (.int .i64 8) fun v15 =>
 iteP v15
 (nilP a0 fun v16 =>
 fadP 1 v16 fun v17 =>
 fadP 1 v17 fun v18 =>
 ldP 1 false v18 h fun v19 =>
 binP .lss .other v19 (.int .i64 1073741823) fun v20 =>
 condP v20 true (fun k21 =>
 nilP a0 fun v22 =>
 fadP 1 v22 fun v23 =>
 S n_state_rotate [v23] h fun v24 h =>
 k21 v24 h)
 (.bool false) h fun v25 h =>
 K v25 h)
 (binP .eql .other v6 (.int .i64 9) fun v26 =>
 iteP v26
 (S n_state_turn_spend [a0] h fun v27 h =>
 K v27 h)
 (nilP a0 fun v28 =>
 fadP 1 v28 fun v29 =>
 nilP a0 fun v30 =>
 fadP 8 v30 fun v31 =>
 ldP 1 false v31 h fun v32 =>
 nilP v32 fun v33 =>
 fadP 1 v33 fun v34 =>
 ldP 1 false v34 h fun v35 =>
 S n_state_User [v29, v35] h fun v36 h =>
 S n_state_turn_of [a0, v36] h fun v37 h =>
 K v37 h))))))
theorem q_state_turn_does (S : FuncId → List AVal → AHeap A → (AVal → AHeap A → Prop) → Prop) (G : Nat → AHeap A → List AVal → (List AVal → AHeap A → Prop) → Prop) (a0 : AVal) (h : AHeap A) (K : AVal → AHeap A → Prop) : funP Try.prog S G Try.f34 (.two none .leaf (.two none .leaf (.two none (.draw none (.take 0 (.take 1 (.take 2 (.take 3 (.take 4 (.take 5 (.take 6 (.alt 7 (.take 8 (.take 9 (.alt 10 (.alt 11 (.alt 12 (.take 13 .stop) .stop) .stop) .stop))) .stop))))))))) .leaf))) [a0] h K = p_state_turn_does S G a0 h K := by kernel_rfl
theorem c_state_turn_does {R : Adts A} {h : AHeap A} {K : AVal → AHeap A → Prop} {a0 : AVal} (hk : p_state_turn_does (Tri Pr R) (Gives Pr R) a0 h K) : Tri Pr R n_state_turn_does [a0] h K :=
  tri_of_funP (by kernel_rfl) (fun _ _ _ _ h => h) (fun _ _ _ _ h => h) Try.func34 (by rw [q_state_turn_does]; exact hk)
/-- slices.IndexFunc[[]bastion/api.Session,bastion/api.Session] -/
def p_slices_IndexFunc_api_Session (S : FuncId → List AVal → AHeap A → (AVal → AHeap A → Prop) → Prop) (G : Nat → AHeap A → List AVal → (List AVal → AHeap A → Prop) → Prop) (a0 a1 : AVal) (h : AHeap A) (K : AVal → AHeap A → Prop) : Prop :=
 lenP a0 fun v1 =>
 loopP G (fun v9 h k3 =>
 (fun v2 =>
 binP .lss .other v2 v1 fun v4 =>
 iteP v4
 (idxP 4 a0 v2 fun v5 =>
 ldP 4 true v5 h fun v6 =>
 dynP Pr S a1 [v6] h fun v7 h =>
 iteP v7
 (K v2 h)
 (binP .add .other v2 (.int .i64 1) fun v8 =>
 k3 [v8] h))
 (K (.int .i64 (-1)) h)) (v9.getD 0 .any)) [.int .i64 0] h
theorem q_slices_IndexFunc_api_Session (S : FuncId → List AVal → AHeap A → (AVal → AHeap A → Prop) → Prop) (G : Nat → AHeap A → List AVal → (List AVal → AHeap A → Prop) → Prop) (a0 a1 : AVal) (h : AHeap A) (K : AVal → AHeap A → Prop) : funP Try.prog S G Try.f37 (.two none .leaf (.two none (.two none .leaf (.one [] (.one [8] .leaf))) .leaf)) [a0, a1] h K = p_slices_IndexFunc_api_Session S G a0 a1 h K := by kernel_rfl
theorem c_slices_IndexFunc_api_Session {R : Adts A} {h : AHeap A} {K : AVal → AHeap A → Prop} {a0 a1 : AVal} (hk : p_slices_IndexFunc_api_Session (Tri Pr R) (Gives Pr R) a0 a1 h K) : Tri Pr R n_slices_IndexFunc_api_Session [a0, a1] h K :=
  tri_of_funP (by kernel_rfl) (fun _ _ _ _ h => h) (fun _ _ _ _ h => h) Try.func37 (by rw [q_slices_IndexFunc_api_Session]; exact hk)
/-- bastion/state.Session$1 -/
def p_state_Session_c1 (S : FuncId → List AVal → AHeap A → (AVal → AHeap A → Prop) → Prop) (G : Nat → AHeap A → List AVal → (List AVal → AHeap A → Prop) → Prop) (a0 a1 : AVal) (h : AHeap A) (K : AVal → AHeap A → Prop) : Prop :=
 boxP t_api_Session 4 a0 h fun v1 h =>
 fadP 0 v1 fun v2 =>
 ldP 1 false v2 h fun v3 =>
 ldP 1 false a1 h fun v4 =>
 binP .eql .other v3 v4 fun v5 =>
 K v5 h
theorem q_state_Session_c1 (S : FuncId → List AVal → AHeap A → (AVal → AHeap A → Prop) → Prop) (G : Nat → AHeap A → List AVal → (List AVal → AHeap A → Prop) → Prop) (a0 a1 : AVal) (h : AHeap A) (K : AVal → AHeap A → Prop) : funP Try.prog S G Try.f38 .leaf [a0, a1] h K = p_state_Session_c1 S G a0 a1 h K := by kernel_rfl
theorem c_state_Session_c1 {R : Adts A} {h : AHeap A} {K : AVal → AHeap A → Prop} {a0 a1 : AVal} (hk : p_state_Session_c1 (Tri Pr R) (Gives Pr R) a0 a1 h K) : Tri Pr R n_state_Session_c1 [a0, a1] h K :=
  tri_of_funP (by kernel_rfl) (fun _ _ _ _ h => h) (fun _ _ _ _ h => h) Try.func38 (by rw [q_state_Session_c1]; exact hk)
/-- slices.Repeat[[]bastion/api.Address,bastion/api.Address] -/
def p_slices_Repeat_api_Address (S : FuncId → List AVal → AHeap A → (AVal → AHeap A → Prop) → Prop) (G : Nat → AHeap A → List AVal → (List AVal → AHeap A → Prop) → Prop) (a0 a1 : AVal) (h : AHeap A) (K : AVal → AHeap A → Prop) : Prop :=
 joinP G h.length (fun k1 =>
 binP .lss .other a1 (.int .i64 0) fun v2 =>
 iteP v2
 (mkiP t_string (.str [99, 97, 110, 110, 111, 116, 32, 98, 101, 32, 110, 101, 103, 97, 116, 105, 118, 101]) fun v3 =>
 False)
 (k1 [] h))
 (fun _ h =>
 lenP a0 fun v4 =>
 cviP .u64 v4 fun v5 =>
 cviP .u64 a1 fun v6 =>
 S n_math_bits_Mul [v5, v6] h fun v7 h =>
 extP v7 0 fun v8 =>
 extP v7 1 fun v9 =>
 joinP G h.length (fun k10 =>
 binP .gtr .other v8 (.int .u64 0) fun v11 =>
 condP v11 false (fun k12 =>
 binP .gtr .other v9 (.int .u64 9223372036854775807) fun v13 =>
 k12 v13 h)
 (.bool true) h fun v14 h =>
 iteP v14
 (mkiP t_string (.str [116, 104, 101, 32, 114, 101, 115, 117, 108, 116, 32, 111, 102, 32, 40, 108, 101, 110, 40, 120, 41, 32, 42, 32, 99, 111, 117, 110, 116, 41, 32, 111, 118, 101, 114, 102, 108, 111, 119, 115]) fun v15 =>
 False)
 (k10 [] h))
 (fun _ h =>
 cviP .i64 v9 fun v16 =>
 mkslP t_api_Address 3 24 [.bool false, .int .i64 0, .int .i64 0] v16 v16 h fun v17 h =>
 cpyP 3 v17 a0 h fun v18 h =>
 loopP G (fun v27 h k20 =>
 (fun v19 =>
 lenP v17 fun v21 =>
 binP .lss .other v19 v21 fun v22 =>
 iteP v22
 (rslP 3 v17 (some v19) none none fun v23 =>
 rslP 3 v17 none (some v19) none fun v24 =>
 cpyP 3 v23 v24 h fun v25 h =>
 binP .add .other v19 v25 fun v26 =>
 k20 [v26] h)
 (K v17 h)) (v27.getD 0 .any)) [v18] h))
theorem q_slices_Repeat_api_Address (S : FuncId → List AVal → AHeap A → (AVal → AHeap A → Prop) → Prop) (G : Nat → AHeap A → List AVal → (List AVal → AHeap A → Prop) → Prop) (a0 a1 : AVal) (h : AHeap A) (K : AVal → AHeap A → Prop) : funP Try.prog S G Try.f39 (.two none .leaf (.two (some []) .leaf (.two none .leaf (.two (some []) .leaf (.two none .leaf (.two none .leaf (.two none (.one [] (.one [8] (.two none .leaf (.one [] (.draw none (.take 0 (.take 1 (.take 2 (.take 3 (.take 4 (.take 5 (.take 6 (.alt 7 (.take 8 (.take 9 .stop)) .stop))))))))))))) .leaf))))))) [a0, a1] h K = p_slices_Repeat_api_Address S G a0 a1 h K := by kernel_rfl
theorem c_slices_Repeat_api_Address {R : Adts A} {h : AHeap A} {K : AVal → AHeap A → Prop} {a0 a1 : AVal} (hk : p_slices_Repeat_api_Address (Tri Pr R) (Gives Pr R) a0 a1 h K) : Tri Pr R n_slices_Repeat_api_Address [a0, a1] h K :=
  tri_of_funP (by kernel_rfl) (fun _ _ _ _ h => h) (fun _ _ _ _ h => h) Try.func39 (by rw [q_slices_Repeat_api_Address]; exact hk)
/-- bastion/state.between -/
def p_state_between (S : FuncId → List AVal → AHeap A → (AVal → AHeap A → Prop) → Prop) (G : Nat → AHeap A → List AVal → (List AVal → AHeap A → Prop) → Prop) (a0 a1 a2 : AVal) (h : AHeap A) (K : AVal → AHeap A → Prop) : Prop :=
 binP .geq .other a0 a1 fun v1 =>
 condP v1 true (fun k2 =>
 binP .leq .other a0 a2 fun v3 =>
 k2 v3 h)
 (.bool false) h fun v4 h =>
 K v4 h
theorem q_state_between (S : FuncId → List AVal → AHeap A → (AVal → AHeap A → Prop) → Prop) (G : Nat → AHeap A → List AVal → (List AVal → AHeap A → Prop) → Prop) (a0 a1 a2 : AVal) (h : AHeap A) (K : AVal → AHeap A → Prop) : funP Try.prog S G Try.f40 .leaf [a0, a1, a2] h K = p_state_between S G a0 a1 a2 h K := by kernel_rfl
theorem c_state_between {R : Adts A} {h : AHeap A} {K : AVal → AHeap A → Prop} {a0 a1 a2 : AVal} (hk : p_state_between (Tri Pr R) (Gives Pr R) a0 a1 a2 h K) : Tri Pr R n_state_between [a0, a1, a2] h K :=
  tri_of_funP (by kernel_rfl) (fun _ _ _ _ h => h) (fun _ _ _ _ h => h) Try.func40 (by rw [q_state_between]; exact hk)
/-- bastion/state.life -/
def p_state_life (S : FuncId → List AVal → AHeap A → (AVal → AHeap A → Prop) → Prop) (G : Nat → AHeap A → List AVal → (List AVal → AHeap A → Prop) → Prop) (a0 : AVal) (h : AHeap A) (K : AVal → AHeap A → Prop) : Prop :=
 lenP a0 fun v1 =>
 loopP G (fun v12 h k3 =>
 (fun v2 =>
 binP .lss .other v2 v1 fun v4 =>
 iteP v4
 (idxP 1 a0 v2 fun v5 =>
 ldP 1 false v5 h fun v6 =>
 binP .lss .other v6 (.int .i64 1) fun v7 =>
 condP v7 false (fun k8 =>
 binP .gtr .other v6 (.int .i64 65536) fun v9 =>
 k8 v9 h)
 (.bool true) h fun v10 h =>
 iteP v10
 (K (.bool false) h)
 (binP .add .other v2 (.int .i64 1) fun v11 =>
 k3 [v11] h))
 (K (.bool true) h)) (v12.getD 0 .any)) [.int .i64 0] h
theorem q_state_life (S : FuncId → List AVal → AHeap A → (AVal → AHeap A → Prop) → Prop) (G : Nat → AHeap A → List AVal → (List AVal → AHeap A → Prop) → Prop) (a0 : AVal) (h : AHeap A) (K : AVal → AHeap A → Prop) : funP Try.prog S G Try.f41 (.two none .leaf (.two none (.two none .leaf (.one [] (.one [7] .leaf))) .leaf)) [a0] h K = p_state_life S G a0 h K := by kernel_rfl
theorem c_state_life {R : Adts A} {h : AHeap A} {K : AVal → AHeap A → Prop} {a0 : AVal} (hk : p_state_life (Tri Pr R) (Gives Pr R) a0 h K) : Tri Pr R n_state_life [a0] h K :=
  tri_of_funP (by kernel_rfl) (fun _ _ _ _ h => h) (fun _ _ _ _ h => h) Try.func41 (by rw [q_state_life]; exact hk)
/-- bastion/event.parts -/
def p_event_parts (S : FuncId → List AVal → AHeap A → (AVal → AHeap A → Prop) → Prop) (G : Nat → AHeap A → List AVal → (List AVal → AHeap A → Prop) → Prop) (a0 : AVal) (h : AHeap A) (K : AVal → AHeap A → Prop) : Prop :=
 nilP a0 fun v1 =>
 fadP 0 v1 fun v2 =>
 ldP 1 false v2 h fun v3 =>
 joinP G h.length (fun k4 =>
 joinP G h.length (fun k5 =>
 binP .eql .other v3 (.int .i64 1) fun v6 =>
 iteP v6
 (nilP a0 fun v7 =>
 fadP 1 v7 fun v8 =>
 nilP a0 fun v9 =>
 fadP 4 v9 fun v10 =>
 nilP a0 fun v11 =>
 fadP 5 v11 fun v12 =>
 nilP a0 fun v13 =>
 fadP 6 v13 fun v14 =>
 bslP t_p_int 4 [.nilp, .nilp, .nilp, .nilp] [(0, 1, v8), (1, 1, v10), (2, 1, v12), (3, 1, v14)] h fun v15 h =>
 K v15 h)
 (binP .eql .other v3 (.int .i64 3) fun v16 =>
 iteP v16
 (nilP a0 fun v17 =>
 fadP 4 v17 fun v18 =>
 bslP t_p_int 1 [.nilp] [(0, 1, v18)] h fun v19 h =>
 k5 [v19] h)
 (joinP G h.length (fun k20 =>
 binP .eql .other v3 (.int .i64 4) fun v21 =>
 iteP v21
 (k20 [v21] h)
 (binP .eql .other v3 (.int .i64 7) fun v22 =>
 k20 [v22] h))
 (fun v53 h =>
 (fun v23 =>
 iteP v23
 (k5 [.nils] h)
 (binP .eql .other v3 (.int .i64 2) fun v24 =>
 iteP v24
 (nilP a0 fun v25 =>
 fadP 1 v25 fun v26 =>
 nilP a0 fun v27 =>
 fadP 7 v27 fun v28 =>
 bslP t_p_int 2 [.nilp, .nilp] [(0, 1, v26), (1, 1, v28)] h fun v29 h =>
 K v29 h)
 (binP .eql .other v3 (.int .i64 5) fun v30 =>
 iteP v30
 (nilP a0 fun v31 =>
 fadP 2 v31 fun v32 =>
 nilP a0 fun v33 =>
 fadP 1 v33 fun v34 =>
 nilP a0 fun v35 =>
 fadP 3 v35 fun v36 =>
 nilP a0 fun v37 =>
 fadP 7 v37 fun v38 =>
 bslP t_p_int 4 [.nilp, .nilp, .nilp, .nilp] [(0, 1, v32), (1, 1, v34), (2, 1, v36), (3, 1, v38)] h fun v39 h =>
 K v39 h)
 (binP .eql .other v3 (.int .i64 6) fun v40 =>
 iteP v40
 (nilP a0 fun v41 =>
 fadP 4 v41 fun v42 =>
 nilP a0 fun v43 =>
 fadP 5 v43 fun v44 =>
 nilP a0 fun v45 =>
 fadP 7 v45 fun v46 =>
 bslP t_p_int 3 [.nilp, .nilp, .nilp] [(0, 1, v42), (1, 1, v44), (2, 1, v46)] h fun v47 h =>
 k4 [v47] h)
 (binP .eql .other v3 (.int .i64 9) fun v48 =>
 iteP v48
 (k4 [.nils] h)
 (binP .eql .other v3 (.int .i64 0) fun v49 =>
 iteP v49
 (nilP a0 fun v50 =>
 fadP 7 v50 fun v51 =>
 bslP t_p_int 1 [.nilp] [(0, 1, v51)] h fun v52 h =>
 K v52 h)
 (K .nils h))))))) (v53.getD 0 .any)))))
 (fun v59 h =>
 (fun v54 =>
 nilP a0 fun v55 =>
 fadP 1 v55 fun v56 =>
 bslP t_p_int 1 [.nilp] [(0, 1, v56)] h fun v57 h =>
 appP t_p_int 1 8 v57 v54 h fun v58 h =>
 K v58 h) (v59.getD 0 .any)))
 (fun v65 h =>
 (fun v60 =>
 nilP a0 fun v61 =>
 fadP 2 v61 fun v62 =>
 bslP t_p_int 1 [.nilp] [(0, 1, v62)] h fun v63 h =>
 appP t_p_int 1 8 v63 v60 h fun v64 h =>
 K v64 h) (v65.getD 0 .any))
theorem q_event_parts (S : FuncId → List AVal → AHeap A → (AVal → AHeap A → Prop) → Prop) (G : Nat → AHeap A → List AVal → (List AVal → AHeap A → Prop) → Prop) (a0 : AVal) (h : AHeap A) (K : AVal → AHeap A → Prop) : funP Try.prog S G Try.f42 (.two none .leaf (.two none .leaf (.two none (.two none .leaf (.one [] (.two none (.one [] (.two (some [3]) (.one [] (.two none (.one [] (.two none (.one [] (.two none (.one [] (.two (some [3]) (.one [] (.two none (.one [] (.two none (.one [] (.two none (.two none .leaf (.two none .leaf (.two none (.two (some [12]) .leaf .leaf) .leaf))) .leaf)) (.two none (.two none (.draw none (.take 0 (.take 1 (.take 2 (.take 3 (.take 4 (.take 5 (.take 6 (.take 7 (.take 8 (.take 9 (.take 10 (.take 11 (.alt 12 (.take 13 .stop) .stop)))))))))))))) .leaf) .leaf))) .leaf)) .leaf)) (.two none (.two none (.draw none (.take 0 (.take 1 (.take 2 (.take 3 (.take 4 (.take 5 (.alt 6 (.take 7 .stop) .stop)))))))) .leaf) .leaf))) (.two none (.two none (.draw none (.take 0 (.take 1 (.take 2 (.take 3 (.take 4 (.take 5 (.take 6 (.take 7 (.take 8 (.take 9 (.take 10 (.take 11 (.alt 12 (.take 13 .stop) .stop)))))))))))))) .leaf) .leaf))) (.draw none (.take 0 (.take 1 (.take 2 (.take 3 (.take 4 (.take 5 (.take 6 (.take 7 (.take 8 (.alt 9 (.take 10 .stop) .stop))))))))))))) .leaf)) .leaf))) .leaf))) [a0] h K = p_event_parts S G a0 h K := by kernel_rfl
theorem c_event_parts {R : Adts A} {h : AHeap A} {K : AVal → AHeap A → Prop} {a0 : AVal} (hk : p_event_parts (Tri Pr R) (Gives Pr R) a0 h K) : Tri Pr R n_event_parts [a0] h K :=
  tri_of_funP (by kernel_rfl) (fun _ _ _ _ h => h) (fun _ _ _ _ h => h) Try.func42 (by rw [q_event_parts]; exact hk)
/-- bastion/field.NumMay -/
def p_field_NumMay (S : FuncId → List AVal → AHeap A → (AVal → AHeap A → Prop) → Prop) (G : Nat → AHeap A → List AVal → (List AVal → AHeap A → Prop) → Prop) (a0 : AVal) (h : AHeap A) (K : AVal → AHeap A → Prop) : Prop :=
 binP .geq .other a0 (.int .i64 0) fun v1 =>
 condP v1 true (fun k2 =>
 binP .leq .other a0 (.int .i64 1073741823) fun v3 =>
 k2 v3 h)
 (.bool false) h fun v4 h =>
 K v4 h
theorem q_field_NumMay (S : FuncId → List AVal → AHeap A → (AVal → AHeap A → Prop) → Prop) (G : Nat → AHeap A → List AVal → (List AVal → AHeap A → Prop) → Prop) (a0 : AVal) (h : AHeap A) (K : AVal → AHeap A → Prop) : funP Try.prog S G Try.f43 .leaf [a0] h K = p_field_NumMay S G a0 h K := by kernel_rfl
theorem c_field_NumMay {R : Adts A} {h : AHeap A} {K : AVal → AHeap A → Prop} {a0 : AVal} (hk : p_field_NumMay (Tri Pr R) (Gives Pr R) a0 h K) : Tri Pr R n_field_NumMay [a0] h K :=
  tri_of_funP (by kernel_rfl) (fun _ _ _ _ h => h) (fun _ _ _ _ h => h) Try.func43 (by rw [q_field_NumMay]; exact hk)
/-- bastion/event.plain -/
def p_event_plain (S : FuncId → List AVal → AHeap A → (AVal → AHeap A → Prop) → Prop) (G : Nat → AHeap A → List AVal → (List AVal → AHeap A → Prop) → Prop) (a0 : AVal) (h : AHeap A) (K : AVal → AHeap A → Prop) : Prop :=
 newP t_api_Event [.int .i64 0, .int .i64 0, .int .i64 0, .int .i64 0, .int .i64 0, .int .i64 0, .int .i64 0, .int .i64 0] h fun v1 h =>
 nilP a0 fun v2 =>
 fadP 0 v2 fun v3 =>
 ldP 1 false v3 h fun v4 =>
 bldP [.int .i64 0, .int .i64 0, .int .i64 0, .int .i64 0, .int .i64 0, .int .i64 0, .int .i64 0, .int .i64 0] [(0, 1, v4)] fun v5 =>
 newP t_api_Event [.int .i64 0, .int .i64 0, .int .i64 0, .int .i64 0, .int .i64 0, .int .i64 0, .int .i64 0, .int .i64 0] h fun v6 h =>
 stP 8 v6 v5 h fun h =>
 S n_event_parts [v6] h fun v7 h =>
 S n_event_parts [a0] h fun v8 h =>
 lenP v8 fun v9 =>
 loopP G (fun v23 h k11 =>
 (fun v10 =>
 binP .lss .other v10 v9 fun v12 =>
 iteP v12
 (idxP 1 v8 v10 fun v13 =>
 ldP 1 false v13 h fun v14 =>
 idxP 1 v7 v10 fun v15 =>
 nilP v14 fun v16 =>
 ldP 1 false v15 h fun v17 =>
 ldP 1 false v16 h fun v18 =>
 ldV 1 false v15 h = some v17 ∧
 nilP v17 fun v19 =>
 stP 1 v19 v18 h fun h =>
 binP .add .other v10 (.int .i64 1) fun v20 =>
 k11 [v20] h)
 (ldP 8 true v6 h fun v21 =>
 stP 8 v1 v21 h fun h =>
 ldP 8 true v1 h fun v22 =>
 K v22 h)) (v23.getD 0 .any)) [.int .i64 0] h
theorem q_event_plain (S : FuncId → List AVal → AHeap A → (AVal → AHeap A → Prop) → Prop) (G : Nat → AHeap A → List AVal → (List AVal → AHeap A → Prop) → Prop) (a0 : AVal) (h : AHeap A) (K : AVal → AHeap A → Prop) : funP Try.prog S G Try.f44 (.two none .leaf (.two none .leaf (.two none .leaf (.two none (.two none .leaf (.one [] (.one [16] (.two none .leaf (.two none .leaf (.two none (.one [] (.two none .leaf (.draw none (.take 0 (.take 1 (.take 2 (.take 4 (.take 5 (.load 3 (.alt 6 (.take 7 (.alt 8 .stop .stop)) .stop)))))))))) .leaf)))))) .leaf)))) [a0] h K = p_event_plain S G a0 h K := by kernel_rfl
theorem c_event_plain {R : Adts A} {h : AHeap A} {K : AVal → AHeap A → Prop} {a0 : AVal} (hk : p_event_plain (Tri Pr R) (Gives Pr R) a0 h K) : Tri Pr R n_event_plain [a0] h K :=
  tri_of_funP (by kernel_rfl) (fun _ _ _ _ h => h) (fun _ _ _ _ h => h) Try.func44 (by rw [q_event_plain]; exact hk)
/-- slices.Clone[[]bastion/api.User,bastion/api.User] -/
def p_slices_Clone_api_User (S : FuncId → List AVal → AHeap A → (AVal → AHeap A → Prop) → Prop) (G : Nat → AHeap A → List AVal → (List AVal → AHeap A → Prop) → Prop) (a0 : AVal) (h : AHeap A) (K : AVal → AHeap A → Prop) : Prop :=
 binP .eql .sl a0 .nils fun v1 =>
 iteP v1
 (K .nils h)
 (bslP t_api_User 0 [] [] h fun v2 h =>
 appP t_api_User 9 72 v2 a0 h fun v3 h =>
 K v3 h)
theorem q_slices_Clone_api_User (S : FuncId → List AVal → AHeap A → (AVal → AHeap A → Prop) → Prop) (G : Nat → AHeap A → List AVal → (List AVal → AHeap A → Prop) → Prop) (a0 : AVal) (h : AHeap A) (K : AVal → AHeap A → Prop) : funP Try.prog S G Try.f45 .leaf [a0] h K = p_slices_Clone_api_User S G a0 h K := by kernel_rfl
theorem c_slices_Clone_api_User {R : Adts A} {h : AHeap A} {K : AVal → AHeap A → Prop} {a0 : AVal} (hk : p_slices_Clone_api_User (Tri Pr R) (Gives Pr R) a0 h K) : Tri Pr R n_slices_Clone_api_User [a0] h K :=
  tri_of_funP (by kernel_rfl) (fun _ _ _ _ h => h) (fun _ _ _ _ h => h) Try.func45 (by rw [q_slices_Clone_api_User]; exact hk)
/-- slices.Clone[[]bastion/api.Session,bastion/api.Session] -/
def p_slices_Clone_api_Session (S : FuncId → List AVal → AHeap A → (AVal → AHeap A → Prop) → Prop) (G : Nat → AHeap A → List AVal → (List AVal → AHeap A → Prop) → Prop) (a0 : AVal) (h : AHeap A) (K : AVal → AHeap A → Prop) : Prop :=
 binP .eql .sl a0 .nils fun v1 =>
 iteP v1
 (K .nils h)
 (bslP t_api_Session 0 [] [] h fun v2 h =>
 appP t_api_Session 4 32 v2 a0 h fun v3 h =>
 K v3 h)
theorem q_slices_Clone_api_Session (S : FuncId → List AVal → AHeap A → (AVal → AHeap A → Prop) → Prop) (G : Nat → AHeap A → List AVal → (List AVal → AHeap A → Prop) → Prop) (a0 : AVal) (h : AHeap A) (K : AVal → AHeap A → Prop) : funP Try.prog S G Try.f46 .leaf [a0] h K = p_slices_Clone_api_Session S G a0 h K := by kernel_rfl
theorem c_slices_Clone_api_Session {R : Adts A} {h : AHeap A} {K : AVal → AHeap A → Prop} {a0 : AVal} (hk : p_slices_Clone_api_Session (Tri Pr R) (Gives Pr R) a0 h K) : Tri Pr R n_slices_Clone_api_Session [a0] h K :=
  tri_of_funP (by kernel_rfl) (fun _ _ _ _ h => h) (fun _ _ _ _ h => h) Try.func46 (by rw [q_slices_Clone_api_Session]; exact hk)
/-- slices.Clone[[]bastion/api.Address,bastion/api.Address] -/
def p_slices_Clone_api_Address (S : FuncId → List AVal → AHeap A → (AVal → AHeap A → Prop) → Prop) (G : Nat → AHeap A → List AVal → (List AVal → AHeap A → Prop) → Prop) (a0 : AVal) (h : AHeap A) (K : AVal → AHeap A → Prop) : Prop :=
 binP .eql .sl a0 .nils fun v1 =>
 iteP v1
 (K .nils h)
 (bslP t_api_Address 0 [] [] h fun v2 h =>
 appP t_api_Address 3 24 v2 a0 h fun v3 h =>
 K v3 h)
theorem q_slices_Clone_api_Address (S : FuncId → List AVal → AHeap A → (AVal → AHeap A → Prop) → Prop) (G : Nat → AHeap A → List AVal → (List AVal → AHeap A → Prop) → Prop) (a0 : AVal) (h : AHeap A) (K : AVal → AHeap A → Prop) : funP Try.prog S G Try.f47 .leaf [a0] h K = p_slices_Clone_api_Address S G a0 h K := by kernel_rfl
theorem c_slices_Clone_api_Address {R : Adts A} {h : AHeap A} {K : AVal → AHeap A → Prop} {a0 : AVal} (hk : p_slices_Clone_api_Address (Tri Pr R) (Gives Pr R) a0 h K) : Tri Pr R n_slices_Clone_api_Address [a0] h K :=
  tri_of_funP (by kernel_rfl) (fun _ _ _ _ h => h) (fun _ _ _ _ h => h) Try.func47 (by rw [q_slices_Clone_api_Address]; exact hk)
/-- slices.Clone[[]int,int] -/
def p_slices_Clone_int (S : FuncId → List AVal → AHeap A → (AVal → AHeap A → Prop) → Prop) (G : Nat → AHeap A → List AVal → (List AVal → AHeap A → Prop) → Prop) (a0 : AVal) (h : AHeap A) (K : AVal → AHeap A → Prop) : Prop :=
 binP .eql .sl a0 .nils fun v1 =>
 iteP v1
 (K .nils h)
 (bslP t_int 0 [] [] h fun v2 h =>
 appP t_int 1 8 v2 a0 h fun v3 h =>
 K v3 h)
theorem q_slices_Clone_int (S : FuncId → List AVal → AHeap A → (AVal → AHeap A → Prop) → Prop) (G : Nat → AHeap A → List AVal → (List AVal → AHeap A → Prop) → Prop) (a0 : AVal) (h : AHeap A) (K : AVal → AHeap A → Prop) : funP Try.prog S G Try.f48 .leaf [a0] h K = p_slices_Clone_int S G a0 h K := by kernel_rfl
theorem c_slices_Clone_int {R : Adts A} {h : AHeap A} {K : AVal → AHeap A → Prop} {a0 : AVal} (hk : p_slices_Clone_int (Tri Pr R) (Gives Pr R) a0 h K) : Tri Pr R n_slices_Clone_int [a0] h K :=
  tri_of_funP (by kernel_rfl) (fun _ _ _ _ h => h) (fun _ _ _ _ h => h) Try.func48 (by rw [q_slices_Clone_int]; exact hk)
/-- (*bastion/state.turn).boot -/
def p_state_turn_boot (S : FuncId → List AVal → AHeap A → (AVal → AHeap A → Prop) → Prop) (G : Nat → AHeap A → List AVal → (List AVal → AHeap A → Prop) → Prop) (a0 : AVal) (h : AHeap A) (K : AVal → AHeap A → Prop) : Prop :=
 nilP a0 fun v1 =>
 fadP 1 v1 fun v2 =>
 fadP 4 v2 fun v3 =>
 ldP 1 false v3 h fun v4 =>
 lenP v4 fun v5 =>
 loopP G (fun v37 h k7 =>
 (fun v6 =>
 binP .lss .other v6 v5 fun v8 =>
 iteP v8
 (idxP 4 v4 v6 fun v9 =>
 ldP 4 true v9 h fun v10 =>
 newP t_api_Session [.int .i64 0, .int .i64 0, .int .i64 0, .int .i64 0] h fun v11 h =>
 stP 4 v11 v10 h fun h =>
 fadP 2 v11 fun v12 =>
 nilP a0 fun v13 =>
 fadP 8 v13 fun v14 =>
 nilP a0 fun v15 =>
 fadP 0 v15 fun v16 =>
 ldP 1 false v12 h fun v17 =>
 ldP 1 false v14 h fun v18 =>
 nilP v18 fun v19 =>
 fadP 7 v19 fun v20 =>
 ldP 1 false v20 h fun v21 =>
 ldP 1 false v16 h fun v22 =>
 ldV 1 false v20 h = some v21 ∧
 ldV 1 false v14 h = some v18 ∧
 ldV 1 false v12 h = some v17 ∧
 nilP v22 fun v23 =>
 fadP 9 v23 fun v24 =>
 ldP 1 false v24 h fun v25 =>
 ldV 1 false v20 h = some v21 ∧
 ldV 1 false v14 h = some v18 ∧
 ldV 1 false v12 h = some v17 ∧
 binP .add .other v21 v25 fun v26 =>
 S n_state_turn_free [a0, v17, v26] h fun v27 h =>
 notP v27 fun v28 =>
 iteP v28
 (K (.bool false) h)
 (binP .add .other v6 (.int .i64 1) fun v29 =>
 k7 [v29] h))
 (nilP a0 fun v30 =>
 fadP 1 v30 fun v31 =>
 fadP 4 v31 fun v32 =>
 stP 1 v32 .nils h fun h =>
 nilP a0 fun v33 =>
 fadP 1 v33 fun v34 =>
 fadP 0 v34 fun v35 =>
 S n_state_rises [v35] h fun v36 h =>
 K v36 h)) (v37.getD 0 .any)) [.int .i64 0] h
theorem q_state_turn_boot (S : FuncId → List AVal → AHeap A → (AVal → AHeap A → Prop) → Prop) (G : Nat → AHeap A → List AVal → (List AVal → AHeap A → Prop) → Prop) (a0 : AVal) (h : AHeap A) (K : AVal → AHeap A → Prop) : funP Try.prog S G Try.f49 (.two none .leaf (.two none (.two none .leaf (.one [] (.one [11] (.two none .leaf (.two none .leaf (.two none (.one [] (.two none .leaf (.two none (.draw none (.take 0 (.take 1 (.take 3 (.take 4 (.take 5 (.take 10 (.take 11 (.take 12 (.load 2 (.load 6 (.take 7 (.take 8 (.load 9 (.alt 13 (.take 14 (.take 15 (.alt 16 (.take 17 (.alt 18 (.take 19 .stop) .stop)) .stop))) .stop))))))))))))))) .leaf))) .leaf)))))) .leaf)) [a0] h K = p_state_turn_boot S G a0 h K := by kernel_rfl
theorem c_state_turn_boot {R : Adts A} {h : AHeap A} {K : AVal → AHeap A → Prop} {a0 : AVal} (hk : p_state_turn_boot (Tri Pr R) (Gives Pr R) a0 h K) : Tri Pr R n_state_turn_boot [a0] h K :=
  tri_of_funP (by kernel_rfl) (fun _ _ _ _ h => h) (fun _ _ _ _ h => h) Try.func49 (by rw [q_state_turn_boot]; exact hk)
/-- (*bastion/state.turn).user -/
def p_state_turn_user (S : FuncId → List AVal → AHeap A → (AVal → AHeap A → Prop) → Prop) (G : Nat → AHeap A → List AVal → (List AVal → AHeap A → Prop) → Prop) (a0 : AVal) (h : AHeap A) (K : AVal → AHeap A → Prop) : Prop :=
 boxP t_p_state_turn 1 a0 h fun v1 h =>
 ldP 1 false v1 h fun v2 =>
 nilP v2 fun v3 =>
 fadP 1 v3 fun v4 =>
 ldP 1 false v1 h fun v5 =>
 ldV 1 false v1 h = some v2 ∧
 nilP v5 fun v6 =>
 fadP 8 v6 fun v7 =>
 ldP 1 false v7 h fun v8 =>
 ldV 1 false v1 h = some v2 ∧
 nilP v8 fun v9 =>
 fadP 1 v9 fun v10 =>
 ldP 1 false v10 h fun v11 =>
 ldV 1 false v1 h = some v2 ∧
 S n_state_User [v4, v11] h fun v12 h =>
 binP .neq .ptr v12 .nilp fun v13 =>
 iteP v13
 (K (.bool false) h)
 (ldP 1 false v1 h fun v14 =>
 nilP v14 fun v15 =>
 fadP 1 v15 fun v16 =>
 fadP 3 v16 fun v17 =>
 ldP 1 false v17 h fun v18 =>
 mkfP (.func n_state_turn_user_c1) [] [v1] fun v19 =>
 S n_slices_IndexFunc_api_User [v18, v19] h fun v20 h =>
 joinP G h.length (fun k21 =>
 binP .lss .other v20 (.int .i64 0) fun v22 =>
 iteP v22
 (ldP 1 false v1 h fun v23 =>
 nilP v23 fun v24 =>
 fadP 1 v24 fun v25 =>
 fadP 3 v25 fun v26 =>
 ldP 1 false v26 h fun v27 =>
 lenP v27 fun v28 =>
 k21 [v28] h)
 (k21 [v20] h))
 (fun v70 h =>
 (fun v29 =>
 ldP 1 false v1 h fun v30 =>
 ldP 1 false v1 h fun v31 =>
 nilP v31 fun v32 =>
 fadP 1 v32 fun v33 =>
 fadP 3 v33 fun v34 =>
 ldP 1 false v34 h fun v35 =>
 ldP 1 false v1 h fun v36 =>
 nilP v36 fun v37 =>
 fadP 8 v37 fun v38 =>
 ldP 1 false v38 h fun v39 =>
 nilP v39 fun v40 =>
 fadP 1 v40 fun v41 =>
 ldP 1 false v41 h fun v42 =>
 ldP 1 false v1 h fun v43 =>
 nilP v43 fun v44 =>
 fadP 8 v44 fun v45 =>
 ldP 1 false v45 h fun v46 =>
 nilP v46 fun v47 =>
 fadP 4 v47 fun v48 =>
 ldP 1 false v48 h fun v49 =>
 ldP 1 false v1 h fun v50 =>
 nilP v50 fun v51 =>
 fadP 8 v51 fun v52 =>
 ldP 1 false v52 h fun v53 =>
 nilP v53 fun v54 =>
 fadP 5 v54 fun v55 =>
 ldP 1 false v55 h fun v56 =>
 ldP 1 false v1 h fun v57 =>
 ldV 1 false v55 h = some v56 ∧
 ldV 1 false v52 h = some v53 ∧
 ldV 1 false v1 h = some v50 ∧
 ldV 1 false v48 h = some v49 ∧
 ldV 1 false v45 h = some v46 ∧
 ldV 1 false v1 h = some v43 ∧
 ldV 1 false v41 h = some v42 ∧
 ldV 1 false v38 h = some v39 ∧
 ldV 1 false v1 h = some v36 ∧
 ldV 1 false v34 h = some v35 ∧
 ldV 1 false v1 h = some v31 ∧
 ldV 1 false v1 h = some v30 ∧
 nilP v57 fun v58 =>
 fadP 8 v58 fun v59 =>
 ldP 1 false v59 h fun v60 =>
 ldV 1 false v55 h = some v56 ∧
 ldV 1 false v52 h = some v53 ∧
 ldV 1 false v1 h = some v50 ∧
 ldV 1 false v48 h = some v49 ∧
 ldV 1 false v45 h = some v46 ∧
 ldV 1 false v1 h = some v43 ∧
 ldV 1 false v41 h = some v42 ∧
 ldV 1 false v38 h = some v39 ∧
 ldV 1 false v1 h = some v36 ∧
 ldV 1 false v34 h = some v35 ∧
 ldV 1 false v1 h = some v31 ∧
 ldV 1 false v1 h = some v30 ∧
 nilP v60 fun v61 =>
 fadP 6 v61 fun v62 =>
 ldP 1 false v62 h fun v63 =>
 ldV 1 false v55 h = some v56 ∧
 ldV 1 false v52 h = some v53 ∧
 ldV 1 false v1 h = some v50 ∧
 ldV 1 false v48 h = some v49 ∧
 ldV 1 false v45 h = some v46 ∧
 ldV 1 false v1 h = some v43 ∧
 ldV 1 false v41 h = some v42 ∧
 ldV 1 false v38 h = some v39 ∧
 ldV 1 false v1 h = some v36 ∧
 ldV 1 false v34 h = some v35 ∧
 ldV 1 false v1 h = some v31 ∧
 ldV 1 false v1 h = some v30 ∧
 bldP [.int .i64 0, .int .i64 0, .int .i64 0, .int .i64 0, .int .i64 0, .int .i64 0, .int .i64 0, .int .i64 0, .int .i64 0] [(0, 1, v42), (1, 1, v49), (2, 1, v56), (3, 1, v63)] fun v64 =>
 bslP t_api_User 1 [.int .i64 0, .int .i64 0, .int .i64 0, .int .i64 0, .int .i64 0, .int .i64 0, .int .i64 0, .int .i64 0, .int .i64 0] [(0, 9, v64)] h fun v65 h =>
 ldV 1 false v34 h = some v35 ∧
 ldV 1 false v1 h = some v31 ∧
 ldV 1 false v1 h = some v30 ∧
 S n_slices_Insert_api_User [v35, v29, v65] h fun v66 h =>
 ldV 1 false v1 h = some v30 ∧
 nilP v30 fun v67 =>
 fadP 1 v67 fun v68 =>
 fadP 3 v68 fun v69 =>
 stP 1 v69 v66 h fun h =>
 K (.bool true) h) (v70.getD 0 .any)))
theorem q_state_turn_user (S : FuncId → List AVal → AHeap A → (AVal → AHeap A → Prop) → Prop) (G : Nat → AHeap A → List AVal → (List AVal → AHeap A → Prop) → Prop) (a0 : AVal) (h : AHeap A) (K : AVal → AHeap A → Prop) : funP Try.prog S G Try.f50 (.two none .leaf (.two none (.two none (.draw none (.load 0 (.take 1 (.take 2 (.alt 3 (.take 4 (.take 5 (.alt 6 (.take 7 (.take 8 (.alt 9 (.alt 10 (.take 11 .stop) .stop) .stop))) .stop))) .stop))))) .leaf) (.two none .leaf (.two (some [3]) .leaf (.two none (.draw none (.take 6 (.load 0 (.load 1 (.take 2 (.take 3 (.take 4 (.load 5 (.load 7 (.take 8 (.take 9 (.load 10 (.take 11 (.take 12 (.load 13 (.load 14 (.take 15 (.take 16 (.load 17 (.take 18 (.take 19 (.load 20 (.load 21 (.take 22 (.take 23 (.load 24 (.take 25 (.take 26 (.load 27 (.alt 28 (.take 29 (.take 30 (.alt 31 (.take 32 (.take 33 (.alt 34 (.take 35 (.alt 36 (.alt 37 (.take 38 (.take 39 (.take 40 (.alt 41 .stop .stop)))) .stop) .stop)) .stop))) .stop))) .stop)))))))))))))))))))))))))))))) .leaf))))) [a0] h K = p_state_turn_user S G a0 h K := by kernel_rfl
theorem c_state_turn_user {R : Adts A} {h : AHeap A} {K : AVal → AHeap A → Prop} {a0 : AVal} (hk : p_state_turn_user (Tri Pr R) (Gives Pr R) a0 h K) : Tri Pr R n_state_turn_user [a0] h K :=
  tri_of_funP (by kernel_rfl) (fun _ _ _ _ h => h) (fun _ _ _ _ h => h) Try.func50 (by rw [q_state_turn_user]; exact hk)
/-- (*bastion/state.turn).lease -/
def p_state_turn_lease (S : FuncId → List AVal → AHeap A → (AVal → AHeap A → Prop) → Prop) (G : Nat → AHeap A → List AVal → (List AVal → AHeap A → Prop) → Prop) (a0 : AVal) (h : AHeap A) (K : AVal → AHeap A → Prop) : Prop :=
 nilP a0 fun v1 =>
 fadP 1 v1 fun v2 =>
 fadP 5 v2 fun v3 =>
 nilP a0 fun v4 =>
 fadP 8 v4 fun v5 =>
 nilP a0 fun v6 =>
 fadP 8 v6 fun v7 =>
 ldP 1 false v3 h fun v8 =>
 ldP 1 false v5 h fun v9 =>
 nilP v9 fun v10 =>
 fadP 3 v10 fun v11 =>
 ldP 1 false v11 h fun v12 =>
 ldP 1 false v7 h fun v13 =>
 ldV 1 false v11 h = some v12 ∧
 ldV 1 false v5 h = some v9 ∧
 ldV 1 false v3 h = some v8 ∧
 nilP v13 fun v14 =>
 fadP 1 v14 fun v15 =>
 ldP 1 false v15 h fun v16 =>
 ldV 1 false v11 h = some v12 ∧
 ldV 1 false v5 h = some v9 ∧
 ldV 1 false v3 h = some v8 ∧
 S n_pool_Take [v8, v12, v16] h fun v17 h =>
 extP v17 0 fun v18 =>
 extP v17 1 fun v19 =>
 joinP G h.length (fun k20 =>
 nilP a0 fun v21 =>
 fadP 8 v21 fun v22 =>
 nilP a0 fun v23 =>
 fadP 1 v23 fun v24 =>
 fadP 2 v24 fun v25 =>
 ldP 1 false v22 h fun v26 =>
 nilP v26 fun v27 =>
 fadP 2 v27 fun v28 =>
 ldP 1 false v28 h fun v29 =>
 ldP 1 false v25 h fun v30 =>
 ldV 1 false v28 h = some v29 ∧
 ldV 1 false v22 h = some v26 ∧
 binP .neq .other v29 v30 fun v31 =>
 iteP v31
 (k20 [.bool true] h)
 (nilP a0 fun v32 =>
 fadP 1 v32 fun v33 =>
 nilP a0 fun v34 =>
 fadP 8 v34 fun v35 =>
 ldP 1 false v35 h fun v36 =>
 nilP v36 fun v37 =>
 fadP 1 v37 fun v38 =>
 ldP 1 false v38 h fun v39 =>
 S n_state_User [v33, v39] h fun v40 h =>
 binP .eql .ptr v40 .nilp fun v41 =>
 iteP v41
 (k20 [.bool true] h)
 (binP .neq .other v19 (.int .i64 0) fun v42 =>
 iteP v42
 (k20 [.bool true] h)
 (nilP a0 fun v43 =>
 fadP 1 v43 fun v44 =>
 fadP 4 v44 fun v45 =>
 nilP a0 fun v46 =>
 fadP 0 v46 fun v47 =>
 ldP 1 false v45 h fun v48 =>
 lenP v48 fun v49 =>
 ldP 1 false v47 h fun v50 =>
 ldV 1 false v45 h = some v48 ∧
 nilP v50 fun v51 =>
 fadP 2 v51 fun v52 =>
 ldP 1 false v52 h fun v53 =>
 ldV 1 false v45 h = some v48 ∧
 binP .geq .other v49 v53 fun v54 =>
 k20 [v54] h))))
 (fun v101 h =>
 (fun v55 =>
 iteP v55
 (K (.bool false) h)
 (nilP a0 fun v56 =>
 fadP 1 v56 fun v57 =>
 fadP 5 v57 fun v58 =>
 stP 1 v58 v18 h fun h =>
 nilP a0 fun v59 =>
 fadP 1 v59 fun v60 =>
 fadP 4 v60 fun v61 =>
 nilP a0 fun v62 =>
 fadP 8 v62 fun v63 =>
 nilP a0 fun v64 =>
 fadP 8 v64 fun v65 =>
 nilP a0 fun v66 =>
 fadP 8 v66 fun v67 =>
 nilP a0 fun v68 =>
 fadP 8 v68 fun v69 =>
 ldP 1 false v61 h fun v70 =>
 ldP 1 false v63 h fun v71 =>
 nilP v71 fun v72 =>
 fadP 2 v72 fun v73 =>
 ldP 1 false v73 h fun v74 =>
 ldP 1 false v65 h fun v75 =>
 nilP v75 fun v76 =>
 fadP 1 v76 fun v77 =>
 ldP 1 false v77 h fun v78 =>
 ldP 1 false v67 h fun v79 =>
 nilP v79 fun v80 =>
 fadP 3 v80 fun v81 =>
 ldP 1 false v81 h fun v82 =>
 ldP 1 false v69 h fun v83 =>
 ldV 1 false v81 h = some v82 ∧
 ldV 1 false v67 h = some v79 ∧
 ldV 1 false v77 h = some v78 ∧
 ldV 1 false v65 h = some v75 ∧
 ldV 1 false v73 h = some v74 ∧
 ldV 1 false v63 h = some v71 ∧
 ldV 1 false v61 h = some v70 ∧
 nilP v83 fun v84 =>
 fadP 7 v84 fun v85 =>
 ldP 1 false v85 h fun v86 =>
 ldV 1 false v81 h = some v82 ∧
 ldV 1 false v67 h = some v79 ∧
 ldV 1 false v77 h = some v78 ∧
 ldV 1 false v65 h = some v75 ∧
 ldV 1 false v73 h = some v74 ∧
 ldV 1 false v63 h = some v71 ∧
 ldV 1 false v61 h = some v70 ∧
 bldP [.int .i64 0, .int .i64 0, .int .i64 0, .int .i64 0] [(0, 1, v74), (1, 1, v78), (2, 1, v82), (3, 1, v86)] fun v87 =>
 bslP t_api_Session 1 [.int .i64 0, .int .i64 0, .int .i64 0, .int .i64 0] [(0, 4, v87)] h fun v88 h =>
 ldV 1 false v61 h = some v70 ∧
 appP t_api_Session 4 32 v70 v88 h fun v89 h =>
 nilP a0 fun v90 =>
 fadP 1 v90 fun v91 =>
 fadP 4 v91 fun v92 =>
 stP 1 v92 v89 h fun h =>
 nilP a0 fun v93 =>
 fadP 1 v93 fun v94 =>
 fadP 2 v94 fun v95 =>
 ldP 1 false v95 h fun v96 =>
 binP .add .other v96 (.int .i64 1) fun v97 =>
 nilP a0 fun v98 =>
 fadP 1 v98 fun v99 =>
 fadP 2 v99 fun v100 =>
 stP 1 v100 v97 h fun h =>
 K (.bool true) h)) (v101.getD 0 .any))
theorem q_state_turn_lease (S : FuncId → List AVal → AHeap A → (AVal → AHeap A → Prop) → Prop) (G : Nat → AHeap A → List AVal → (List AVal → AHeap A → Prop) → Prop) (a0 : AVal) (h : AHeap A) (K : AVal → AHeap A → Prop) : funP Try.prog S G Try.f51 (.two none .leaf (.two none (.draw none (.take 0 (.take 1 (.take 2 (.take 3 (.take 5 (.take 6 (.take 7 (.take 12 (.take 13 (.take 14 (.load 4 (.load 8 (.take 9 (.take 10 (.load 11 (.alt 15 (.take 16 (.take 17 (.alt 18 (.alt 19 (.take 20 (.take 21 (.take 22 (.take 23 (.take 24 .stop))))) .stop) .stop))) .stop))))))))))))))))) (.two none (.two none (.draw (some [74]) (.take 0 (.take 1 (.take 2 (.take 7 (.take 8 (.take 9 (.take 10 (.load 3 (.take 4 (.take 5 (.load 6 (.alt 11 (.take 12 (.take 13 (.split 13 (.skip 14 (.skip 15 (.skip 16 (.skip 17 (.skip 18 (.skip 19 (.skip 20 (.skip 21 (.skip 22 (.skip 23 (.skip 24 (.skip 25 (.take 26 (.take 27 (.known 27 true (.skip 28 (.skip 29 (.take 30 (.take 31 (.known 31 true (.skip 32 (.skip 33 (.skip 34 (.skip 35 (.skip 36 (.skip 37 (.skip 38 (.skip 39 (.skip 40 (.skip 41 (.skip 42 (.skip 43 (.skip 44 (.skip 45 (.take 46 .stop))))))))))))))))))))))))))))))))))) (.take 14 (.take 15 (.take 16 (.take 17 (.take 18 (.take 19 (.alt 20 (.take 21 (.take 22 (.alt 23 (.alt 24 (.take 25 (.take 26 (.take 27 (.split 27 (.skip 28 (.skip 29 (.take 30 (.take 31 (.known 31 true (.skip 32 (.skip 33 (.skip 34 (.skip 35 (.skip 36 (.skip 37 (.skip 38 (.skip 39 (.skip 40 (.skip 41 (.skip 42 (.skip 43 (.skip 44 (.skip 45 (.take 46 .stop)))))))))))))))))))) (.take 28 (.take 29 (.take 30 (.take 31 (.split 31 (.skip 32 (.skip 33 (.skip 34 (.skip 35 (.skip 36 (.skip 37 (.skip 38 (.skip 39 (.skip 40 (.skip 41 (.skip 42 (.skip 43 (.skip 44 (.skip 45 (.take 46 .stop))))))))))))))) (.take 32 (.take 33 (.take 34 (.take 35 (.take 38 (.take 39 (.take 40 (.load 36 (.take 37 (.alt 41 (.take 42 (.take 43 (.alt 44 (.take 45 (.take 46 .stop)) .stop))) .stop))))))))))))))))))) .stop) .stop))) .stop)))))))))) .stop))))))))))))) .leaf) (.two none .leaf (.two none (.draw none (.take 0 (.take 1 (.take 2 (.take 3 (.take 4 (.take 6 (.take 7 (.take 8 (.take 13 (.take 14 (.take 15 (.take 20 (.take 21 (.take 22 (.take 27 (.take 28 (.take 29 (.load 5 (.load 9 (.take 10 (.take 11 (.load 12 (.load 16 (.take 17 (.take 18 (.load 19 (.load 23 (.take 24 (.take 25 (.load 26 (.alt 30 (.take 31 (.take 32 (.alt 33 (.take 34 (.alt 35 (.alt 36 (.take 37 (.take 38 (.take 39 (.alt 40 .stop .stop)))) .stop) .stop)) .stop))) .stop)))))))))))))))))))))))))))))))) .leaf))))) [a0] h K = p_state_turn_lease S G a0 h K := by kernel_rfl
theorem c_state_turn_lease {R : Adts A} {h : AHeap A} {K : AVal → AHeap A → Prop} {a0 : AVal} (hk : p_state_turn_lease (Tri Pr R) (Gives Pr R) a0 h K) : Tri Pr R n_state_turn_lease [a0] h K :=
  tri_of_funP (by kernel_rfl) (fun _ _ _ _ h => h) (fun _ _ _ _ h => h) Try.func51 (by rw [q_state_turn_lease]; exact hk)
/-- (*bastion/state.turn).closes -/
def p_state_turn_closes (S : FuncId → List AVal → AHeap A → (AVal → AHeap A → Prop) → Prop) (G : Nat → AHeap A → List AVal → (List AVal → AHeap A → Prop) → Prop) (a0 : AVal) (h : AHeap A) (K : AVal → AHeap A → Prop) : Prop :=
 boxP t_p_state_turn 1 a0 h fun v1 h =>
 ldP 1 false v1 h fun v2 =>
 nilP v2 fun v3 =>
 fadP 1 v3 fun v4 =>
 fadP 4 v4 fun v5 =>
 ldP 1 false v5 h fun v6 =>
 mkfP (.func n_state_turn_closes_c1) [] [v1] fun v7 =>
 S n_slices_IndexFunc_api_Session [v6, v7] h fun v8 h =>
 joinP G h.length (fun k9 =>
 binP .lss .other v8 (.int .i64 0) fun v10 =>
 iteP v10
 (k9 [.bool true] h)
 (ldP 1 false v1 h fun v11 =>
 ldP 1 false v1 h fun v12 =>
 nilP v12 fun v13 =>
 fadP 1 v13 fun v14 =>
 fadP 4 v14 fun v15 =>
 ldP 1 false v15 h fun v16 =>
 idxP 4 v16 v8 fun v17 =>
 fadP 2 v17 fun v18 =>
 ldP 1 false v18 h fun v19 =>
 ldP 1 false v1 h fun v20 =>
 ldV 1 false v18 h = some v19 ∧
 ldV 1 false v15 h = some v16 ∧
 ldV 1 false v1 h = some v12 ∧
 ldV 1 false v1 h = some v11 ∧
 nilP v20 fun v21 =>
 fadP 8 v21 fun v22 =>
 ldP 1 false v22 h fun v23 =>
 ldV 1 false v18 h = some v19 ∧
 ldV 1 false v15 h = some v16 ∧
 ldV 1 false v1 h = some v12 ∧
 ldV 1 false v1 h = some v11 ∧
 nilP v23 fun v24 =>
 fadP 7 v24 fun v25 =>
 ldP 1 false v25 h fun v26 =>
 ldV 1 false v18 h = some v19 ∧
 ldV 1 false v15 h = some v16 ∧
 ldV 1 false v1 h = some v12 ∧
 ldV 1 false v1 h = some v11 ∧
 S n_state_turn_free [v11, v19, v26] h fun v27 h =>
 notP v27 fun v28 =>
 k9 [v28] h))
 (fun v83 h =>
 (fun v29 =>
 iteP v29
 (K (.bool false) h)
 (joinP G h.length (fun k30 =>
 ldP 1 false v1 h fun v31 =>
 nilP v31 fun v32 =>
 fadP 1 v32 fun v33 =>
 ldP 1 false v1 h fun v34 =>
 ldV 1 false v1 h = some v31 ∧
 nilP v34 fun v35 =>
 fadP 1 v35 fun v36 =>
 fadP 4 v36 fun v37 =>
 ldP 1 false v37 h fun v38 =>
 ldV 1 false v1 h = some v31 ∧
 idxP 4 v38 v8 fun v39 =>
 fadP 1 v39 fun v40 =>
 ldP 1 false v40 h fun v41 =>
 ldV 1 false v1 h = some v31 ∧
 S n_state_User [v33, v41] h fun v42 h =>
 binP .neq .ptr v42 .nilp fun v43 =>
 iteP v43
 (nilP v42 fun v44 =>
 fadP 4 v44 fun v45 =>
 ldP 1 false v45 h fun v46 =>
 ldP 1 false v1 h fun v47 =>
 ldV 1 false v45 h = some v46 ∧
 nilP v47 fun v48 =>
 fadP 8 v48 fun v49 =>
 ldP 1 false v49 h fun v50 =>
 ldV 1 false v45 h = some v46 ∧
 nilP v50 fun v51 =>
 fadP 4 v51 fun v52 =>
 ldP 1 false v52 h fun v53 =>
 ldV 1 false v45 h = some v46 ∧
 binP .sub .other (.int .i64 1073741823) v53 fun v54 =>
 binP .gtr .other v46 v54 fun v55 =>
 iteP v55
 (nilP v42 fun v56 =>
 fadP 4 v56 fun v57 =>
 stP 1 v57 (.int .i64 1073741823) h fun h =>
 k30 [] h)
 (nilP v42 fun v58 =>
 fadP 4 v58 fun v59 =>
 ldP 1 false v59 h fun v60 =>
 ldP 1 false v1 h fun v61 =>
 ldV 1 false v59 h = some v60 ∧
 nilP v61 fun v62 =>
 fadP 8 v62 fun v63 =>
 ldP 1 false v63 h fun v64 =>
 ldV 1 false v59 h = some v60 ∧
 nilP v64 fun v65 =>
 fadP 4 v65 fun v66 =>
 ldP 1 false v66 h fun v67 =>
 ldV 1 false v59 h = some v60 ∧
 binP .add .other v60 v67 fun v68 =>
 nilP v42 fun v69 =>
 fadP 4 v69 fun v70 =>
 stP 1 v70 v68 h fun h =>
 k30 [] h))
 (k30 [] h))
 (fun _ h =>
 binP .add .other v8 (.int .i64 1) fun v71 =>
 ldP 1 false v1 h fun v72 =>
 ldP 1 false v1 h fun v73 =>
 ldV 1 false v1 h = some v72 ∧
 nilP v73 fun v74 =>
 fadP 1 v74 fun v75 =>
 fadP 4 v75 fun v76 =>
 ldP 1 false v76 h fun v77 =>
 ldV 1 false v1 h = some v72 ∧
 S n_slices_Delete_api_Session [v77, v8, v71] h fun v78 h =>
 ldV 1 false v1 h = some v72 ∧
 nilP v72 fun v79 =>
 fadP 1 v79 fun v80 =>
 fadP 4 v80 fun v81 =>
 stP 1 v81 v78 h fun h =>
 K (.bool true) h))) (v83.getD 0 .any))
theorem q_state_turn_closes (S : FuncId → List AVal → AHeap A → (AVal → AHeap A → Prop) → Prop) (G : Nat → AHeap A → List AVal → (List AVal → AHeap A → Prop) → Prop) (a0 : AVal) (h : AHeap A) (K : AVal → AHeap A → Prop) : funP Try.prog S G Try.f52 (.two none .leaf (.two none .leaf (.two none (.two none (.draw (some [34]) (.take 0 (.take 1 (.take 2 (.split 2 (.skip 3 (.skip 4 (.skip 5 (.skip 6 (.skip 7 (.skip 8 (.skip 9 (.skip 10 (.skip 11 (.skip 12 (.skip 13 (.skip 14 (.skip 15 (.skip 16 (.skip 17 (.skip 18 (.skip 19 (.skip 20 (.skip 21 (.take 22 .stop)))))))))))))))))))) (.take 9 (.load 3 (.load 4 (.take 5 (.take 6 (.take 7 (.load 8 (.take 10 (.take 11 (.load 12 (.alt 13 (.take 14 (.take 15 (.alt 16 (.take 17 (.take 18 (.alt 19 (.alt 20 (.take 21 (.take 22 .stop)) .stop) .stop))) .stop))) .stop)))))))))))))))) .leaf) (.two (some []) (.two none (.draw none (.take 8 (.load 0 (.take 1 (.take 2 (.alt 3 (.take 4 (.take 5 (.take 6 (.alt 7 (.take 9 (.take 10 (.alt 11 (.alt 12 (.take 13 .stop) .stop) .stop))) .stop)))) .stop)))))) (.two none .leaf (.two none (.two none (.draw none (.take 0 (.take 1 (.take 2 (.load 3 (.alt 4 (.take 5 (.take 6 (.alt 7 (.take 8 (.take 9 (.alt 10 (.take 11 (.take 12 .stop)) .stop))) .stop))) .stop)))))) (.two none .leaf (.draw none (.take 0 (.take 1 (.take 2 (.load 3 (.alt 4 (.take 5 (.take 6 (.alt 7 (.take 8 (.take 9 (.alt 10 (.take 11 (.take 12 (.take 13 (.alt 14 .stop .stop)))) .stop))) .stop))) .stop)))))))) .leaf))) (.two none (.draw none (.take 6 (.take 7 (.take 8 (.load 0 (.alt 1 (.take 2 (.take 3 (.take 4 (.alt 5 (.alt 9 (.take 10 (.take 11 (.take 12 (.alt 13 .stop .stop)))) .stop) .stop)))) .stop)))))) .leaf))))) [a0] h K = p_state_turn_closes S G a0 h K := by kernel_rfl
theorem c_state_turn_closes {R : Adts A} {h : AHeap A} {K : AVal → AHeap A → Prop} {a0 : AVal} (hk : p_state_turn_closes (Tri Pr R) (Gives Pr R) a0 h K) : Tri Pr R n_state_turn_closes [a0] h K :=
  tri_of_funP (by kernel_rfl) (fun _ _ _ _ h => h) (fun _ _ _ _ h => h) Try.func52 (by rw [q_state_turn_closes]; exact hk)
/-- bastion/state.rotate -/
def p_state_rotate (S : FuncId → List AVal → AHeap A → (AVal → AHeap A → Prop) → Prop) (G : Nat → AHeap A → List AVal → (List AVal → AHeap A → Prop) → Prop) (a0 : AVal) (h : AHeap A) (K : AVal → AHeap A → Prop) : Prop :=
 nilP a0 fun v1 =>
 fadP 1 v1 fun v2 =>
 ldP 1 false v2 h fun v3 =>
 binP .add .other v3 (.int .i64 1) fun v4 =>
 nilP a0 fun v5 =>
 fadP 1 v5 fun v6 =>
 stP 1 v6 v4 h fun h =>
 K (.bool true) h
theorem q_state_rotate (S : FuncId → List AVal → AHeap A → (AVal → AHeap A → Prop) → Prop) (G : Nat → AHeap A → List AVal → (List AVal → AHeap A → Prop) → Prop) (a0 : AVal) (h : AHeap A) (K : AVal → AHeap A → Prop) : funP Try.prog S G Try.f53 .leaf [a0] h K = p_state_rotate S G a0 h K := by kernel_rfl
theorem c_state_rotate {R : Adts A} {h : AHeap A} {K : AVal → AHeap A → Prop} {a0 : AVal} (hk : p_state_rotate (Tri Pr R) (Gives Pr R) a0 h K) : Tri Pr R n_state_rotate [a0] h K :=
  tri_of_funP (by kernel_rfl) (fun _ _ _ _ h => h) (fun _ _ _ _ h => h) Try.func53 (by rw [q_state_rotate]; exact hk)
/-- (*bastion/state.turn).spend -/
def p_state_turn_spend (S : FuncId → List AVal → AHeap A → (AVal → AHeap A → Prop) → Prop) (G : Nat → AHeap A → List AVal → (List AVal → AHeap A → Prop) → Prop) (a0 : AVal) (h : AHeap A) (K : AVal → AHeap A → Prop) : Prop :=
 nilP a0 fun v1 =>
 fadP 1 v1 fun v2 =>
 fadP 6 v2 fun v3 =>
 nilP a0 fun v4 =>
 fadP 8 v4 fun v5 =>
 ldP 1 false v3 h fun v6 =>
 ldP 1 false v5 h fun v7 =>
 ldV 1 false v3 h = some v6 ∧
 nilP v7 fun v8 =>
 fadP 2 v8 fun v9 =>
 ldP 1 false v9 h fun v10 =>
 ldV 1 false v3 h = some v6 ∧
 S n_slices_Contains_int [v6, v10] h fun v11 h =>
 iteP v11
 (K (.bool false) h)
 (nilP a0 fun v12 =>
 fadP 1 v12 fun v13 =>
 fadP 6 v13 fun v14 =>
 nilP a0 fun v15 =>
 fadP 8 v15 fun v16 =>
 ldP 1 false v14 h fun v17 =>
 ldP 1 false v16 h fun v18 =>
 ldV 1 false v14 h = some v17 ∧
 nilP v18 fun v19 =>
 fadP 2 v19 fun v20 =>
 ldP 1 false v20 h fun v21 =>
 ldV 1 false v14 h = some v17 ∧
 bslP t_int 1 [.int .i64 0] [(0, 1, v21)] h fun v22 h =>
 ldV 1 false v14 h = some v17 ∧
 appP t_int 1 8 v17 v22 h fun v23 h =>
 nilP a0 fun v24 =>
 fadP 1 v24 fun v25 =>
 fadP 6 v25 fun v26 =>
 stP 1 v26 v23 h fun h =>
 K (.bool true) h)
theorem q_state_turn_spend (S : FuncId → List AVal → AHeap A → (AVal → AHeap A → Prop) → Prop) (G : Nat → AHeap A → List AVal → (List AVal → AHeap A → Prop) → Prop) (a0 : AVal) (h : AHeap A) (K : AVal → AHeap A → Prop) : funP Try.prog S G Try.f54 (.two none .leaf (.two none (.two none (.draw none (.take 0 (.take 1 (.take 2 (.take 3 (.take 5 (.take 6 (.take 7 (.load 4 (.alt 8 (.take 9 (.take 10 (.alt 11 (.alt 12 .stop .stop) .stop))) .stop)))))))))) .leaf) (.two none (.draw none (.take 0 (.take 1 (.take 2 (.take 3 (.take 4 (.take 6 (.take 7 (.take 8 (.load 5 (.alt 9 (.take 10 (.take 11 (.alt 12 (.alt 13 (.alt 14 (.take 15 (.take 16 (.take 17 (.alt 18 .stop .stop)))) .stop) .stop) .stop))) .stop))))))))))) .leaf))) [a0] h K = p_state_turn_spend S G a0 h K := by kernel_rfl
theorem c_state_turn_spend {R : Adts A} {h : AHeap A} {K : AVal → AHeap A → Prop} {a0 : AVal} (hk : p_state_turn_spend (Tri Pr R) (Gives Pr R) a0 h K) : Tri Pr R n_state_turn_spend [a0] h K :=
  tri_of_funP (by kernel_rfl) (fun _ _ _ _ h => h) (fun _ _ _ _ h => h) Try.func54 (by rw [q_state_turn_spend]; exact hk)
/-- (*bastion/state.turn).of -/
def p_state_turn_of (S : FuncId → List AVal → AHeap A → (AVal → AHeap A → Prop) → Prop) (G : Nat → AHeap A → List AVal → (List AVal → AHeap A → Prop) → Prop) (a0 a1 : AVal) (h : AHeap A) (K : AVal → AHeap A → Prop) : Prop :=
 binP .eql .ptr a1 .nilp fun v1 =>
 iteP v1
 (K (.bool false) h)
 (joinP G h.length (fun k2 =>
 nilP a0 fun v3 =>
 fadP 8 v3 fun v4 =>
 ldP 1 false v4 h fun v5 =>
 nilP v5 fun v6 =>
 fadP 0 v6 fun v7 =>
 ldP 1 false v7 h fun v8 =>
 joinP G h.length (fun k9 =>
 binP .eql .other v8 (.int .i64 7) fun v10 =>
 iteP v10
 (nilP a1 fun v11 =>
 fadP 8 v11 fun v12 =>
 S n_state_rises [v12] h fun v13 h =>
 K v13 h)
 (binP .eql .other v8 (.int .i64 2) fun v14 =>
 iteP v14
 (joinP G h.length (fun k15 =>
 nilP a1 fun v16 =>
 fadP 5 v16 fun v17 =>
 nilP a0 fun v18 =>
 fadP 8 v18 fun v19 =>
 nilP a0 fun v20 =>
 fadP 0 v20 fun v21 =>
 nilP a0 fun v22 =>
 fadP 0 v22 fun v23 =>
 ldP 2 true v17 h fun v24 =>
 ldP 1 false v19 h fun v25 =>
 nilP v25 fun v26 =>
 fadP 7 v26 fun v27 =>
 ldP 1 false v27 h fun v28 =>
 ldP 1 false v21 h fun v29 =>
 nilP v29 fun v30 =>
 fadP 4 v30 fun v31 =>
 ldP 1 false v31 h fun v32 =>
 ldP 1 false v23 h fun v33 =>
 nilP v33 fun v34 =>
 fadP 5 v34 fun v35 =>
 ldP 1 false v35 h fun v36 =>
 (S n_lock_Fail [v24, v28, v32, v36] h fun v37 h =>
 extP v37 0 fun v38 =>
 extP v37 1 fun v39 =>
 newP t_api_Lock [.int .i64 0, .int .i64 0] h fun v40 h =>
 stP 2 v40 v38 h fun h =>
 k15 [v40, v39] h) ∧
 (newP t_api_Lock [.int .i64 0, .int .i64 0] h fun v41 h =>
 ldV 1 false v35 h = some v36 ∧
 ldV 1 false v23 h = some v33 ∧
 ldV 1 false v31 h = some v32 ∧
 ldV 1 false v21 h = some v29 ∧
 ldV 1 false v27 h = some v28 ∧
 ldV 1 false v19 h = some v25 ∧
 ldV 2 true v17 h = some v24 ∧
 S n_lock_Fail [v24, v28, v32, v36] h fun v42 h =>
 extP v42 0 fun v43 =>
 extP v42 1 fun v44 =>
 stP 2 v41 v43 h fun h =>
 k15 [v41, v44] h))
 (fun v54 h =>
 (fun v45 v46 =>
 joinP G h.length (fun k47 =>
 binP .eql .other v46 (.int .i64 0) fun v48 =>
 iteP v48
 (ldP 2 true v45 h fun v49 =>
 nilP a1 fun v50 =>
 fadP 5 v50 fun v51 =>
 stP 2 v51 v49 h fun h =>
 k47 [] h)
 (k47 [] h))
 (fun _ h =>
 binP .eql .other v46 (.int .i64 0) fun v52 =>
 K v52 h)) (v54.getD 0 .any) (v54.getD 1 .any)))
 (binP .eql .other v8 (.int .i64 3) fun v55 =>
 iteP v55
 (nilP a0 fun v56 =>
 fadP 8 v56 fun v57 =>
 nilP a1 fun v58 =>
 fadP 7 v58 fun v59 =>
 ldP 1 false v57 h fun v60 =>
 nilP v60 fun v61 =>
 fadP 4 v61 fun v62 =>
 ldP 1 false v62 h fun v63 =>
 ldP 1 false v59 h fun v64 =>
 ldV 1 false v62 h = some v63 ∧
 ldV 1 false v57 h = some v60 ∧
 binP .leq .other v63 v64 fun v65 =>
 iteP v65
 (K (.bool false) h)
 (nilP a0 fun v66 =>
 fadP 8 v66 fun v67 =>
 ldP 1 false v67 h fun v68 =>
 nilP v68 fun v69 =>
 fadP 4 v69 fun v70 =>
 ldP 1 false v70 h fun v71 =>
 nilP a1 fun v72 =>
 fadP 7 v72 fun v73 =>
 stP 1 v73 v71 h fun h =>
 k9 [] h))
 (binP .eql .other v8 (.int .i64 4) fun v74 =>
 iteP v74
 (k9 [] h)
 (k2 [] h)))))
 (fun _ h =>
 bldP [.int .i64 0, .int .i64 0] [] fun v75 =>
 nilP a1 fun v76 =>
 fadP 5 v76 fun v77 =>
 stP 2 v77 v75 h fun h =>
 k2 [] h))
 (fun _ h =>
 K (.bool true) h))
theorem q_state_turn_of (S : FuncId → List AVal → AHeap A → (AVal → AHeap A → Prop) → Prop) (G : Nat → AHeap A → List AVal → (List AVal → AHeap A → Prop) → Prop) (a0 a1 : AVal) (h : AHeap A) (K : AVal → AHeap A → Prop) : funP Try.prog S G Try.f55 (.two none .leaf (.two none .leaf (.two (some []) (.two none .leaf (.one [] (.two (some []) (.one [] (.two none (.one [] (.two none .leaf (.two none (.two none (.draw (some [5, 6]) (.take 0 (.take 1 (.take 2 (.take 4 (.take 5 (.take 6 (.take 11 (.take 12 (.take 13 (.take 18 (.take 19 (.take 20 (.load 3 (.load 7 (.take 8 (.take 9 (.load 10 (.load 14 (.take 15 (.take 16 (.load 17 (.load 21 (.take 22 (.take 23 (.load 24 (.alt 25 (.take 26 (.take 27 (.take 28 (.alt 29 (.alt 30 (.take 31 .stop) .stop) .stop)))) (.alt 29 (.alt 25 (.take 26 (.take 27 (.take 28 (.alt 30 (.take 31 .stop) .stop)))) .stop) .stop)))))))))))))))))))))))))))) (.two (some []) .leaf .leaf)) .leaf))) (.two none (.two none (.draw none (.take 0 (.take 1 (.take 2 (.take 7 (.take 8 (.take 9 (.load 3 (.take 4 (.take 5 (.load 6 (.alt 10 (.take 11 .stop) .stop)))))))))))) .leaf) .leaf))) .leaf))) .leaf))) [a0, a1] h K = p_state_turn_of S G a0 a1 h K := by kernel_rfl
theorem c_state_turn_of {R : Adts A} {h : AHeap A} {K : AVal → AHeap A → Prop} {a0 a1 : AVal} (hk : p_state_turn_of (Tri Pr R) (Gives Pr R) a0 a1 h K) : Tri Pr R n_state_turn_of [a0, a1] h K :=
  tri_of_funP (by kernel_rfl) (fun _ _ _ _ h => h) (fun _ _ _ _ h => h) Try.func55 (by rw [q_state_turn_of]; exact hk)
/-- math/bits.Mul -/
def p_math_bits_Mul (S : FuncId → List AVal → AHeap A → (AVal → AHeap A → Prop) → Prop) (G : Nat → AHeap A → List AVal → (List AVal → AHeap A → Prop) → Prop) (a0 a1 : AVal) (h : AHeap A) (K : AVal → AHeap A → Prop) : Prop :=
 iteP (.bool false)
 (cviP .u32 a0 fun v1 =>
 cviP .u32 a1 fun v2 =>
 S n_math_bits_Mul32 [v1, v2] h fun v3 h =>
 extP v3 0 fun v4 =>
 extP v3 1 fun v5 =>
 cviP .u64 v4 fun v6 =>
 cviP .u64 v5 fun v7 =>
 K (.tup [v6, v7]) h)
 (S n_math_bits_Mul64 [a0, a1] h fun v8 h =>
 extP v8 0 fun v9 =>
 extP v8 1 fun v10 =>
 K (.tup [v9, v10]) h)
theorem q_math_bits_Mul (S : FuncId → List AVal → AHeap A → (AVal → AHeap A → Prop) → Prop) (G : Nat → AHeap A → List AVal → (List AVal → AHeap A → Prop) → Prop) (a0 a1 : AVal) (h : AHeap A) (K : AVal → AHeap A → Prop) : funP Try.prog S G Try.f56 .leaf [a0, a1] h K = p_math_bits_Mul S G a0 a1 h K := by kernel_rfl
theorem c_math_bits_Mul {R : Adts A} {h : AHeap A} {K : AVal → AHeap A → Prop} {a0 a1 : AVal} (hk : p_math_bits_Mul (Tri Pr R) (Gives Pr R) a0 a1 h K) : Tri Pr R n_math_bits_Mul [a0, a1] h K :=
  tri_of_funP (by kernel_rfl) (fun _ _ _ _ h => h) (fun _ _ _ _ h => h) Try.func56 (by rw [q_math_bits_Mul]; exact hk)
/-- (*bastion/state.turn).free -/
def p_state_turn_free (S : FuncId → List AVal → AHeap A → (AVal → AHeap A → Prop) → Prop) (G : Nat → AHeap A → List AVal → (List AVal → AHeap A → Prop) → Prop) (a0 a1 a2 : AVal) (h : AHeap A) (K : AVal → AHeap A → Prop) : Prop :=
 nilP a0 fun v1 =>
 fadP 1 v1 fun v2 =>
 fadP 5 v2 fun v3 =>
 ldP 1 false v3 h fun v4 =>
 S n_pool_Free [v4, a1, a2] h fun v5 h =>
 extP v5 0 fun v6 =>
 extP v5 1 fun v7 =>
 joinP G h.length (fun k8 =>
 binP .eql .other v7 (.int .i64 0) fun v9 =>
 iteP v9
 (nilP a0 fun v10 =>
 fadP 1 v10 fun v11 =>
 fadP 5 v11 fun v12 =>
 stP 1 v12 v6 h fun h =>
 k8 [] h)
 (k8 [] h))
 (fun _ h =>
 binP .eql .other v7 (.int .i64 0) fun v13 =>
 K v13 h)
theorem q_state_turn_free (S : FuncId → List AVal → AHeap A → (AVal → AHeap A → Prop) → Prop) (G : Nat → AHeap A → List AVal → (List AVal → AHeap A → Prop) → Prop) (a0 a1 a2 : AVal) (h : AHeap A) (K : AVal → AHeap A → Prop) : funP Try.prog S G Try.f57 (.two none .leaf (.two none .leaf (.two (some []) .leaf .leaf))) [a0, a1, a2] h K = p_state_turn_free S G a0 a1 a2 h K := by kernel_rfl
theorem c_state_turn_free {R : Adts A} {h : AHeap A} {K : AVal → AHeap A → Prop} {a0 a1 a2 : AVal} (hk : p_state_turn_free (Tri Pr R) (Gives Pr R) a0 a1 a2 h K) : Tri Pr R n_state_turn_free [a0, a1, a2] h K :=
  tri_of_funP (by kernel_rfl) (fun _ _ _ _ h => h) (fun _ _ _ _ h => h) Try.func57 (by rw [q_state_turn_free]; exact hk)
end Go.AI
