/- The functions as texts over the abstract heap. -/
import Derived.Test.YtnhclbecbagmfaaNm
import Derived.KernelRfl
set_option linter.all false
namespace Go.AI
open Go.Proofs
set_option maxRecDepth 1000000
variable {A : Type}
/-- bastion/bastionref1.NewBook -/
def p_ref1_NewBook (S : FuncId → List AVal → AHeap A → (AVal → AHeap A → Prop) → Prop) (G : Nat → AHeap A → List AVal → (List AVal → AHeap A → Prop) → Prop) (a0 : AVal) (h : AHeap A) (K : AVal → AHeap A → Prop) : Prop :=
 binP .lss .other a0 (.int .i64 1) fun v1 =>
 condP v1 false (fun k2 =>
 binP .gtr .other a0 (.int .i64 65536) fun v3 =>
 k2 v3 h)
 (.bool true) h fun v4 h =>
 iteP v4
 (K (.tup [.nilp, .int .i64 200]) h)
 (bldP [.int .i64 0, .nils] [(0, 1, a0)] fun v5 =>
 boxP t_bastionref1_Book 2 v5 h fun v6 h =>
 K (.tup [v6, .int .i64 0]) h)
theorem q_ref1_NewBook (S : FuncId → List AVal → AHeap A → (AVal → AHeap A → Prop) → Prop) (G : Nat → AHeap A → List AVal → (List AVal → AHeap A → Prop) → Prop) (a0 : AVal) (h : AHeap A) (K : AVal → AHeap A → Prop) : funP Try.prog S G Try.f21 .leaf [a0] h K = p_ref1_NewBook S G a0 h K := by kernel_rfl
theorem c_ref1_NewBook {R : Adts A} {h : AHeap A} {K : AVal → AHeap A → Prop} {a0 : AVal} (hk : p_ref1_NewBook (Tri Pr R) (Gives Pr R) a0 h K) : Tri Pr R n_ref1_NewBook [a0] h K :=
  tri_of_funP (by kernel_rfl) (fun _ _ _ _ h => h) (fun _ _ _ _ h => h) Try.func21 (by rw [q_ref1_NewBook]; exact hk)
/-- (*bastion/bastionref1.Book).Name -/
def p_ref1_Book_Name (S : FuncId → List AVal → AHeap A → (AVal → AHeap A → Prop) → Prop) (G : Nat → AHeap A → List AVal → (List AVal → AHeap A → Prop) → Prop) (a0 a1 : AVal) (h : AHeap A) (K : AVal → AHeap A → Prop) : Prop :=
 lnsP a1 fun v1 =>
 binP .lss .other v1 (.int .i64 1) fun v2 =>
 condP v2 false (fun k3 =>
 lnsP a1 fun v4 =>
 binP .gtr .other v4 (.int .i64 512) fun v5 =>
 k3 v5 h)
 (.bool true) h fun v6 h =>
 iteP v6
 (K (.tup [.int .i64 0, .int .i64 200]) h)
 (S n_ref1_Book_Find [a0, a1] h fun v7 h =>
 extP v7 0 fun v8 =>
 extP v7 1 fun v9 =>
 iteP v9
 (K (.tup [v8, .int .i64 0]) h)
 (nilP a0 fun v10 =>
 fadP 1 v10 fun v11 =>
 nilP a0 fun v12 =>
 fadP 0 v12 fun v13 =>
 ldP 1 false v11 h fun v14 =>
 lenP v14 fun v15 =>
 ldP 1 false v13 h fun v16 =>
 ldV 1 false v11 h = some v14 ∧
 binP .geq .other v15 v16 fun v17 =>
 iteP v17
 (K (.tup [.int .i64 0, .int .i64 201]) h)
 (nilP a0 fun v18 =>
 fadP 1 v18 fun v19 =>
 ldP 1 false v19 h fun v20 =>
 bslP t_string 1 [.str []] [(0, 1, a1)] h fun v21 h =>
 appP t_string 1 16 v20 v21 h fun v22 h =>
 nilP a0 fun v23 =>
 fadP 1 v23 fun v24 =>
 stP 1 v24 v22 h fun h =>
 nilP a0 fun v25 =>
 fadP 1 v25 fun v26 =>
 ldP 1 false v26 h fun v27 =>
 lenP v27 fun v28 =>
 binP .sub .other v28 (.int .i64 1) fun v29 =>
 K (.tup [v29, .int .i64 0]) h)))
theorem q_ref1_Book_Name (S : FuncId → List AVal → AHeap A → (AVal → AHeap A → Prop) → Prop) (G : Nat → AHeap A → List AVal → (List AVal → AHeap A → Prop) → Prop) (a0 a1 : AVal) (h : AHeap A) (K : AVal → AHeap A → Prop) : funP Try.prog S G Try.f22 (.two none .leaf (.two none .leaf (.two none .leaf (.two none .leaf (.two none (.two none (.draw none (.take 0 (.take 1 (.take 2 (.take 5 (.take 6 (.take 7 (.load 3 (.take 4 (.alt 8 (.take 9 .stop) .stop)))))))))) .leaf) .leaf))))) [a0, a1] h K = p_ref1_Book_Name S G a0 a1 h K := by kernel_rfl
theorem c_ref1_Book_Name {R : Adts A} {h : AHeap A} {K : AVal → AHeap A → Prop} {a0 a1 : AVal} (hk : p_ref1_Book_Name (Tri Pr R) (Gives Pr R) a0 a1 h K) : Tri Pr R n_ref1_Book_Name [a0, a1] h K :=
  tri_of_funP (by kernel_rfl) (fun _ _ _ _ h => h) (fun _ _ _ _ h => h) Try.func22 (by rw [q_ref1_Book_Name]; exact hk)
/-- bastion/field.All -/
def p_field_All (S : FuncId → List AVal → AHeap A → (AVal → AHeap A → Prop) → Prop) (G : Nat → AHeap A → List AVal → (List AVal → AHeap A → Prop) → Prop) (a0 : AVal) (h : AHeap A) (K : AVal → AHeap A → Prop) : Prop :=
 lenP a0 fun v1 =>
 loopP G (fun v14 h k4 =>
 (fun v2 v3 =>
 binP .lss .other v3 v1 fun v5 =>
 iteP v5
 (idxP 1 a0 v3 fun v6 =>
 ldP 1 false v6 h fun v7 =>
 S n_field_Num [v7] h fun v8 h =>
 extP v8 0 fun v9 =>
 extP v8 1 fun v10 =>
 binP .neq .other v10 (.int .i64 0) fun v11 =>
 iteP v11
 (K (.tup [.str [], .bool false]) h)
 (binP .add .other v2 v9 fun v12 =>
 binP .add .other v3 (.int .i64 1) fun v13 =>
 k4 [v12, v13] h))
 (K (.tup [v2, .bool true]) h)) (v14.getD 0 .any) (v14.getD 1 .any)) [.str [], .int .i64 0] h
theorem q_field_All (S : FuncId → List AVal → AHeap A → (AVal → AHeap A → Prop) → Prop) (G : Nat → AHeap A → List AVal → (List AVal → AHeap A → Prop) → Prop) (a0 : AVal) (h : AHeap A) (K : AVal → AHeap A → Prop) : funP Try.prog S G Try.f23 (.two none .leaf (.two none .leaf (.two none (.two none .leaf (.one [] (.one [4, 11] .leaf))) .leaf))) [a0] h K = p_field_All S G a0 h K := by kernel_rfl
theorem c_field_All {R : Adts A} {h : AHeap A} {K : AVal → AHeap A → Prop} {a0 : AVal} (hk : p_field_All (Tri Pr R) (Gives Pr R) a0 h K) : Tri Pr R n_field_All [a0] h K :=
  tri_of_funP (by kernel_rfl) (fun _ _ _ _ h => h) (fun _ _ _ _ h => h) Try.func23 (by rw [q_field_All]; exact hk)
/-- bastion/ring.Key -/
def p_ring_Key (S : FuncId → List AVal → AHeap A → (AVal → AHeap A → Prop) → Prop) (G : Nat → AHeap A → List AVal → (List AVal → AHeap A → Prop) → Prop) (a0 a1 : AVal) (h : AHeap A) (K : AVal → AHeap A → Prop) : Prop :=
 binP .eql .ptr a0 .nilp fun v1 =>
 iteP v1
 (K (.tup [.int .i64 0, .int .i64 1]) h)
 (S n_ring_term [a1] h fun v2 h =>
 extP v2 0 fun v3 =>
 extP v2 1 fun v4 =>
 notP v4 fun v5 =>
 iteP v5
 (K (.tup [.int .i64 0, .int .i64 1400]) h)
 (S n_craft_Atom [a0, v3] h fun v6 h =>
 extP v6 0 fun v7 =>
 extP v6 1 fun v8 =>
 binP .neq .other v8 (.int .i64 0) fun v9 =>
 iteP v9
 (K (.tup [.int .i64 0, .int .i64 1400]) h)
 (K (.tup [v7, .int .i64 0]) h)))
theorem q_ring_Key (S : FuncId → List AVal → AHeap A → (AVal → AHeap A → Prop) → Prop) (G : Nat → AHeap A → List AVal → (List AVal → AHeap A → Prop) → Prop) (a0 a1 : AVal) (h : AHeap A) (K : AVal → AHeap A → Prop) : funP Try.prog S G Try.f24 .leaf [a0, a1] h K = p_ring_Key S G a0 a1 h K := by kernel_rfl
theorem c_ring_Key {R : Adts A} {h : AHeap A} {K : AVal → AHeap A → Prop} {a0 a1 : AVal} (hk : p_ring_Key (Tri Pr R) (Gives Pr R) a0 a1 h K) : Tri Pr R n_ring_Key [a0, a1] h K :=
  tri_of_funP (by kernel_rfl) (fun _ _ _ _ h => h) (fun _ _ _ _ h => h) Try.func24 (by rw [q_ring_Key]; exact hk)
/-- bastion/craft.Seal -/
def p_craft_Seal (S : FuncId → List AVal → AHeap A → (AVal → AHeap A → Prop) → Prop) (G : Nat → AHeap A → List AVal → (List AVal → AHeap A → Prop) → Prop) (a0 a1 a2 : AVal) (h : AHeap A) (K : AVal → AHeap A → Prop) : Prop :=
 S n_craft_keyed [.str [83], a1] h fun v1 h =>
 extP v1 0 fun v2 =>
 extP v1 1 fun v3 =>
 binP .add .other v2 a2 fun v4 =>
 S n_craft_named [a0, v4, v3] h fun v5 h =>
 extP v5 0 fun v6 =>
 extP v5 1 fun v7 =>
 K (.tup [v6, v7]) h
theorem q_craft_Seal (S : FuncId → List AVal → AHeap A → (AVal → AHeap A → Prop) → Prop) (G : Nat → AHeap A → List AVal → (List AVal → AHeap A → Prop) → Prop) (a0 a1 a2 : AVal) (h : AHeap A) (K : AVal → AHeap A → Prop) : funP Try.prog S G Try.f25 .leaf [a0, a1, a2] h K = p_craft_Seal S G a0 a1 a2 h K := by kernel_rfl
theorem c_craft_Seal {R : Adts A} {h : AHeap A} {K : AVal → AHeap A → Prop} {a0 a1 a2 : AVal} (hk : p_craft_Seal (Tri Pr R) (Gives Pr R) a0 a1 a2 h K) : Tri Pr R n_craft_Seal [a0, a1, a2] h K :=
  tri_of_funP (by kernel_rfl) (fun _ _ _ _ h => h) (fun _ _ _ _ h => h) Try.func25 (by rw [q_craft_Seal]; exact hk)
/-- bastion/field.NumMay -/
def p_field_NumMay (S : FuncId → List AVal → AHeap A → (AVal → AHeap A → Prop) → Prop) (G : Nat → AHeap A → List AVal → (List AVal → AHeap A → Prop) → Prop) (a0 : AVal) (h : AHeap A) (K : AVal → AHeap A → Prop) : Prop :=
 binP .geq .other a0 (.int .i64 0) fun v1 =>
 condP v1 true (fun k2 =>
 binP .leq .other a0 (.int .i64 1073741823) fun v3 =>
 k2 v3 h)
 (.bool false) h fun v4 h =>
 K v4 h
theorem q_field_NumMay (S : FuncId → List AVal → AHeap A → (AVal → AHeap A → Prop) → Prop) (G : Nat → AHeap A → List AVal → (List AVal → AHeap A → Prop) → Prop) (a0 : AVal) (h : AHeap A) (K : AVal → AHeap A → Prop) : funP Try.prog S G Try.f26 .leaf [a0] h K = p_field_NumMay S G a0 h K := by kernel_rfl
theorem c_field_NumMay {R : Adts A} {h : AHeap A} {K : AVal → AHeap A → Prop} {a0 : AVal} (hk : p_field_NumMay (Tri Pr R) (Gives Pr R) a0 h K) : Tri Pr R n_field_NumMay [a0] h K :=
  tri_of_funP (by kernel_rfl) (fun _ _ _ _ h => h) (fun _ _ _ _ h => h) Try.func26 (by rw [q_field_NumMay]; exact hk)
/-- bastion/ring.Live -/
def p_ring_Live (S : FuncId → List AVal → AHeap A → (AVal → AHeap A → Prop) → Prop) (G : Nat → AHeap A → List AVal → (List AVal → AHeap A → Prop) → Prop) (a0 a1 a2 : AVal) (h : AHeap A) (K : AVal → AHeap A → Prop) : Prop :=
 S n_field_NumMay [a0] h fun v1 h =>
 condP v1 true (fun k2 =>
 S n_field_NumMay [a1] h fun v3 h =>
 k2 v3 h)
 (.bool false) h fun v4 h =>
 condP v4 true (fun k5 =>
 S n_field_NumMay [a2] h fun v6 h =>
 k5 v6 h)
 (.bool false) h fun v7 h =>
 condP v7 true (fun k8 =>
 binP .leq .other a0 a1 fun v9 =>
 k8 v9 h)
 (.bool false) h fun v10 h =>
 condP v10 true (fun k11 =>
 binP .sub .other a1 a0 fun v12 =>
 binP .leq .other v12 a2 fun v13 =>
 k11 v13 h)
 (.bool false) h fun v14 h =>
 K v14 h
theorem q_ring_Live (S : FuncId → List AVal → AHeap A → (AVal → AHeap A → Prop) → Prop) (G : Nat → AHeap A → List AVal → (List AVal → AHeap A → Prop) → Prop) (a0 a1 a2 : AVal) (h : AHeap A) (K : AVal → AHeap A → Prop) : funP Try.prog S G Try.f27 .leaf [a0, a1, a2] h K = p_ring_Live S G a0 a1 a2 h K := by kernel_rfl
theorem c_ring_Live {R : Adts A} {h : AHeap A} {K : AVal → AHeap A → Prop} {a0 a1 a2 : AVal} (hk : p_ring_Live (Tri Pr R) (Gives Pr R) a0 a1 a2 h K) : Tri Pr R n_ring_Live [a0, a1, a2] h K :=
  tri_of_funP (by kernel_rfl) (fun _ _ _ _ h => h) (fun _ _ _ _ h => h) Try.func27 (by rw [q_ring_Live]; exact hk)
/-- bastion/ticket.open -/
def p_ticket_open (S : FuncId → List AVal → AHeap A → (AVal → AHeap A → Prop) → Prop) (G : Nat → AHeap A → List AVal → (List AVal → AHeap A → Prop) → Prop) (a0 a1 a2 : AVal) (h : AHeap A) (K : AVal → AHeap A → Prop) : Prop :=
 newP t_api_Body [.int .i64 0, .int .i64 0, .int .i64 0, .int .i64 0, .int .i64 0] h fun v1 h =>
 S n_ring_Find [a0, a1] h fun v2 h =>
 extP v2 0 fun v3 =>
 extP v2 1 fun v4 =>
 notP v4 fun v5 =>
 iteP v5
 (bldP [.int .i64 0, .int .i64 0, .int .i64 0, .int .i64 0, .int .i64 0] [] fun v6 =>
 mkiP t_api_Errno (.int .i64 1501) fun v7 =>
 bldP [.nili] [(0, 1, v7)] fun v8 =>
 boxP t_ticket_shut 1 v8 h fun v9 h =>
 mkiP t_p_ticket_shut v9 fun v10 =>
 stP 5 v1 v6 h fun h =>
 ldP 5 true v1 h fun v11 =>
 K (.tup [v11, v10]) h)
 (S n_craft_Open [a0, v3, a2] h fun v12 h =>
 extP v12 0 fun v13 =>
 extP v12 1 fun v14 =>
 binP .neq .other v14 (.int .i64 0) fun v15 =>
 iteP v15
 (bldP [.int .i64 0, .int .i64 0, .int .i64 0, .int .i64 0, .int .i64 0] [] fun v16 =>
 mkiP t_api_Errno v14 fun v17 =>
 bldP [.nili] [(0, 1, v17)] fun v18 =>
 boxP t_ticket_shut 1 v18 h fun v19 h =>
 mkiP t_p_ticket_shut v19 fun v20 =>
 stP 5 v1 v16 h fun h =>
 ldP 5 true v1 h fun v21 =>
 K (.tup [v21, v20]) h)
 (bldP [.str [], .int .i64 0, .nili] [(0, 1, v13)] fun v22 =>
 boxP t_field_Reader 3 v22 h fun v23 h =>
 S n_field_Reader_Num [v23] h fun v24 h =>
 S n_field_Reader_Num [v23] h fun v25 h =>
 S n_field_Reader_Num [v23] h fun v26 h =>
 S n_field_Reader_Num [v23] h fun v27 h =>
 S n_field_Reader_Num [v23] h fun v28 h =>
 bldP [.int .i64 0, .int .i64 0, .int .i64 0, .int .i64 0, .int .i64 0] [(0, 1, v24), (1, 1, v25), (2, 1, v26), (3, 1, v27), (4, 1, v28)] fun v29 =>
 newP t_api_Body [.int .i64 0, .int .i64 0, .int .i64 0, .int .i64 0, .int .i64 0] h fun v30 h =>
 stP 5 v30 v29 h fun h =>
 S n_field_Reader_Done [v23] h fun v31 h =>
 notP v31 fun v32 =>
 condP v32 false (fun k33 =>
 fadP 0 v30 fun v34 =>
 ldP 1 false v34 h fun v35 =>
 binP .geq .other v35 (.int .i64 8) fun v36 =>
 k33 v36 h)
 (.bool true) h fun v37 h =>
 iteP v37
 (bldP [.int .i64 0, .int .i64 0, .int .i64 0, .int .i64 0, .int .i64 0] [] fun v38 =>
 mkiP t_api_Errno (.int .i64 1501) fun v39 =>
 bldP [.nili] [(0, 1, v39)] fun v40 =>
 boxP t_ticket_shut 1 v40 h fun v41 h =>
 mkiP t_p_ticket_shut v41 fun v42 =>
 stP 5 v1 v38 h fun h =>
 ldP 5 true v1 h fun v43 =>
 K (.tup [v43, v42]) h)
 (ldP 5 true v30 h fun v44 =>
 stP 5 v1 v44 h fun h =>
 ldP 5 true v1 h fun v45 =>
 K (.tup [v45, .nili]) h)))
theorem q_ticket_open (S : FuncId → List AVal → AHeap A → (AVal → AHeap A → Prop) → Prop) (G : Nat → AHeap A → List AVal → (List AVal → AHeap A → Prop) → Prop) (a0 a1 a2 : AVal) (h : AHeap A) (K : AVal → AHeap A → Prop) : funP Try.prog S G Try.f28 .leaf [a0, a1, a2] h K = p_ticket_open S G a0 a1 a2 h K := by kernel_rfl
theorem c_ticket_open {R : Adts A} {h : AHeap A} {K : AVal → AHeap A → Prop} {a0 a1 a2 : AVal} (hk : p_ticket_open (Tri Pr R) (Gives Pr R) a0 a1 a2 h K) : Tri Pr R n_ticket_open [a0, a1, a2] h K :=
  tri_of_funP (by kernel_rfl) (fun _ _ _ _ h => h) (fun _ _ _ _ h => h) Try.func28 (by rw [q_ticket_open]; exact hk)
/-- bastion/bastionref1.Num -/
def p_ref1_Num (S : FuncId → List AVal → AHeap A → (AVal → AHeap A → Prop) → Prop) (G : Nat → AHeap A → List AVal → (List AVal → AHeap A → Prop) → Prop) (a0 : AVal) (h : AHeap A) (K : AVal → AHeap A → Prop) : Prop :=
 S n_ref1_num [a0] h fun v1 h =>
 notP v1 fun v2 =>
 iteP v2
 (K (.tup [.str [], .int .i64 100]) h)
 (loopP G (fun v28 h k5 =>
 (fun v3 v4 =>
 binP .geq .other v4 (.int .i64 0) fun v6 =>
 iteP v6
 (joinP G h.length (fun k7 =>
 binP .mul .other (.int .i64 8) v4 fun v8 =>
 cviP .u64 v8 fun v9 =>
 binP .shr .other a0 v9 fun v10 =>
 cviP .u8 v10 fun v11 =>
 binP .neq .other v11 (.int .u8 0) fun v12 =>
 condP v12 false (fun k13 =>
 lenP v3 fun v14 =>
 binP .gtr .other v14 (.int .i64 0) fun v15 =>
 k13 v15 h)
 (.bool true) h fun v16 h =>
 iteP v16
 (bslP t_uint8 1 [.int .u8 0] [(0, 1, v11)] h fun v17 h =>
 appP t_uint8 1 1 v3 v17 h fun v18 h =>
 k7 [v18] h)
 (k7 [v3] h))
 (fun v21 h =>
 (fun v19 =>
 binP .sub .other v4 (.int .i64 1) fun v20 =>
 k5 [v19, v20] h) (v21.getD 0 .any)))
 (lenP v3 fun v22 =>
 cviP .u8 v22 fun v23 =>
 bslP t_uint8 1 [.int .u8 0] [(0, 1, v23)] h fun v24 h =>
 b2sP v24 h fun v25 =>
 b2sP v3 h fun v26 =>
 binP .add .other v25 v26 fun v27 =>
 K (.tup [v27, .int .i64 0]) h)) (v28.getD 0 .any) (v28.getD 1 .any)) [.nils, .int .i64 3] h)
theorem q_ref1_Num (S : FuncId → List AVal → AHeap A → (AVal → AHeap A → Prop) → Prop) (G : Nat → AHeap A → List AVal → (List AVal → AHeap A → Prop) → Prop) (a0 : AVal) (h : AHeap A) (K : AVal → AHeap A → Prop) : funP Try.prog S G Try.f30 (.two none .leaf (.two none .leaf (.two none .leaf (.two none (.two none .leaf (.one [] (.one [4, 5] (.two none .leaf (.two (some [4]) .leaf .leaf))))) .leaf)))) [a0] h K = p_ref1_Num S G a0 h K := by kernel_rfl
theorem c_ref1_Num {R : Adts A} {h : AHeap A} {K : AVal → AHeap A → Prop} {a0 : AVal} (hk : p_ref1_Num (Tri Pr R) (Gives Pr R) a0 h K) : Tri Pr R n_ref1_Num [a0] h K :=
  tri_of_funP (by kernel_rfl) (fun _ _ _ _ h => h) (fun _ _ _ _ h => h) Try.func30 (by rw [q_ref1_Num]; exact hk)
/-- bastion/bastionref12.BodyMay -/
def p_ref12_BodyMay (S : FuncId → List AVal → AHeap A → (AVal → AHeap A → Prop) → Prop) (G : Nat → AHeap A → List AVal → (List AVal → AHeap A → Prop) → Prop) (a0 : AVal) (h : AHeap A) (K : AVal → AHeap A → Prop) : Prop :=
 boxP t_api_Body 5 a0 h fun v1 h =>
 fadP 0 v1 fun v2 =>
 ldP 1 false v2 h fun v3 =>
 binP .geq .other v3 (.int .i64 0) fun v4 =>
 condP v4 true (fun k5 =>
 fadP 0 v1 fun v6 =>
 ldP 1 false v6 h fun v7 =>
 binP .lss .other v7 (.int .i64 8) fun v8 =>
 k5 v8 h)
 (.bool false) h fun v9 h =>
 condP v9 true (fun k10 =>
 fadP 1 v1 fun v11 =>
 ldP 1 false v11 h fun v12 =>
 S n_ref12_num [v12] h fun v13 h =>
 k10 v13 h)
 (.bool false) h fun v14 h =>
 condP v14 true (fun k15 =>
 fadP 2 v1 fun v16 =>
 ldP 1 false v16 h fun v17 =>
 S n_ref12_num [v17] h fun v18 h =>
 k15 v18 h)
 (.bool false) h fun v19 h =>
 condP v19 true (fun k20 =>
 fadP 3 v1 fun v21 =>
 ldP 1 false v21 h fun v22 =>
 S n_ref12_num [v22] h fun v23 h =>
 k20 v23 h)
 (.bool false) h fun v24 h =>
 condP v24 true (fun k25 =>
 fadP 4 v1 fun v26 =>
 ldP 1 false v26 h fun v27 =>
 S n_ref12_num [v27] h fun v28 h =>
 k25 v28 h)
 (.bool false) h fun v29 h =>
 K v29 h
theorem q_ref12_BodyMay (S : FuncId → List AVal → AHeap A → (AVal → AHeap A → Prop) → Prop) (G : Nat → AHeap A → List AVal → (List AVal → AHeap A → Prop) → Prop) (a0 : AVal) (h : AHeap A) (K : AVal → AHeap A → Prop) : funP Try.prog S G Try.f31 .leaf [a0] h K = p_ref12_BodyMay S G a0 h K := by kernel_rfl
theorem c_ref12_BodyMay {R : Adts A} {h : AHeap A} {K : AVal → AHeap A → Prop} {a0 : AVal} (hk : p_ref12_BodyMay (Tri Pr R) (Gives Pr R) a0 h K) : Tri Pr R n_ref12_BodyMay [a0] h K :=
  tri_of_funP (by kernel_rfl) (fun _ _ _ _ h => h) (fun _ _ _ _ h => h) Try.func31 (by rw [q_ref12_BodyMay]; exact hk)
/-- bastion/bastionref12.RingKey -/
def p_ref12_RingKey (S : FuncId → List AVal → AHeap A → (AVal → AHeap A → Prop) → Prop) (G : Nat → AHeap A → List AVal → (List AVal → AHeap A → Prop) → Prop) (a0 a1 : AVal) (h : AHeap A) (K : AVal → AHeap A → Prop) : Prop :=
 S n_ref12_num [a1] h fun v1 h =>
 notP v1 fun v2 =>
 iteP v2
 (K (.tup [.int .i64 0, .int .i64 1400]) h)
 (bslP t_int 1 [.int .i64 0] [(0, 1, a1)] h fun v3 h =>
 S n_ref1_Nums [v3] h fun v4 h =>
 binP .add .other (.str [101, 112, 111, 99, 104]) v4 fun v5 =>
 S n_ref1_Atom [a0, v5] h fun v6 h =>
 extP v6 0 fun v7 =>
 extP v6 1 fun v8 =>
 binP .neq .other v8 (.int .i64 0) fun v9 =>
 iteP v9
 (K (.tup [.int .i64 0, .int .i64 1400]) h)
 (K (.tup [v7, .int .i64 0]) h))
theorem q_ref12_RingKey (S : FuncId → List AVal → AHeap A → (AVal → AHeap A → Prop) → Prop) (G : Nat → AHeap A → List AVal → (List AVal → AHeap A → Prop) → Prop) (a0 a1 : AVal) (h : AHeap A) (K : AVal → AHeap A → Prop) : funP Try.prog S G Try.f32 .leaf [a0, a1] h K = p_ref12_RingKey S G a0 a1 h K := by kernel_rfl
theorem c_ref12_RingKey {R : Adts A} {h : AHeap A} {K : AVal → AHeap A → Prop} {a0 a1 : AVal} (hk : p_ref12_RingKey (Tri Pr R) (Gives Pr R) a0 a1 h K) : Tri Pr R n_ref12_RingKey [a0, a1] h K :=
  tri_of_funP (by kernel_rfl) (fun _ _ _ _ h => h) (fun _ _ _ _ h => h) Try.func32 (by rw [q_ref12_RingKey]; exact hk)
/-- bastion/bastionref1.Seal -/
def p_ref1_Seal (S : FuncId → List AVal → AHeap A → (AVal → AHeap A → Prop) → Prop) (G : Nat → AHeap A → List AVal → (List AVal → AHeap A → Prop) → Prop) (a0 a1 a2 : AVal) (h : AHeap A) (K : AVal → AHeap A → Prop) : Prop :=
 S n_ref1_num [a1] h fun v1 h =>
 notP v1 fun v2 =>
 iteP v2
 (K (.tup [.int .i64 0, .int .i64 300]) h)
 (bslP t_int 1 [.int .i64 0] [(0, 1, a1)] h fun v3 h =>
 S n_ref1_Nums [v3] h fun v4 h =>
 binP .add .other (.str [83]) v4 fun v5 =>
 binP .add .other v5 a2 fun v6 =>
 S n_ref1_Book_made [a0, v6] h fun v7 h =>
 extP v7 0 fun v8 =>
 extP v7 1 fun v9 =>
 K (.tup [v8, v9]) h)
theorem q_ref1_Seal (S : FuncId → List AVal → AHeap A → (AVal → AHeap A → Prop) → Prop) (G : Nat → AHeap A → List AVal → (List AVal → AHeap A → Prop) → Prop) (a0 a1 a2 : AVal) (h : AHeap A) (K : AVal → AHeap A → Prop) : funP Try.prog S G Try.f33 .leaf [a0, a1, a2] h K = p_ref1_Seal S G a0 a1 a2 h K := by kernel_rfl
theorem c_ref1_Seal {R : Adts A} {h : AHeap A} {K : AVal → AHeap A → Prop} {a0 a1 a2 : AVal} (hk : p_ref1_Seal (Tri Pr R) (Gives Pr R) a0 a1 a2 h K) : Tri Pr R n_ref1_Seal [a0, a1, a2] h K :=
  tri_of_funP (by kernel_rfl) (fun _ _ _ _ h => h) (fun _ _ _ _ h => h) Try.func33 (by rw [q_ref1_Seal]; exact hk)
/-- bastion/bastionref12.num -/
def p_ref12_num (S : FuncId → List AVal → AHeap A → (AVal → AHeap A → Prop) → Prop) (G : Nat → AHeap A → List AVal → (List AVal → AHeap A → Prop) → Prop) (a0 : AVal) (h : AHeap A) (K : AVal → AHeap A → Prop) : Prop :=
 binP .geq .other a0 (.int .i64 0) fun v1 =>
 condP v1 true (fun k2 =>
 binP .leq .other a0 (.int .i64 1073741823) fun v3 =>
 k2 v3 h)
 (.bool false) h fun v4 h =>
 K v4 h
theorem q_ref12_num (S : FuncId → List AVal → AHeap A → (AVal → AHeap A → Prop) → Prop) (G : Nat → AHeap A → List AVal → (List AVal → AHeap A → Prop) → Prop) (a0 : AVal) (h : AHeap A) (K : AVal → AHeap A → Prop) : funP Try.prog S G Try.f34 .leaf [a0] h K = p_ref12_num S G a0 h K := by kernel_rfl
theorem c_ref12_num {R : Adts A} {h : AHeap A} {K : AVal → AHeap A → Prop} {a0 : AVal} (hk : p_ref12_num (Tri Pr R) (Gives Pr R) a0 h K) : Tri Pr R n_ref12_num [a0] h K :=
  tri_of_funP (by kernel_rfl) (fun _ _ _ _ h => h) (fun _ _ _ _ h => h) Try.func34 (by rw [q_ref12_num]; exact hk)
/-- (*bastion/bastionref1.Book).Find -/
def p_ref1_Book_Find (S : FuncId → List AVal → AHeap A → (AVal → AHeap A → Prop) → Prop) (G : Nat → AHeap A → List AVal → (List AVal → AHeap A → Prop) → Prop) (a0 a1 : AVal) (h : AHeap A) (K : AVal → AHeap A → Prop) : Prop :=
 loopP G (fun v15 h k2 =>
 (fun v1 =>
 nilP a0 fun v3 =>
 fadP 1 v3 fun v4 =>
 ldP 1 false v4 h fun v5 =>
 lenP v5 fun v6 =>
 binP .lss .other v1 v6 fun v7 =>
 iteP v7
 (nilP a0 fun v8 =>
 fadP 1 v8 fun v9 =>
 ldP 1 false v9 h fun v10 =>
 idxP 1 v10 v1 fun v11 =>
 ldP 1 false v11 h fun v12 =>
 binP .eql .other v12 a1 fun v13 =>
 iteP v13
 (K (.tup [v1, .bool true]) h)
 (binP .add .other v1 (.int .i64 1) fun v14 =>
 k2 [v14] h))
 (K (.tup [.int .i64 0, .bool false]) h)) (v15.getD 0 .any)) [.int .i64 0] h
theorem q_ref1_Book_Find (S : FuncId → List AVal → AHeap A → (AVal → AHeap A → Prop) → Prop) (G : Nat → AHeap A → List AVal → (List AVal → AHeap A → Prop) → Prop) (a0 a1 : AVal) (h : AHeap A) (K : AVal → AHeap A → Prop) : funP Try.prog S G Try.f35 (.two none .leaf (.two none (.two none .leaf (.one [] (.one [6] .leaf))) .leaf)) [a0, a1] h K = p_ref1_Book_Find S G a0 a1 h K := by kernel_rfl
theorem c_ref1_Book_Find {R : Adts A} {h : AHeap A} {K : AVal → AHeap A → Prop} {a0 a1 : AVal} (hk : p_ref1_Book_Find (Tri Pr R) (Gives Pr R) a0 a1 h K) : Tri Pr R n_ref1_Book_Find [a0, a1] h K :=
  tri_of_funP (by kernel_rfl) (fun _ _ _ _ h => h) (fun _ _ _ _ h => h) Try.func35 (by rw [q_ref1_Book_Find]; exact hk)
/-- bastion/bastionref1.Open -/
def p_ref1_Open (S : FuncId → List AVal → AHeap A → (AVal → AHeap A → Prop) → Prop) (G : Nat → AHeap A → List AVal → (List AVal → AHeap A → Prop) → Prop) (a0 a1 a2 : AVal) (h : AHeap A) (K : AVal → AHeap A → Prop) : Prop :=
 S n_ref1_Book_Term [a0, a2] h fun v1 h =>
 extP v1 0 fun v2 =>
 extP v1 1 fun v3 =>
 bslP t_int 1 [.int .i64 0] [(0, 1, a1)] h fun v4 h =>
 S n_ref1_Nums [v4] h fun v5 h =>
 binP .add .other (.str [83]) v5 fun v6 =>
 binP .neq .other v3 (.int .i64 0) fun v7 =>
 condP v7 false (fun k8 =>
 S n_ref1_num [a1] h fun v9 h =>
 notP v9 fun v10 =>
 k8 v10 h)
 (.bool true) h fun v11 h =>
 condP v11 false (fun k12 =>
 lnsP v2 fun v13 =>
 lnsP v6 fun v14 =>
 binP .lss .other v13 v14 fun v15 =>
 k12 v15 h)
 (.bool true) h fun v16 h =>
 condP v16 false (fun k17 =>
 lnsP v6 fun v18 =>
 subP v2 none (some v18) fun v19 =>
 binP .neq .other v19 v6 fun v20 =>
 k17 v20 h)
 (.bool true) h fun v21 h =>
 iteP v21
 (K (.tup [.str [], .int .i64 301]) h)
 (lnsP v6 fun v22 =>
 subP v2 (some v22) none fun v23 =>
 K (.tup [v23, .int .i64 0]) h)
theorem q_ref1_Open (S : FuncId → List AVal → AHeap A → (AVal → AHeap A → Prop) → Prop) (G : Nat → AHeap A → List AVal → (List AVal → AHeap A → Prop) → Prop) (a0 a1 a2 : AVal) (h : AHeap A) (K : AVal → AHeap A → Prop) : funP Try.prog S G Try.f36 .leaf [a0, a1, a2] h K = p_ref1_Open S G a0 a1 a2 h K := by kernel_rfl
theorem c_ref1_Open {R : Adts A} {h : AHeap A} {K : AVal → AHeap A → Prop} {a0 a1 a2 : AVal} (hk : p_ref1_Open (Tri Pr R) (Gives Pr R) a0 a1 a2 h K) : Tri Pr R n_ref1_Open [a0, a1, a2] h K :=
  tri_of_funP (by kernel_rfl) (fun _ _ _ _ h => h) (fun _ _ _ _ h => h) Try.func36 (by rw [q_ref1_Open]; exact hk)
/-- bastion/bastionref12.body -/
def p_ref12_body (S : FuncId → List AVal → AHeap A → (AVal → AHeap A → Prop) → Prop) (G : Nat → AHeap A → List AVal → (List AVal → AHeap A → Prop) → Prop) (a0 : AVal) (h : AHeap A) (K : AVal → AHeap A → Prop) : Prop :=
 newP t_api_Body [.int .i64 0, .int .i64 0, .int .i64 0, .int .i64 0, .int .i64 0] h fun v1 h =>
 bldP [.str [], .int .i64 0, .bool false] [(0, 1, a0)] fun v2 =>
 boxP t_bastionref1_Reader 3 v2 h fun v3 h =>
 S n_ref1_Reader_Num [v3] h fun v4 h =>
 bldP [.int .i64 0, .int .i64 0, .int .i64 0, .int .i64 0, .int .i64 0] [(0, 1, v4)] fun v5 =>
 newP t_api_Body [.int .i64 0, .int .i64 0, .int .i64 0, .int .i64 0, .int .i64 0] h fun v6 h =>
 stP 5 v6 v5 h fun h =>
 S n_ref1_Reader_Num [v3] h fun v7 h =>
 fadP 1 v6 fun v8 =>
 stP 1 v8 v7 h fun h =>
 S n_ref1_Reader_Num [v3] h fun v9 h =>
 fadP 2 v6 fun v10 =>
 stP 1 v10 v9 h fun h =>
 S n_ref1_Reader_Num [v3] h fun v11 h =>
 fadP 3 v6 fun v12 =>
 stP 1 v12 v11 h fun h =>
 S n_ref1_Reader_Num [v3] h fun v13 h =>
 fadP 4 v6 fun v14 =>
 stP 1 v14 v13 h fun h =>
 joinP G h.length (fun k15 =>
 nilP v3 fun v16 =>
 fadP 2 v16 fun v17 =>
 ldP 5 true v6 h fun v18 =>
 ldP 1 false v17 h fun v19 =>
 ldV 5 true v6 h = some v18 ∧
 notP v19 fun v20 =>
 iteP v20
 (nilP v3 fun v21 =>
 fadP 1 v21 fun v22 =>
 lnsP a0 fun v23 =>
 ldP 1 false v22 h fun v24 =>
 ldV 5 true v6 h = some v18 ∧
 binP .eql .other v24 v23 fun v25 =>
 iteP v25
 (ldP 5 true v6 h fun v26 =>
 ldV 5 true v6 h = some v18 ∧
 S n_ref12_BodyMay [v26] h fun v27 h =>
 ldV 5 true v6 h = some v18 ∧
 stP 5 v1 v18 h fun h =>
 k15 [v27] h)
 (stP 5 v1 v18 h fun h =>
 k15 [.bool false] h))
 (stP 5 v1 v18 h fun h =>
 k15 [.bool false] h))
 (fun v30 h =>
 (fun v28 =>
 ldP 5 true v1 h fun v29 =>
 K (.tup [v29, v28]) h) (v30.getD 0 .any))
theorem q_ref12_body (S : FuncId → List AVal → AHeap A → (AVal → AHeap A → Prop) → Prop) (G : Nat → AHeap A → List AVal → (List AVal → AHeap A → Prop) → Prop) (a0 : AVal) (h : AHeap A) (K : AVal → AHeap A → Prop) : funP Try.prog S G Try.f37 (.two none .leaf (.two none .leaf (.two none .leaf (.two none .leaf (.two none .leaf (.two none .leaf (.two none .leaf (.two none (.draw (some [3]) (.take 1 (.take 2 (.take 3 (.load 0 (.alt 4 (.take 5 (.take 6 (.split 6 (.take 7 (.take 8 (.take 9 (.take 11 (.take 12 (.alt 10 (.take 13 (.take 14 (.take 15 (.split 15 (.alt 16 (.alt 17 (.take 18 (.alt 19 (.take 20 .stop) .stop)) .stop) .stop) (.skip 16 (.skip 17 (.take 18 (.alt 19 (.take 20 .stop) .stop)))))))) .stop)))))) (.skip 7 (.skip 8 (.skip 9 (.skip 10 (.skip 11 (.skip 12 (.skip 13 (.take 14 (.take 15 (.known 15 false (.skip 16 (.skip 17 (.take 18 (.alt 19 (.take 20 .stop) .stop))))))))))))))))) .stop)))))) .leaf)))))))) [a0] h K = p_ref12_body S G a0 h K := by kernel_rfl
theorem c_ref12_body {R : Adts A} {h : AHeap A} {K : AVal → AHeap A → Prop} {a0 : AVal} (hk : p_ref12_body (Tri Pr R) (Gives Pr R) a0 h K) : Tri Pr R n_ref12_body [a0] h K :=
  tri_of_funP (by kernel_rfl) (fun _ _ _ _ h => h) (fun _ _ _ _ h => h) Try.func37 (by rw [q_ref12_body]; exact hk)
/-- (*bastion/book.Book).Term -/
def p_book_Book_Term (S : FuncId → List AVal → AHeap A → (AVal → AHeap A → Prop) → Prop) (G : Nat → AHeap A → List AVal → (List AVal → AHeap A → Prop) → Prop) (a0 a1 : AVal) (h : AHeap A) (K : AVal → AHeap A → Prop) : Prop :=
 binP .eql .ptr a0 .nilp fun v1 =>
 iteP v1
 (K (.tup [.str [], .int .i64 1]) h)
 (binP .lss .other a1 (.int .i64 0) fun v2 =>
 condP v2 false (fun k3 =>
 nilP a0 fun v4 =>
 fadP 1 v4 fun v5 =>
 ldP 1 false v5 h fun v6 =>
 lenP v6 fun v7 =>
 binP .geq .other a1 v7 fun v8 =>
 k3 v8 h)
 (.bool true) h fun v9 h =>
 iteP v9
 (K (.tup [.str [], .int .i64 202]) h)
 (nilP a0 fun v10 =>
 fadP 1 v10 fun v11 =>
 ldP 1 false v11 h fun v12 =>
 idxP 1 v12 a1 fun v13 =>
 ldP 1 false v13 h fun v14 =>
 K (.tup [v14, .int .i64 0]) h))
theorem q_book_Book_Term (S : FuncId → List AVal → AHeap A → (AVal → AHeap A → Prop) → Prop) (G : Nat → AHeap A → List AVal → (List AVal → AHeap A → Prop) → Prop) (a0 a1 : AVal) (h : AHeap A) (K : AVal → AHeap A → Prop) : funP Try.prog S G Try.f38 .leaf [a0, a1] h K = p_book_Book_Term S G a0 a1 h K := by kernel_rfl
theorem c_book_Book_Term {R : Adts A} {h : AHeap A} {K : AVal → AHeap A → Prop} {a0 a1 : AVal} (hk : p_book_Book_Term (Tri Pr R) (Gives Pr R) a0 a1 h K) : Tri Pr R n_book_Book_Term [a0, a1] h K :=
  tri_of_funP (by kernel_rfl) (fun _ _ _ _ h => h) (fun _ _ _ _ h => h) Try.func38 (by rw [q_book_Book_Term]; exact hk)
/-- bastion/field.Num -/
def p_field_Num (S : FuncId → List AVal → AHeap A → (AVal → AHeap A → Prop) → Prop) (G : Nat → AHeap A → List AVal → (List AVal → AHeap A → Prop) → Prop) (a0 : AVal) (h : AHeap A) (K : AVal → AHeap A → Prop) : Prop :=
 S n_field_NumMay [a0] h fun v1 h =>
 notP v1 fun v2 =>
 iteP v2
 (K (.tup [.str [], .int .i64 100]) h)
 (S n_field_width [a0] h fun v3 h =>
 cviP .u8 v3 fun v4 =>
 bslP t_uint8 1 [.int .u8 0] [(0, 1, v4)] h fun v5 h =>
 joinP G h.length (fun k6 =>
 joinP G h.length (fun k7 =>
 joinP G h.length (fun k8 =>
 joinP G h.length (fun k9 =>
 binP .eql .other v3 (.int .i64 4) fun v10 =>
 iteP v10
 (binP .shr .other a0 (.int .u64 24) fun v11 =>
 cviP .u8 v11 fun v12 =>
 bslP t_uint8 1 [.int .u8 0] [(0, 1, v12)] h fun v13 h =>
 appP t_uint8 1 1 v5 v13 h fun v14 h =>
 k9 [v14] h)
 (binP .eql .other v3 (.int .i64 3) fun v15 =>
 iteP v15
 (k9 [v5] h)
 (binP .eql .other v3 (.int .i64 2) fun v16 =>
 iteP v16
 (k8 [v5] h)
 (binP .eql .other v3 (.int .i64 1) fun v17 =>
 iteP v17
 (k7 [v5] h)
 (k6 [v5] h)))))
 (fun v23 h =>
 (fun v18 =>
 binP .shr .other a0 (.int .u64 16) fun v19 =>
 cviP .u8 v19 fun v20 =>
 bslP t_uint8 1 [.int .u8 0] [(0, 1, v20)] h fun v21 h =>
 appP t_uint8 1 1 v18 v21 h fun v22 h =>
 k8 [v22] h) (v23.getD 0 .any)))
 (fun v29 h =>
 (fun v24 =>
 binP .shr .other a0 (.int .u64 8) fun v25 =>
 cviP .u8 v25 fun v26 =>
 bslP t_uint8 1 [.int .u8 0] [(0, 1, v26)] h fun v27 h =>
 appP t_uint8 1 1 v24 v27 h fun v28 h =>
 k7 [v28] h) (v29.getD 0 .any)))
 (fun v34 h =>
 (fun v30 =>
 cviP .u8 a0 fun v31 =>
 bslP t_uint8 1 [.int .u8 0] [(0, 1, v31)] h fun v32 h =>
 appP t_uint8 1 1 v30 v32 h fun v33 h =>
 k6 [v33] h) (v34.getD 0 .any)))
 (fun v37 h =>
 (fun v35 =>
 b2sP v35 h fun v36 =>
 K (.tup [v36, .int .i64 0]) h) (v37.getD 0 .any)))
theorem q_field_Num (S : FuncId → List AVal → AHeap A → (AVal → AHeap A → Prop) → Prop) (G : Nat → AHeap A → List AVal → (List AVal → AHeap A → Prop) → Prop) (a0 : AVal) (h : AHeap A) (K : AVal → AHeap A → Prop) : funP Try.prog S G Try.f39 (.two none .leaf (.two none .leaf (.two none .leaf (.two none .leaf (.two (some [5]) (.two none .leaf (.one [] (.two (some [5]) (.one [] (.two (some [5]) (.one [] (.two (some [5]) .leaf .leaf)) .leaf)) .leaf))) .leaf))))) [a0] h K = p_field_Num S G a0 h K := by kernel_rfl
theorem c_field_Num {R : Adts A} {h : AHeap A} {K : AVal → AHeap A → Prop} {a0 : AVal} (hk : p_field_Num (Tri Pr R) (Gives Pr R) a0 h K) : Tri Pr R n_field_Num [a0] h K :=
  tri_of_funP (by kernel_rfl) (fun _ _ _ _ h => h) (fun _ _ _ _ h => h) Try.func39 (by rw [q_field_Num]; exact hk)
/-- bastion/ring.term -/
def p_ring_term (S : FuncId → List AVal → AHeap A → (AVal → AHeap A → Prop) → Prop) (G : Nat → AHeap A → List AVal → (List AVal → AHeap A → Prop) → Prop) (a0 : AVal) (h : AHeap A) (K : AVal → AHeap A → Prop) : Prop :=
 S n_field_Num [a0] h fun v1 h =>
 extP v1 0 fun v2 =>
 extP v1 1 fun v3 =>
 binP .add .other (.str [101, 112, 111, 99, 104]) v2 fun v4 =>
 binP .eql .other v3 (.int .i64 0) fun v5 =>
 K (.tup [v4, v5]) h
theorem q_ring_term (S : FuncId → List AVal → AHeap A → (AVal → AHeap A → Prop) → Prop) (G : Nat → AHeap A → List AVal → (List AVal → AHeap A → Prop) → Prop) (a0 : AVal) (h : AHeap A) (K : AVal → AHeap A → Prop) : funP Try.prog S G Try.f40 .leaf [a0] h K = p_ring_term S G a0 h K := by kernel_rfl
theorem c_ring_term {R : Adts A} {h : AHeap A} {K : AVal → AHeap A → Prop} {a0 : AVal} (hk : p_ring_term (Tri Pr R) (Gives Pr R) a0 h K) : Tri Pr R n_ring_term [a0] h K :=
  tri_of_funP (by kernel_rfl) (fun _ _ _ _ h => h) (fun _ _ _ _ h => h) Try.func40 (by rw [q_ring_term]; exact hk)
/-- bastion/craft.Atom -/
def p_craft_Atom (S : FuncId → List AVal → AHeap A → (AVal → AHeap A → Prop) → Prop) (G : Nat → AHeap A → List AVal → (List AVal → AHeap A → Prop) → Prop) (a0 a1 : AVal) (h : AHeap A) (K : AVal → AHeap A → Prop) : Prop :=
 binP .add .other (.str [65]) a1 fun v1 =>
 S n_craft_named [a0, v1, .bool true] h fun v2 h =>
 extP v2 0 fun v3 =>
 extP v2 1 fun v4 =>
 K (.tup [v3, v4]) h
theorem q_craft_Atom (S : FuncId → List AVal → AHeap A → (AVal → AHeap A → Prop) → Prop) (G : Nat → AHeap A → List AVal → (List AVal → AHeap A → Prop) → Prop) (a0 a1 : AVal) (h : AHeap A) (K : AVal → AHeap A → Prop) : funP Try.prog S G Try.f41 .leaf [a0, a1] h K = p_craft_Atom S G a0 a1 h K := by kernel_rfl
theorem c_craft_Atom {R : Adts A} {h : AHeap A} {K : AVal → AHeap A → Prop} {a0 a1 : AVal} (hk : p_craft_Atom (Tri Pr R) (Gives Pr R) a0 a1 h K) : Tri Pr R n_craft_Atom [a0, a1] h K :=
  tri_of_funP (by kernel_rfl) (fun _ _ _ _ h => h) (fun _ _ _ _ h => h) Try.func41 (by rw [q_craft_Atom]; exact hk)
/-- bastion/craft.keyed -/
def p_craft_keyed (S : FuncId → List AVal → AHeap A → (AVal → AHeap A → Prop) → Prop) (G : Nat → AHeap A → List AVal → (List AVal → AHeap A → Prop) → Prop) (a0 a1 : AVal) (h : AHeap A) (K : AVal → AHeap A → Prop) : Prop :=
 S n_field_Num [a1] h fun v1 h =>
 extP v1 0 fun v2 =>
 extP v1 1 fun v3 =>
 binP .add .other a0 v2 fun v4 =>
 binP .eql .other v3 (.int .i64 0) fun v5 =>
 K (.tup [v4, v5]) h
theorem q_craft_keyed (S : FuncId → List AVal → AHeap A → (AVal → AHeap A → Prop) → Prop) (G : Nat → AHeap A → List AVal → (List AVal → AHeap A → Prop) → Prop) (a0 a1 : AVal) (h : AHeap A) (K : AVal → AHeap A → Prop) : funP Try.prog S G Try.f42 .leaf [a0, a1] h K = p_craft_keyed S G a0 a1 h K := by kernel_rfl
theorem c_craft_keyed {R : Adts A} {h : AHeap A} {K : AVal → AHeap A → Prop} {a0 a1 : AVal} (hk : p_craft_keyed (Tri Pr R) (Gives Pr R) a0 a1 h K) : Tri Pr R n_craft_keyed [a0, a1] h K :=
  tri_of_funP (by kernel_rfl) (fun _ _ _ _ h => h) (fun _ _ _ _ h => h) Try.func42 (by rw [q_craft_keyed]; exact hk)
/-- bastion/craft.named -/
def p_craft_named (S : FuncId → List AVal → AHeap A → (AVal → AHeap A → Prop) → Prop) (G : Nat → AHeap A → List AVal → (List AVal → AHeap A → Prop) → Prop) (a0 a1 a2 : AVal) (h : AHeap A) (K : AVal → AHeap A → Prop) : Prop :=
 binP .eql .ptr a0 .nilp fun v1 =>
 iteP v1
 (K (.tup [.int .i64 0, .int .i64 1]) h)
 (notP a2 fun v2 =>
 iteP v2
 (K (.tup [.int .i64 0, .int .i64 300]) h)
 (S n_book_Book_Name [a0, a1] h fun v3 h =>
 extP v3 0 fun v4 =>
 extP v3 1 fun v5 =>
 binP .neq .other v5 (.int .i64 0) fun v6 =>
 iteP v6
 (K (.tup [.int .i64 0, .int .i64 300]) h)
 (K (.tup [v4, .int .i64 0]) h)))
theorem q_craft_named (S : FuncId → List AVal → AHeap A → (AVal → AHeap A → Prop) → Prop) (G : Nat → AHeap A → List AVal → (List AVal → AHeap A → Prop) → Prop) (a0 a1 a2 : AVal) (h : AHeap A) (K : AVal → AHeap A → Prop) : funP Try.prog S G Try.f43 .leaf [a0, a1, a2] h K = p_craft_named S G a0 a1 a2 h K := by kernel_rfl
theorem c_craft_named {R : Adts A} {h : AHeap A} {K : AVal → AHeap A → Prop} {a0 a1 a2 : AVal} (hk : p_craft_named (Tri Pr R) (Gives Pr R) a0 a1 a2 h K) : Tri Pr R n_craft_named [a0, a1, a2] h K :=
  tri_of_funP (by kernel_rfl) (fun _ _ _ _ h => h) (fun _ _ _ _ h => h) Try.func43 (by rw [q_craft_named]; exact hk)
/-- bastion/ring.Find -/
def p_ring_Find (S : FuncId → List AVal → AHeap A → (AVal → AHeap A → Prop) → Prop) (G : Nat → AHeap A → List AVal → (List AVal → AHeap A → Prop) → Prop) (a0 a1 : AVal) (h : AHeap A) (K : AVal → AHeap A → Prop) : Prop :=
 S n_ring_term [a1] h fun v1 h =>
 extP v1 0 fun v2 =>
 extP v1 1 fun v3 =>
 notP v3 fun v4 =>
 iteP v4
 (K (.tup [.int .i64 0, .bool false]) h)
 (S n_craft_FindAtom [a0, v2] h fun v5 h =>
 extP v5 0 fun v6 =>
 extP v5 1 fun v7 =>
 K (.tup [v6, v7]) h)
theorem q_ring_Find (S : FuncId → List AVal → AHeap A → (AVal → AHeap A → Prop) → Prop) (G : Nat → AHeap A → List AVal → (List AVal → AHeap A → Prop) → Prop) (a0 a1 : AVal) (h : AHeap A) (K : AVal → AHeap A → Prop) : funP Try.prog S G Try.f44 .leaf [a0, a1] h K = p_ring_Find S G a0 a1 h K := by kernel_rfl
theorem c_ring_Find {R : Adts A} {h : AHeap A} {K : AVal → AHeap A → Prop} {a0 a1 : AVal} (hk : p_ring_Find (Tri Pr R) (Gives Pr R) a0 a1 h K) : Tri Pr R n_ring_Find [a0, a1] h K :=
  tri_of_funP (by kernel_rfl) (fun _ _ _ _ h => h) (fun _ _ _ _ h => h) Try.func44 (by rw [q_ring_Find]; exact hk)
/-- bastion/craft.Open -/
def p_craft_Open (S : FuncId → List AVal → AHeap A → (AVal → AHeap A → Prop) → Prop) (G : Nat → AHeap A → List AVal → (List AVal → AHeap A → Prop) → Prop) (a0 a1 a2 : AVal) (h : AHeap A) (K : AVal → AHeap A → Prop) : Prop :=
 binP .eql .ptr a0 .nilp fun v1 =>
 iteP v1
 (K (.tup [.str [], .int .i64 1]) h)
 (S n_craft_keyed [.str [83], a1] h fun v2 h =>
 extP v2 0 fun v3 =>
 extP v2 1 fun v4 =>
 S n_book_Book_Term [a0, a2] h fun v5 h =>
 extP v5 0 fun v6 =>
 extP v5 1 fun v7 =>
 notP v4 fun v8 =>
 condP v8 false (fun k9 =>
 binP .neq .other v7 (.int .i64 0) fun v10 =>
 k9 v10 h)
 (.bool true) h fun v11 h =>
 condP v11 false (fun k12 =>
 S n_strings_HasPrefix [v6, v3] h fun v13 h =>
 notP v13 fun v14 =>
 k12 v14 h)
 (.bool true) h fun v15 h =>
 iteP v15
 (K (.tup [.str [], .int .i64 301]) h)
 (lnsP v3 fun v16 =>
 subP v6 (some v16) none fun v17 =>
 K (.tup [v17, .int .i64 0]) h))
theorem q_craft_Open (S : FuncId → List AVal → AHeap A → (AVal → AHeap A → Prop) → Prop) (G : Nat → AHeap A → List AVal → (List AVal → AHeap A → Prop) → Prop) (a0 a1 a2 : AVal) (h : AHeap A) (K : AVal → AHeap A → Prop) : funP Try.prog S G Try.f45 .leaf [a0, a1, a2] h K = p_craft_Open S G a0 a1 a2 h K := by kernel_rfl
theorem c_craft_Open {R : Adts A} {h : AHeap A} {K : AVal → AHeap A → Prop} {a0 a1 a2 : AVal} (hk : p_craft_Open (Tri Pr R) (Gives Pr R) a0 a1 a2 h K) : Tri Pr R n_craft_Open [a0, a1, a2] h K :=
  tri_of_funP (by kernel_rfl) (fun _ _ _ _ h => h) (fun _ _ _ _ h => h) Try.func45 (by rw [q_craft_Open]; exact hk)
end Go.AI
