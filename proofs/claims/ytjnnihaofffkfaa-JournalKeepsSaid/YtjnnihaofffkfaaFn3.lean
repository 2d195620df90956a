/- The functions as texts over the abstract heap. -/
import Derived.Test.YtjnnihaofffkfaaNm
import Derived.KernelRfl
set_option linter.all false
namespace Go.AI
open Go.Proofs
set_option maxRecDepth 1000000
variable {A : Type}
/-- (*bastion/bastionref1.Book).Find -/
def p_ref1_Book_Find (S : FuncId → List AVal → AHeap A → (AVal → AHeap A → Prop) → Prop) (G : Nat → AHeap A → List AVal → (List AVal → AHeap A → Prop) → Prop) (a0 a1 : AVal) (h : AHeap A) (K : AVal → AHeap A → Prop) : Prop :=
 loopP G (fun v15 h k2 =>
 (fun v1 =>
 nilP a0 fun v3 =>
 fadP 1 v3 fun v4 =>
 ldP 1 false v4 h fun v5 =>
 lenP v5 fun v6 =>
 binP .lss .other v1 v6 fun v7 =>
 iteP v7
 (nilP a0 fun v8 =>
 fadP 1 v8 fun v9 =>
 ldP 1 false v9 h fun v10 =>
 idxP 1 v10 v1 fun v11 =>
 ldP 1 false v11 h fun v12 =>
 binP .eql .other v12 a1 fun v13 =>
 iteP v13
 (K (.tup [v1, .bool true]) h)
 (binP .add .other v1 (.int .i64 1) fun v14 =>
 k2 [v14] h))
 (K (.tup [.int .i64 0, .bool false]) h)) (v15.getD 0 .any)) [.int .i64 0] h
theorem q_ref1_Book_Find (S : FuncId → List AVal → AHeap A → (AVal → AHeap A → Prop) → Prop) (G : Nat → AHeap A → List AVal → (List AVal → AHeap A → Prop) → Prop) (a0 a1 : AVal) (h : AHeap A) (K : AVal → AHeap A → Prop) : funP Try.prog S G Try.f43 (.two none .leaf (.two none (.two none .leaf (.one [] (.one [6] .leaf))) .leaf)) [a0, a1] h K = p_ref1_Book_Find S G a0 a1 h K := by kernel_rfl
theorem c_ref1_Book_Find {R : Adts A} {h : AHeap A} {K : AVal → AHeap A → Prop} {a0 a1 : AVal} (hk : p_ref1_Book_Find (Tri Pr R) (Gives Pr R) a0 a1 h K) : Tri Pr R n_ref1_Book_Find [a0, a1] h K :=
  tri_of_funP (by kernel_rfl) (fun _ _ _ _ h => h) (fun _ _ _ _ h => h) Try.func43 (by rw [q_ref1_Book_Find]; exact hk)
/-- (*bastion/bastionref1.Reader).Num -/
def p_ref1_Reader_Num (S : FuncId → List AVal → AHeap A → (AVal → AHeap A → Prop) → Prop) (G : Nat → AHeap A → List AVal → (List AVal → AHeap A → Prop) → Prop) (a0 : AVal) (h : AHeap A) (K : AVal → AHeap A → Prop) : Prop :=
 nilP a0 fun v1 =>
 fadP 0 v1 fun v2 =>
 nilP a0 fun v3 =>
 fadP 1 v3 fun v4 =>
 ldP 1 false v2 h fun v5 =>
 ldP 1 false v4 h fun v6 =>
 ldV 1 false v2 h = some v5 ∧
 S n_ref1_GetNum [v5, v6] h fun v7 h =>
 extP v7 0 fun v8 =>
 extP v7 1 fun v9 =>
 extP v7 2 fun v10 =>
 nilP a0 fun v11 =>
 fadP 2 v11 fun v12 =>
 ldP 1 false v12 h fun v13 =>
 condP v13 false (fun k14 =>
 binP .neq .other v10 (.int .i64 0) fun v15 =>
 k14 v15 h)
 (.bool true) h fun v16 h =>
 iteP v16
 (nilP a0 fun v17 =>
 fadP 2 v17 fun v18 =>
 stP 1 v18 (.bool true) h fun h =>
 K (.int .i64 0) h)
 (nilP a0 fun v19 =>
 fadP 1 v19 fun v20 =>
 stP 1 v20 v9 h fun h =>
 K v8 h)
theorem q_ref1_Reader_Num (S : FuncId → List AVal → AHeap A → (AVal → AHeap A → Prop) → Prop) (G : Nat → AHeap A → List AVal → (List AVal → AHeap A → Prop) → Prop) (a0 : AVal) (h : AHeap A) (K : AVal → AHeap A → Prop) : funP Try.prog S G Try.f44 (.two none .leaf (.two none (.draw none (.take 0 (.take 1 (.take 2 (.take 4 (.take 5 (.take 6 (.load 3 (.alt 7 (.alt 8 (.take 9 (.take 10 (.take 11 (.take 12 (.take 13 (.take 14 (.take 15 .stop))))))) .stop) .stop))))))))) .leaf)) [a0] h K = p_ref1_Reader_Num S G a0 h K := by kernel_rfl
theorem c_ref1_Reader_Num {R : Adts A} {h : AHeap A} {K : AVal → AHeap A → Prop} {a0 : AVal} (hk : p_ref1_Reader_Num (Tri Pr R) (Gives Pr R) a0 h K) : Tri Pr R n_ref1_Reader_Num [a0] h K :=
  tri_of_funP (by kernel_rfl) (fun _ _ _ _ h => h) (fun _ _ _ _ h => h) Try.func44 (by rw [q_ref1_Reader_Num]; exact hk)
/-- (*bastion/bastionref1.Reader).Text -/
def p_ref1_Reader_Text (S : FuncId → List AVal → AHeap A → (AVal → AHeap A → Prop) → Prop) (G : Nat → AHeap A → List AVal → (List AVal → AHeap A → Prop) → Prop) (a0 : AVal) (h : AHeap A) (K : AVal → AHeap A → Prop) : Prop :=
 nilP a0 fun v1 =>
 fadP 0 v1 fun v2 =>
 nilP a0 fun v3 =>
 fadP 1 v3 fun v4 =>
 ldP 1 false v2 h fun v5 =>
 ldP 1 false v4 h fun v6 =>
 ldV 1 false v2 h = some v5 ∧
 S n_ref1_GetText [v5, v6] h fun v7 h =>
 extP v7 0 fun v8 =>
 extP v7 1 fun v9 =>
 extP v7 2 fun v10 =>
 nilP a0 fun v11 =>
 fadP 2 v11 fun v12 =>
 ldP 1 false v12 h fun v13 =>
 condP v13 false (fun k14 =>
 binP .neq .other v10 (.int .i64 0) fun v15 =>
 k14 v15 h)
 (.bool true) h fun v16 h =>
 iteP v16
 (nilP a0 fun v17 =>
 fadP 2 v17 fun v18 =>
 stP 1 v18 (.bool true) h fun h =>
 K (.str []) h)
 (nilP a0 fun v19 =>
 fadP 1 v19 fun v20 =>
 stP 1 v20 v9 h fun h =>
 K v8 h)
theorem q_ref1_Reader_Text (S : FuncId → List AVal → AHeap A → (AVal → AHeap A → Prop) → Prop) (G : Nat → AHeap A → List AVal → (List AVal → AHeap A → Prop) → Prop) (a0 : AVal) (h : AHeap A) (K : AVal → AHeap A → Prop) : funP Try.prog S G Try.f45 (.two none .leaf (.two none (.draw none (.take 0 (.take 1 (.take 2 (.take 4 (.take 5 (.take 6 (.load 3 (.alt 7 (.alt 8 (.take 9 (.take 10 (.take 11 (.take 12 (.take 13 (.take 14 (.take 15 .stop))))))) .stop) .stop))))))))) .leaf)) [a0] h K = p_ref1_Reader_Text S G a0 h K := by kernel_rfl
theorem c_ref1_Reader_Text {R : Adts A} {h : AHeap A} {K : AVal → AHeap A → Prop} {a0 : AVal} (hk : p_ref1_Reader_Text (Tri Pr R) (Gives Pr R) a0 h K) : Tri Pr R n_ref1_Reader_Text [a0] h K :=
  tri_of_funP (by kernel_rfl) (fun _ _ _ _ h => h) (fun _ _ _ _ h => h) Try.func45 (by rw [q_ref1_Reader_Text]; exact hk)
/-- bastion/bastionref1.GetEvent -/
def p_ref1_GetEvent (S : FuncId → List AVal → AHeap A → (AVal → AHeap A → Prop) → Prop) (G : Nat → AHeap A → List AVal → (List AVal → AHeap A → Prop) → Prop) (a0 : AVal) (h : AHeap A) (K : AVal → AHeap A → Prop) : Prop :=
 newP t_api_Event [.int .i64 0, .int .i64 0, .int .i64 0, .int .i64 0, .int .i64 0, .int .i64 0, .int .i64 0, .int .i64 0] h fun v1 h =>
 bldP [.str [], .int .i64 0, .bool false] [(0, 1, a0)] fun v2 =>
 boxP t_bastionref1_Reader 3 v2 h fun v3 h =>
 S n_ref1_Reader_Num [v3] h fun v4 h =>
 bldP [.int .i64 0, .int .i64 0, .int .i64 0, .int .i64 0, .int .i64 0, .int .i64 0, .int .i64 0, .int .i64 0] [(0, 1, v4)] fun v5 =>
 newP t_api_Event [.int .i64 0, .int .i64 0, .int .i64 0, .int .i64 0, .int .i64 0, .int .i64 0, .int .i64 0, .int .i64 0] h fun v6 h =>
 stP 8 v6 v5 h fun h =>
 joinP G h.length (fun k7 =>
 fadP 0 v6 fun v8 =>
 ldP 1 false v8 h fun v9 =>
 binP .eql .other v9 (.int .i64 0) fun v10 =>
 iteP v10
 (S n_ref1_Reader_Num [v3] h fun v11 h =>
 fadP 7 v6 fun v12 =>
 stP 1 v12 v11 h fun h =>
 k7 [] h)
 (binP .eql .other v9 (.int .i64 1) fun v13 =>
 iteP v13
 (S n_ref1_Reader_Num [v3] h fun v14 h =>
 fadP 1 v6 fun v15 =>
 stP 1 v15 v14 h fun h =>
 S n_ref1_Reader_Num [v3] h fun v16 h =>
 fadP 4 v6 fun v17 =>
 stP 1 v17 v16 h fun h =>
 S n_ref1_Reader_Num [v3] h fun v18 h =>
 fadP 5 v6 fun v19 =>
 stP 1 v19 v18 h fun h =>
 S n_ref1_Reader_Num [v3] h fun v20 h =>
 fadP 6 v6 fun v21 =>
 stP 1 v21 v20 h fun h =>
 k7 [] h)
 (binP .eql .other v9 (.int .i64 2) fun v22 =>
 iteP v22
 (S n_ref1_Reader_Num [v3] h fun v23 h =>
 fadP 1 v6 fun v24 =>
 stP 1 v24 v23 h fun h =>
 S n_ref1_Reader_Num [v3] h fun v25 h =>
 fadP 7 v6 fun v26 =>
 stP 1 v26 v25 h fun h =>
 k7 [] h)
 (binP .eql .other v9 (.int .i64 3) fun v27 =>
 iteP v27
 (S n_ref1_Reader_Num [v3] h fun v28 h =>
 fadP 1 v6 fun v29 =>
 stP 1 v29 v28 h fun h =>
 S n_ref1_Reader_Num [v3] h fun v30 h =>
 fadP 4 v6 fun v31 =>
 stP 1 v31 v30 h fun h =>
 k7 [] h)
 (joinP G h.length (fun k32 =>
 binP .eql .other v9 (.int .i64 4) fun v33 =>
 iteP v33
 (k32 [v33] h)
 (binP .eql .other v9 (.int .i64 7) fun v34 =>
 k32 [v34] h))
 (fun v59 h =>
 (fun v35 =>
 iteP v35
 (S n_ref1_Reader_Num [v3] h fun v36 h =>
 fadP 1 v6 fun v37 =>
 stP 1 v37 v36 h fun h =>
 k7 [] h)
 (binP .eql .other v9 (.int .i64 5) fun v38 =>
 iteP v38
 (S n_ref1_Reader_Num [v3] h fun v39 h =>
 fadP 2 v6 fun v40 =>
 stP 1 v40 v39 h fun h =>
 S n_ref1_Reader_Num [v3] h fun v41 h =>
 fadP 1 v6 fun v42 =>
 stP 1 v42 v41 h fun h =>
 S n_ref1_Reader_Num [v3] h fun v43 h =>
 fadP 3 v6 fun v44 =>
 stP 1 v44 v43 h fun h =>
 S n_ref1_Reader_Num [v3] h fun v45 h =>
 fadP 7 v6 fun v46 =>
 stP 1 v46 v45 h fun h =>
 k7 [] h)
 (binP .eql .other v9 (.int .i64 6) fun v47 =>
 iteP v47
 (S n_ref1_Reader_Num [v3] h fun v48 h =>
 fadP 2 v6 fun v49 =>
 stP 1 v49 v48 h fun h =>
 S n_ref1_Reader_Num [v3] h fun v50 h =>
 fadP 4 v6 fun v51 =>
 stP 1 v51 v50 h fun h =>
 S n_ref1_Reader_Num [v3] h fun v52 h =>
 fadP 5 v6 fun v53 =>
 stP 1 v53 v52 h fun h =>
 S n_ref1_Reader_Num [v3] h fun v54 h =>
 fadP 7 v6 fun v55 =>
 stP 1 v55 v54 h fun h =>
 k7 [] h)
 (binP .eql .other v9 (.int .i64 9) fun v56 =>
 iteP v56
 (S n_ref1_Reader_Num [v3] h fun v57 h =>
 fadP 2 v6 fun v58 =>
 stP 1 v58 v57 h fun h =>
 k7 [] h)
 (k7 [] h))))) (v59.getD 0 .any)))))))
 (fun _ h =>
 nilP v3 fun v60 =>
 fadP 2 v60 fun v61 =>
 ldP 1 false v61 h fun v62 =>
 condP v62 false (fun k63 =>
 nilP v3 fun v64 =>
 fadP 1 v64 fun v65 =>
 ldP 1 false v65 h fun v66 =>
 lnsP a0 fun v67 =>
 binP .neq .other v66 v67 fun v68 =>
 k63 v68 h)
 (.bool true) h fun v69 h =>
 condP v69 false (fun k70 =>
 ldP 8 true v6 h fun v71 =>
 S n_ref1_EventMay [v71] h fun v72 h =>
 notP v72 fun v73 =>
 k70 v73 h)
 (.bool true) h fun v74 h =>
 iteP v74
 (bldP [.int .i64 0, .int .i64 0, .int .i64 0, .int .i64 0, .int .i64 0, .int .i64 0, .int .i64 0, .int .i64 0] [] fun v75 =>
 stP 8 v1 v75 h fun h =>
 ldP 8 true v1 h fun v76 =>
 K (.tup [v76, .int .i64 700]) h)
 (ldP 8 true v6 h fun v77 =>
 stP 8 v1 v77 h fun h =>
 ldP 8 true v1 h fun v78 =>
 K (.tup [v78, .int .i64 0]) h))
theorem q_ref1_GetEvent (S : FuncId → List AVal → AHeap A → (AVal → AHeap A → Prop) → Prop) (G : Nat → AHeap A → List AVal → (List AVal → AHeap A → Prop) → Prop) (a0 : AVal) (h : AHeap A) (K : AVal → AHeap A → Prop) : funP Try.prog S G Try.f46 (.two none .leaf (.two none .leaf (.two none .leaf (.two (some []) (.two none .leaf (.one [] (.two none .leaf (.two none .leaf (.two none .leaf (.two none .leaf (.two none .leaf (.two none .leaf (.two none .leaf (.two none .leaf (.two (some [49]) .leaf .leaf))))))))))) .leaf)))) [a0] h K = p_ref1_GetEvent S G a0 h K := by kernel_rfl
theorem c_ref1_GetEvent {R : Adts A} {h : AHeap A} {K : AVal → AHeap A → Prop} {a0 : AVal} (hk : p_ref1_GetEvent (Tri Pr R) (Gives Pr R) a0 h K) : Tri Pr R n_ref1_GetEvent [a0] h K :=
  tri_of_funP (by kernel_rfl) (fun _ _ _ _ h => h) (fun _ _ _ _ h => h) Try.func46 (by rw [q_ref1_GetEvent]; exact hk)
/-- bastion/bastionref1.IsHash -/
def p_ref1_IsHash (S : FuncId → List AVal → AHeap A → (AVal → AHeap A → Prop) → Prop) (G : Nat → AHeap A → List AVal → (List AVal → AHeap A → Prop) → Prop) (a0 a1 a2 : AVal) (h : AHeap A) (K : AVal → AHeap A → Prop) : Prop :=
 binP .add .other (.str [72]) a1 fun v1 =>
 S n_ref1_Book_Find [a0, v1] h fun v2 h =>
 extP v2 0 fun v3 =>
 extP v2 1 fun v4 =>
 condP v4 true (fun k5 =>
 binP .eql .other v3 a2 fun v6 =>
 k5 v6 h)
 (.bool false) h fun v7 h =>
 K v7 h
theorem q_ref1_IsHash (S : FuncId → List AVal → AHeap A → (AVal → AHeap A → Prop) → Prop) (G : Nat → AHeap A → List AVal → (List AVal → AHeap A → Prop) → Prop) (a0 a1 a2 : AVal) (h : AHeap A) (K : AVal → AHeap A → Prop) : funP Try.prog S G Try.f47 .leaf [a0, a1, a2] h K = p_ref1_IsHash S G a0 a1 a2 h K := by kernel_rfl
theorem c_ref1_IsHash {R : Adts A} {h : AHeap A} {K : AVal → AHeap A → Prop} {a0 a1 a2 : AVal} (hk : p_ref1_IsHash (Tri Pr R) (Gives Pr R) a0 a1 a2 h K) : Tri Pr R n_ref1_IsHash [a0, a1, a2] h K :=
  tri_of_funP (by kernel_rfl) (fun _ _ _ _ h => h) (fun _ _ _ _ h => h) Try.func47 (by rw [q_ref1_IsHash]; exact hk)
/-- bastion/super.Pick -/
def p_super_Pick (S : FuncId → List AVal → AHeap A → (AVal → AHeap A → Prop) → Prop) (G : Nat → AHeap A → List AVal → (List AVal → AHeap A → Prop) → Prop) (a0 a1 a2 : AVal) (h : AHeap A) (K : AVal → AHeap A → Prop) : Prop :=
 binP .eql .ptr a0 .nilp fun v1 =>
 iteP v1
 (K (.tup [.int .i64 0, .int .i64 0, .int .i64 1]) h)
 (S n_super_Get [a0, a1] h fun v2 h =>
 extP v2 0 fun v3 =>
 extP v2 1 fun v4 =>
 S n_super_Get [a0, a2] h fun v5 h =>
 extP v5 0 fun v6 =>
 extP v5 1 fun v7 =>
 binP .neq .other v4 (.int .i64 0) fun v8 =>
 condP v8 true (fun k9 =>
 binP .neq .other v7 (.int .i64 0) fun v10 =>
 k9 v10 h)
 (.bool false) h fun v11 h =>
 iteP v11
 (K (.tup [.int .i64 0, .int .i64 0, .int .i64 1001]) h)
 (binP .eql .other v4 (.int .i64 0) fun v12 =>
 condP v12 true (fun k13 =>
 binP .geq .other v3 v6 fun v14 =>
 k13 v14 h)
 (.bool false) h fun v15 h =>
 iteP v15
 (K (.tup [v3, .int .i64 1, .int .i64 0]) h)
 (K (.tup [v6, .int .i64 0, .int .i64 0]) h)))
theorem q_super_Pick (S : FuncId → List AVal → AHeap A → (AVal → AHeap A → Prop) → Prop) (G : Nat → AHeap A → List AVal → (List AVal → AHeap A → Prop) → Prop) (a0 a1 a2 : AVal) (h : AHeap A) (K : AVal → AHeap A → Prop) : funP Try.prog S G Try.f48 .leaf [a0, a1, a2] h K = p_super_Pick S G a0 a1 a2 h K := by kernel_rfl
theorem c_super_Pick {R : Adts A} {h : AHeap A} {K : AVal → AHeap A → Prop} {a0 a1 a2 : AVal} (hk : p_super_Pick (Tri Pr R) (Gives Pr R) a0 a1 a2 h K) : Tri Pr R n_super_Pick [a0, a1, a2] h K :=
  tri_of_funP (by kernel_rfl) (fun _ _ _ _ h => h) (fun _ _ _ _ h => h) Try.func48 (by rw [q_super_Pick]; exact hk)
/-- bastion/super.Put -/
def p_super_Put (S : FuncId → List AVal → AHeap A → (AVal → AHeap A → Prop) → Prop) (G : Nat → AHeap A → List AVal → (List AVal → AHeap A → Prop) → Prop) (a0 a1 : AVal) (h : AHeap A) (K : AVal → AHeap A → Prop) : Prop :=
 binP .eql .ptr a0 .nilp fun v1 =>
 iteP v1
 (K (.tup [.str [], .int .i64 1]) h)
 (S n_super_may [a1] h fun v2 h =>
 notP v2 fun v3 =>
 iteP v3
 (K (.tup [.str [], .int .i64 1000]) h)
 (S n_field_Num [a1] h fun v4 h =>
 extP v4 0 fun v5 =>
 extP v4 1 fun v6 =>
 binP .add .other (.str [115, 117, 112, 101, 114]) v5 fun v7 =>
 S n_craft_Hash [a0, v7] h fun v8 h =>
 extP v8 0 fun v9 =>
 extP v8 1 fun v10 =>
 binP .neq .other v10 (.int .i64 0) fun v11 =>
 iteP v11
 (K (.tup [.str [], .int .i64 1000]) h)
 (S n_field_Num [v9] h fun v12 h =>
 extP v12 0 fun v13 =>
 extP v12 1 fun v14 =>
 binP .add .other v5 v13 fun v15 =>
 S n_record_Fill [v15] h fun v16 h =>
 extP v16 0 fun v17 =>
 extP v16 1 fun v18 =>
 K (.tup [v17, .int .i64 0]) h)))
theorem q_super_Put (S : FuncId → List AVal → AHeap A → (AVal → AHeap A → Prop) → Prop) (G : Nat → AHeap A → List AVal → (List AVal → AHeap A → Prop) → Prop) (a0 a1 : AVal) (h : AHeap A) (K : AVal → AHeap A → Prop) : funP Try.prog S G Try.f49 .leaf [a0, a1] h K = p_super_Put S G a0 a1 h K := by kernel_rfl
theorem c_super_Put {R : Adts A} {h : AHeap A} {K : AVal → AHeap A → Prop} {a0 a1 : AVal} (hk : p_super_Put (Tri Pr R) (Gives Pr R) a0 a1 h K) : Tri Pr R n_super_Put [a0, a1] h K :=
  tri_of_funP (by kernel_rfl) (fun _ _ _ _ h => h) (fun _ _ _ _ h => h) Try.func49 (by rw [q_super_Put]; exact hk)
/-- bastion/record.Get -/
def p_record_Get (S : FuncId → List AVal → AHeap A → (AVal → AHeap A → Prop) → Prop) (G : Nat → AHeap A → List AVal → (List AVal → AHeap A → Prop) → Prop) (a0 a1 a2 a3 : AVal) (h : AHeap A) (K : AVal → AHeap A → Prop) : Prop :=
 newP t_api_Record (reps 11 (.int .i64 0)) h fun v1 h =>
 binP .eql .ptr a0 .nilp fun v2 =>
 iteP v2
 (bldP [.int .i64 0, .int .i64 0, .int .i64 0, .int .i64 0, .int .i64 0, .int .i64 0, .int .i64 0, .int .i64 0, .int .i64 0, .int .i64 0, .int .i64 0] [] fun v3 =>
 stP 11 v1 v3 h fun h =>
 ldP 11 true v1 h fun v4 =>
 K (.tup [v4, .int .i64 0, .int .i64 1]) h)
 (S n_record_read [a0, a1] h fun v5 h =>
 extP v5 0 fun v6 =>
 extP v5 1 fun v7 =>
 extP v5 2 fun v8 =>
 newP t_api_Record (reps 11 (.int .i64 0)) h fun v9 h =>
 stP 11 v9 v6 h fun h =>
 notP v8 fun v10 =>
 iteP v10
 (bldP [.int .i64 0, .int .i64 0, .int .i64 0, .int .i64 0, .int .i64 0, .int .i64 0, .int .i64 0, .int .i64 0, .int .i64 0, .int .i64 0, .int .i64 0] [] fun v11 =>
 stP 11 v1 v11 h fun h =>
 ldP 11 true v1 h fun v12 =>
 K (.tup [v12, .int .i64 0, .int .i64 900]) h)
 (fadP 0 v9 fun v13 =>
 ldP 1 false v13 h fun v14 =>
 binP .neq .other v14 a2 fun v15 =>
 condP v15 false (fun k16 =>
 fadP 2 v9 fun v17 =>
 ldP 1 false v17 h fun v18 =>
 binP .neq .other v18 a3 fun v19 =>
 k16 v19 h)
 (.bool true) h fun v20 h =>
 iteP v20
 (bldP [.int .i64 0, .int .i64 0, .int .i64 0, .int .i64 0, .int .i64 0, .int .i64 0, .int .i64 0, .int .i64 0, .int .i64 0, .int .i64 0, .int .i64 0] [] fun v21 =>
 stP 11 v1 v21 h fun h =>
 ldP 11 true v1 h fun v22 =>
 K (.tup [v22, .int .i64 0, .int .i64 901]) h)
 (ldP 11 true v9 h fun v23 =>
 stP 11 v1 v23 h fun h =>
 ldP 11 true v1 h fun v24 =>
 K (.tup [v24, v7, .int .i64 0]) h)))
theorem q_record_Get (S : FuncId → List AVal → AHeap A → (AVal → AHeap A → Prop) → Prop) (G : Nat → AHeap A → List AVal → (List AVal → AHeap A → Prop) → Prop) (a0 a1 a2 a3 : AVal) (h : AHeap A) (K : AVal → AHeap A → Prop) : funP Try.prog S G Try.f52 .leaf [a0, a1, a2, a3] h K = p_record_Get S G a0 a1 a2 a3 h K := by kernel_rfl
theorem c_record_Get {R : Adts A} {h : AHeap A} {K : AVal → AHeap A → Prop} {a0 a1 a2 a3 : AVal} (hk : p_record_Get (Tri Pr R) (Gives Pr R) a0 a1 a2 a3 h K) : Tri Pr R n_record_Get [a0, a1, a2, a3] h K :=
  tri_of_funP (by kernel_rfl) (fun _ _ _ _ h => h) (fun _ _ _ _ h => h) Try.func52 (by rw [q_record_Get]; exact hk)
/-- (*bastion/journal.Journal).written$1 -/
def p_journal_Journal_written_c1 (S : FuncId → List AVal → AHeap A → (AVal → AHeap A → Prop) → Prop) (G : Nat → AHeap A → List AVal → (List AVal → AHeap A → Prop) → Prop) (a0 : AVal) (h : AHeap A) (K : AVal → AHeap A → Prop) : Prop :=
 boxP t_api_Event 8 a0 h fun v1 h =>
 ldP 8 true v1 h fun v2 =>
 S n_event_May [v2] h fun v3 h =>
 notP v3 fun v4 =>
 K v4 h
theorem q_journal_Journal_written_c1 (S : FuncId → List AVal → AHeap A → (AVal → AHeap A → Prop) → Prop) (G : Nat → AHeap A → List AVal → (List AVal → AHeap A → Prop) → Prop) (a0 : AVal) (h : AHeap A) (K : AVal → AHeap A → Prop) : funP Try.prog S G Try.f53 .leaf [a0] h K = p_journal_Journal_written_c1 S G a0 h K := by kernel_rfl
theorem c_journal_Journal_written_c1 {R : Adts A} {h : AHeap A} {K : AVal → AHeap A → Prop} {a0 : AVal} (hk : p_journal_Journal_written_c1 (Tri Pr R) (Gives Pr R) a0 h K) : Tri Pr R n_journal_Journal_written_c1 [a0] h K :=
  tri_of_funP (by kernel_rfl) (fun _ _ _ _ h => h) (fun _ _ _ _ h => h) Try.func53 (by rw [q_journal_Journal_written_c1]; exact hk)
/-- bastion/event.May -/
def p_event_May (S : FuncId → List AVal → AHeap A → (AVal → AHeap A → Prop) → Prop) (G : Nat → AHeap A → List AVal → (List AVal → AHeap A → Prop) → Prop) (a0 : AVal) (h : AHeap A) (K : AVal → AHeap A → Prop) : Prop :=
 boxP t_api_Event 8 a0 h fun v1 h =>
 fadP 0 v1 fun v2 =>
 ldP 1 false v2 h fun v3 =>
 binP .lss .other v3 (.int .i64 0) fun v4 =>
 condP v4 false (fun k5 =>
 fadP 0 v1 fun v6 =>
 ldP 1 false v6 h fun v7 =>
 binP .gtr .other v7 (.int .i64 9) fun v8 =>
 k5 v8 h)
 (.bool true) h fun v9 h =>
 condP v9 false (fun k10 =>
 fadP 0 v1 fun v11 =>
 ldP 1 false v11 h fun v12 =>
 binP .eql .other v12 (.int .i64 6) fun v13 =>
 condP v13 true (fun k14 =>
 fadP 5 v1 fun v15 =>
 ldP 1 false v15 h fun v16 =>
 binP .gtr .other v16 (.int .i64 4) fun v17 =>
 k14 v17 h)
 (.bool false) h fun v18 h =>
 k10 v18 h)
 (.bool true) h fun v19 h =>
 iteP v19
 (K (.bool false) h)
 (S n_event_parts [v1] h fun v20 h =>
 lenP v20 fun v21 =>
 loopP G (fun v50 h k23 =>
 (fun v22 =>
 binP .lss .other v22 v21 fun v24 =>
 iteP v24
 (idxP 1 v20 v22 fun v25 =>
 ldP 1 false v25 h fun v26 =>
 nilP v26 fun v27 =>
 ldP 1 false v27 h fun v28 =>
 S n_field_NumMay [v28] h fun v29 h =>
 notP v29 fun v30 =>
 iteP v30
 (K (.bool false) h)
 (binP .add .other v22 (.int .i64 1) fun v31 =>
 k23 [v31] h))
 (joinP G h.length (fun k32 =>
 fadP 1 v1 fun v33 =>
 ldP 1 false v33 h fun v34 =>
 binP .lss .other v34 (.int .i64 8) fun v35 =>
 iteP v35
 (fadP 3 v1 fun v36 =>
 ldP 1 false v36 h fun v37 =>
 binP .lss .other v37 (.int .i64 16) fun v38 =>
 iteP v38
 (fadP 7 v1 fun v39 =>
 ldP 1 false v39 h fun v40 =>
 binP .leq .other v40 (.int .i64 1048575) fun v41 =>
 iteP v41
 (fadP 6 v1 fun v42 =>
 ldP 1 false v42 h fun v43 =>
 binP .leq .other v43 (.int .i64 1048576) fun v44 =>
 iteP v44
 (ldP 8 true v1 h fun v45 =>
 S n_event_plain [v1] h fun v46 h =>
 ldV 8 true v1 h = some v45 ∧
 binP .eql (.shape (.st [(0, 1, .i), (1, 1, .i), (2, 1, .i), (3, 1, .i), (4, 1, .i), (5, 1, .i), (6, 1, .i), (7, 1, .i)])) v45 v46 fun v47 =>
 k32 [v47] h)
 (k32 [.bool false] h))
 (k32 [.bool false] h))
 (k32 [.bool false] h))
 (k32 [.bool false] h))
 (fun v49 h =>
 (fun v48 =>
 K v48 h) (v49.getD 0 .any)))) (v50.getD 0 .any)) [.int .i64 0] h)
theorem q_event_May (S : FuncId → List AVal → AHeap A → (AVal → AHeap A → Prop) → Prop) (G : Nat → AHeap A → List AVal → (List AVal → AHeap A → Prop) → Prop) (a0 : AVal) (h : AHeap A) (K : AVal → AHeap A → Prop) : funP Try.prog S G Try.f54 (.two none .leaf (.two none .leaf (.two none (.two none .leaf (.one [] (.one [25] .leaf))) (.two none (.draw (some [2]) (.take 0 (.alt 1 (.take 2 (.take 3 (.split 3 (.take 4 (.alt 5 (.take 6 (.take 7 (.take 8 (.split 8 (.take 9 (.alt 10 (.take 11 (.take 12 (.take 13 (.split 13 (.take 14 (.alt 15 (.take 16 (.take 17 (.take 18 (.split 18 (.load 19 (.alt 20 (.take 21 (.take 22 (.take 23 .stop))) .stop)) (.skip 19 (.skip 20 (.skip 21 (.take 22 (.take 23 .stop))))))))) .stop)) (.skip 14 (.skip 15 (.skip 16 (.take 17 (.take 18 (.known 18 false (.skip 19 (.skip 20 (.skip 21 (.take 22 (.take 23 .stop))))))))))))))) .stop)) (.skip 9 (.skip 10 (.skip 11 (.take 12 (.take 13 (.known 13 false (.skip 14 (.skip 15 (.skip 16 (.take 17 (.take 18 (.known 18 false (.skip 19 (.skip 20 (.skip 21 (.take 22 (.take 23 .stop))))))))))))))))))))) .stop)) (.skip 4 (.skip 5 (.skip 6 (.take 7 (.take 8 (.known 8 false (.skip 9 (.skip 10 (.skip 11 (.take 12 (.take 13 (.known 13 false (.skip 14 (.skip 15 (.skip 16 (.take 17 (.take 18 (.known 18 false (.skip 19 (.skip 20 (.skip 21 (.take 22 (.take 23 .stop)))))))))))))))))))))))))) .stop))) .leaf)))) [a0] h K = p_event_May S G a0 h K := by kernel_rfl
theorem c_event_May {R : Adts A} {h : AHeap A} {K : AVal → AHeap A → Prop} {a0 : AVal} (hk : p_event_May (Tri Pr R) (Gives Pr R) a0 h K) : Tri Pr R n_event_May [a0] h K :=
  tri_of_funP (by kernel_rfl) (fun _ _ _ _ h => h) (fun _ _ _ _ h => h) Try.func54 (by rw [q_event_May]; exact hk)
/-- slices.ContainsFunc[[]bastion/api.Event,bastion/api.Event] -/
def p_slices_ContainsFunc_api_Event (S : FuncId → List AVal → AHeap A → (AVal → AHeap A → Prop) → Prop) (G : Nat → AHeap A → List AVal → (List AVal → AHeap A → Prop) → Prop) (a0 a1 : AVal) (h : AHeap A) (K : AVal → AHeap A → Prop) : Prop :=
 S n_slices_IndexFunc_api_Event [a0, a1] h fun v1 h =>
 binP .geq .other v1 (.int .i64 0) fun v2 =>
 K v2 h
theorem q_slices_ContainsFunc_api_Event (S : FuncId → List AVal → AHeap A → (AVal → AHeap A → Prop) → Prop) (G : Nat → AHeap A → List AVal → (List AVal → AHeap A → Prop) → Prop) (a0 a1 : AVal) (h : AHeap A) (K : AVal → AHeap A → Prop) : funP Try.prog S G Try.f55 .leaf [a0, a1] h K = p_slices_ContainsFunc_api_Event S G a0 a1 h K := by kernel_rfl
theorem c_slices_ContainsFunc_api_Event {R : Adts A} {h : AHeap A} {K : AVal → AHeap A → Prop} {a0 a1 : AVal} (hk : p_slices_ContainsFunc_api_Event (Tri Pr R) (Gives Pr R) a0 a1 h K) : Tri Pr R n_slices_ContainsFunc_api_Event [a0, a1] h K :=
  tri_of_funP (by kernel_rfl) (fun _ _ _ _ h => h) (fun _ _ _ _ h => h) Try.func55 (by rw [q_slices_ContainsFunc_api_Event]; exact hk)
/-- bastion/record.Put -/
def p_record_Put (S : FuncId → List AVal → AHeap A → (AVal → AHeap A → Prop) → Prop) (G : Nat → AHeap A → List AVal → (List AVal → AHeap A → Prop) → Prop) (a0 a1 : AVal) (h : AHeap A) (K : AVal → AHeap A → Prop) : Prop :=
 boxP t_api_Record 11 a1 h fun v1 h =>
 binP .eql .ptr a0 .nilp fun v2 =>
 iteP v2
 (K (.tup [.str [], .int .i64 0, .int .i64 1]) h)
 (S n_record_body [v1] h fun v3 h =>
 extP v3 0 fun v4 =>
 extP v3 1 fun v5 =>
 notP v5 fun v6 =>
 iteP v6
 (K (.tup [.str [], .int .i64 0, .int .i64 900]) h)
 (binP .add .other (.str [114, 101, 99, 111, 114, 100]) v4 fun v7 =>
 S n_craft_Hash [a0, v7] h fun v8 h =>
 extP v8 0 fun v9 =>
 extP v8 1 fun v10 =>
 binP .neq .other v10 (.int .i64 0) fun v11 =>
 iteP v11
 (K (.tup [.str [], .int .i64 0, .int .i64 900]) h)
 (S n_field_Num [v9] h fun v12 h =>
 extP v12 0 fun v13 =>
 extP v12 1 fun v14 =>
 binP .add .other v4 v13 fun v15 =>
 S n_record_Fill [v15] h fun v16 h =>
 extP v16 0 fun v17 =>
 extP v16 1 fun v18 =>
 notP v18 fun v19 =>
 iteP v19
 (K (.tup [.str [], .int .i64 0, .int .i64 900]) h)
 (K (.tup [v17, v9, .int .i64 0]) h))))
theorem q_record_Put (S : FuncId → List AVal → AHeap A → (AVal → AHeap A → Prop) → Prop) (G : Nat → AHeap A → List AVal → (List AVal → AHeap A → Prop) → Prop) (a0 a1 : AVal) (h : AHeap A) (K : AVal → AHeap A → Prop) : funP Try.prog S G Try.f56 .leaf [a0, a1] h K = p_record_Put S G a0 a1 h K := by kernel_rfl
theorem c_record_Put {R : Adts A} {h : AHeap A} {K : AVal → AHeap A → Prop} {a0 a1 : AVal} (hk : p_record_Put (Tri Pr R) (Gives Pr R) a0 a1 h K) : Tri Pr R n_record_Put [a0, a1] h K :=
  tri_of_funP (by kernel_rfl) (fun _ _ _ _ h => h) (fun _ _ _ _ h => h) Try.func56 (by rw [q_record_Put]; exact hk)
/-- bastion/bastionref1.GetNum -/
def p_ref1_GetNum (S : FuncId → List AVal → AHeap A → (AVal → AHeap A → Prop) → Prop) (G : Nat → AHeap A → List AVal → (List AVal → AHeap A → Prop) → Prop) (a0 a1 : AVal) (h : AHeap A) (K : AVal → AHeap A → Prop) : Prop :=
 binP .lss .other a1 (.int .i64 0) fun v1 =>
 condP v1 false (fun k2 =>
 lnsP a0 fun v3 =>
 binP .gtr .other a1 v3 fun v4 =>
 k2 v4 h)
 (.bool true) h fun v5 h =>
 iteP v5
 (K (.tup [.int .i64 0, .int .i64 0, .int .i64 100]) h)
 (lnsP a0 fun v6 =>
 binP .eql .other a1 v6 fun v7 =>
 iteP v7
 (K (.tup [.int .i64 0, .int .i64 0, .int .i64 101]) h)
 (sixP a0 a1 fun v8 =>
 cviP .i64 v8 fun v9 =>
 binP .gtr .other v9 (.int .i64 4) fun v10 =>
 iteP v10
 (K (.tup [.int .i64 0, .int .i64 0, .int .i64 100]) h)
 (lnsP a0 fun v11 =>
 binP .sub .other v11 a1 fun v12 =>
 binP .sub .other v12 (.int .i64 1) fun v13 =>
 binP .gtr .other v9 v13 fun v14 =>
 iteP v14
 (K (.tup [.int .i64 0, .int .i64 0, .int .i64 101]) h)
 (loopP G (fun v36 h k17 =>
 (fun v15 v16 =>
 binP .leq .other v16 v9 fun v18 =>
 iteP v18
 (binP .shl .other v15 (.int .u64 8) fun v19 =>
 binP .add .other a1 v16 fun v20 =>
 sixP a0 v20 fun v21 =>
 cviP .i64 v21 fun v22 =>
 binP .or .other v19 v22 fun v23 =>
 binP .add .other v16 (.int .i64 1) fun v24 =>
 k17 [v23, v24] h)
 (binP .gtr .other v9 (.int .i64 0) fun v25 =>
 condP v25 true (fun k26 =>
 binP .add .other a1 (.int .i64 1) fun v27 =>
 sixP a0 v27 fun v28 =>
 binP .eql .other v28 (.int .u8 0) fun v29 =>
 k26 v29 h)
 (.bool false) h fun v30 h =>
 condP v30 false (fun k31 =>
 binP .gtr .other v15 (.int .i64 1073741823) fun v32 =>
 k31 v32 h)
 (.bool true) h fun v33 h =>
 iteP v33
 (K (.tup [.int .i64 0, .int .i64 0, .int .i64 100]) h)
 (binP .add .other a1 v9 fun v34 =>
 binP .add .other v34 (.int .i64 1) fun v35 =>
 K (.tup [v15, v35, .int .i64 0]) h))) (v36.getD 0 .any) (v36.getD 1 .any)) [.int .i64 0, .int .i64 1] h))))
theorem q_ref1_GetNum (S : FuncId → List AVal → AHeap A → (AVal → AHeap A → Prop) → Prop) (G : Nat → AHeap A → List AVal → (List AVal → AHeap A → Prop) → Prop) (a0 a1 : AVal) (h : AHeap A) (K : AVal → AHeap A → Prop) : funP Try.prog S G Try.f57 (.two none .leaf (.two none .leaf (.two none .leaf (.two none .leaf (.two none .leaf (.two none .leaf (.two none .leaf (.two none (.two none .leaf (.one [] (.one [8, 9] .leaf))) .leaf)))))))) [a0, a1] h K = p_ref1_GetNum S G a0 a1 h K := by kernel_rfl
theorem c_ref1_GetNum {R : Adts A} {h : AHeap A} {K : AVal → AHeap A → Prop} {a0 a1 : AVal} (hk : p_ref1_GetNum (Tri Pr R) (Gives Pr R) a0 a1 h K) : Tri Pr R n_ref1_GetNum [a0, a1] h K :=
  tri_of_funP (by kernel_rfl) (fun _ _ _ _ h => h) (fun _ _ _ _ h => h) Try.func57 (by rw [q_ref1_GetNum]; exact hk)
/-- bastion/bastionref1.GetText -/
def p_ref1_GetText (S : FuncId → List AVal → AHeap A → (AVal → AHeap A → Prop) → Prop) (G : Nat → AHeap A → List AVal → (List AVal → AHeap A → Prop) → Prop) (a0 a1 : AVal) (h : AHeap A) (K : AVal → AHeap A → Prop) : Prop :=
 S n_ref1_GetNum [a0, a1] h fun v1 h =>
 extP v1 0 fun v2 =>
 extP v1 1 fun v3 =>
 extP v1 2 fun v4 =>
 binP .neq .other v4 (.int .i64 0) fun v5 =>
 iteP v5
 (K (.tup [.str [], .int .i64 0, v4]) h)
 (binP .gtr .other v2 (.int .i64 65536) fun v6 =>
 iteP v6
 (K (.tup [.str [], .int .i64 0, .int .i64 100]) h)
 (lnsP a0 fun v7 =>
 binP .sub .other v7 v3 fun v8 =>
 binP .gtr .other v2 v8 fun v9 =>
 iteP v9
 (K (.tup [.str [], .int .i64 0, .int .i64 101]) h)
 (binP .add .other v3 v2 fun v10 =>
 subP a0 (some v3) (some v10) fun v11 =>
 binP .add .other v3 v2 fun v12 =>
 K (.tup [v11, v12, .int .i64 0]) h)))
theorem q_ref1_GetText (S : FuncId → List AVal → AHeap A → (AVal → AHeap A → Prop) → Prop) (G : Nat → AHeap A → List AVal → (List AVal → AHeap A → Prop) → Prop) (a0 a1 : AVal) (h : AHeap A) (K : AVal → AHeap A → Prop) : funP Try.prog S G Try.f58 .leaf [a0, a1] h K = p_ref1_GetText S G a0 a1 h K := by kernel_rfl
theorem c_ref1_GetText {R : Adts A} {h : AHeap A} {K : AVal → AHeap A → Prop} {a0 a1 : AVal} (hk : p_ref1_GetText (Tri Pr R) (Gives Pr R) a0 a1 h K) : Tri Pr R n_ref1_GetText [a0, a1] h K :=
  tri_of_funP (by kernel_rfl) (fun _ _ _ _ h => h) (fun _ _ _ _ h => h) Try.func58 (by rw [q_ref1_GetText]; exact hk)
/-- bastion/bastionref1.EventMay -/
def p_ref1_EventMay (S : FuncId → List AVal → AHeap A → (AVal → AHeap A → Prop) → Prop) (G : Nat → AHeap A → List AVal → (List AVal → AHeap A → Prop) → Prop) (a0 : AVal) (h : AHeap A) (K : AVal → AHeap A → Prop) : Prop :=
 boxP t_api_Event 8 a0 h fun v1 h =>
 ldP 8 true v1 h fun v2 =>
 S n_ref1_part [v2] h fun v3 h =>
 extP v3 0 fun v4 =>
 extP v3 1 fun v5 =>
 newP t_api_Event [.int .i64 0, .int .i64 0, .int .i64 0, .int .i64 0, .int .i64 0, .int .i64 0, .int .i64 0, .int .i64 0] h fun v6 h =>
 stP 8 v6 v4 h fun h =>
 notP v5 fun v7 =>
 condP v7 false (fun k8 =>
 ldP 8 true v6 h fun v9 =>
 ldP 8 true v1 h fun v10 =>
 binP .neq (.shape (.st [(0, 1, .i), (1, 1, .i), (2, 1, .i), (3, 1, .i), (4, 1, .i), (5, 1, .i), (6, 1, .i), (7, 1, .i)])) v9 v10 fun v11 =>
 k8 v11 h)
 (.bool true) h fun v12 h =>
 condP v12 false (fun k13 =>
 fadP 1 v1 fun v14 =>
 ldP 1 false v14 h fun v15 =>
 binP .lss .other v15 (.int .i64 0) fun v16 =>
 k13 v16 h)
 (.bool true) h fun v17 h =>
 condP v17 false (fun k18 =>
 fadP 1 v1 fun v19 =>
 ldP 1 false v19 h fun v20 =>
 binP .geq .other v20 (.int .i64 8) fun v21 =>
 k18 v21 h)
 (.bool true) h fun v22 h =>
 condP v22 false (fun k23 =>
 fadP 3 v1 fun v24 =>
 ldP 1 false v24 h fun v25 =>
 binP .lss .other v25 (.int .i64 0) fun v26 =>
 k23 v26 h)
 (.bool true) h fun v27 h =>
 condP v27 false (fun k28 =>
 fadP 3 v1 fun v29 =>
 ldP 1 false v29 h fun v30 =>
 binP .geq .other v30 (.int .i64 16) fun v31 =>
 k28 v31 h)
 (.bool true) h fun v32 h =>
 condP v32 false (fun k33 =>
 fadP 7 v1 fun v34 =>
 ldP 1 false v34 h fun v35 =>
 binP .lss .other v35 (.int .i64 0) fun v36 =>
 k33 v36 h)
 (.bool true) h fun v37 h =>
 condP v37 false (fun k38 =>
 fadP 7 v1 fun v39 =>
 ldP 1 false v39 h fun v40 =>
 binP .gtr .other v40 (.int .i64 1048575) fun v41 =>
 k38 v41 h)
 (.bool true) h fun v42 h =>
 condP v42 false (fun k43 =>
 fadP 2 v1 fun v44 =>
 ldP 1 false v44 h fun v45 =>
 S n_ref1_num [v45] h fun v46 h =>
 notP v46 fun v47 =>
 k43 v47 h)
 (.bool true) h fun v48 h =>
 condP v48 false (fun k49 =>
 fadP 4 v1 fun v50 =>
 ldP 1 false v50 h fun v51 =>
 S n_ref1_num [v51] h fun v52 h =>
 notP v52 fun v53 =>
 k49 v53 h)
 (.bool true) h fun v54 h =>
 condP v54 false (fun k55 =>
 fadP 5 v1 fun v56 =>
 ldP 1 false v56 h fun v57 =>
 S n_ref1_num [v57] h fun v58 h =>
 notP v58 fun v59 =>
 k55 v59 h)
 (.bool true) h fun v60 h =>
 condP v60 false (fun k61 =>
 fadP 6 v1 fun v62 =>
 ldP 1 false v62 h fun v63 =>
 binP .lss .other v63 (.int .i64 0) fun v64 =>
 k61 v64 h)
 (.bool true) h fun v65 h =>
 condP v65 false (fun k66 =>
 fadP 6 v1 fun v67 =>
 ldP 1 false v67 h fun v68 =>
 binP .gtr .other v68 (.int .i64 1048576) fun v69 =>
 k66 v69 h)
 (.bool true) h fun v70 h =>
 iteP v70
 (K (.bool false) h)
 (fadP 0 v1 fun v71 =>
 ldP 1 false v71 h fun v72 =>
 binP .neq .other v72 (.int .i64 6) fun v73 =>
 condP v73 false (fun k74 =>
 fadP 5 v1 fun v75 =>
 ldP 1 false v75 h fun v76 =>
 binP .leq .other v76 (.int .i64 4) fun v77 =>
 k74 v77 h)
 (.bool true) h fun v78 h =>
 K v78 h)
theorem q_ref1_EventMay (S : FuncId → List AVal → AHeap A → (AVal → AHeap A → Prop) → Prop) (G : Nat → AHeap A → List AVal → (List AVal → AHeap A → Prop) → Prop) (a0 : AVal) (h : AHeap A) (K : AVal → AHeap A → Prop) : funP Try.prog S G Try.f59 .leaf [a0] h K = p_ref1_EventMay S G a0 h K := by kernel_rfl
theorem c_ref1_EventMay {R : Adts A} {h : AHeap A} {K : AVal → AHeap A → Prop} {a0 : AVal} (hk : p_ref1_EventMay (Tri Pr R) (Gives Pr R) a0 h K) : Tri Pr R n_ref1_EventMay [a0] h K :=
  tri_of_funP (by kernel_rfl) (fun _ _ _ _ h => h) (fun _ _ _ _ h => h) Try.func59 (by rw [q_ref1_EventMay]; exact hk)
/-- bastion/super.Get -/
def p_super_Get (S : FuncId → List AVal → AHeap A → (AVal → AHeap A → Prop) → Prop) (G : Nat → AHeap A → List AVal → (List AVal → AHeap A → Prop) → Prop) (a0 a1 : AVal) (h : AHeap A) (K : AVal → AHeap A → Prop) : Prop :=
 binP .eql .ptr a0 .nilp fun v1 =>
 iteP v1
 (K (.tup [.int .i64 0, .int .i64 1]) h)
 (bldP [.str [], .int .i64 0, .nili] [(0, 1, a1)] fun v2 =>
 boxP t_field_Reader 3 v2 h fun v3 h =>
 S n_field_Reader_Num [v3] h fun v4 h =>
 nilP v3 fun v5 =>
 fadP 1 v5 fun v6 =>
 ldP 1 false v6 h fun v7 =>
 S n_field_Reader_Num [v3] h fun v8 h =>
 joinP G h.length (fun k9 =>
 nilP v3 fun v10 =>
 fadP 2 v10 fun v11 =>
 ldP 1 false v11 h fun v12 =>
 binP .neq .ifc v12 .nili fun v13 =>
 iteP v13
 (k9 [.bool true] h)
 (lnsP a1 fun v14 =>
 binP .neq .other v14 (.int .i64 64) fun v15 =>
 iteP v15
 (k9 [.bool true] h)
 (S n_super_may [v4] h fun v16 h =>
 notP v16 fun v17 =>
 iteP v17
 (k9 [.bool true] h)
 (subP a1 none (some v7) fun v18 =>
 binP .add .other (.str [115, 117, 112, 101, 114]) v18 fun v19 =>
 S n_craft_IsHash [a0, v19, v8] h fun v20 h =>
 notP v20 fun v21 =>
 iteP v21
 (k9 [.bool true] h)
 (nilP v3 fun v22 =>
 fadP 1 v22 fun v23 =>
 lnsP a1 fun v24 =>
 nilP v3 fun v25 =>
 fadP 1 v25 fun v26 =>
 ldP 1 false v23 h fun v27 =>
 subP a1 (some v27) none fun v28 =>
 ldP 1 false v26 h fun v29 =>
 ldV 1 false v23 h = some v27 ∧
 binP .sub .other v24 v29 fun v30 =>
 mkslP t_uint8 1 1 [.int .u8 0] v30 v30 h fun v31 h =>
 ldV 1 false v23 h = some v27 ∧
 b2sP v31 h fun v32 =>
 ldV 1 false v23 h = some v27 ∧
 binP .neq .other v28 v32 fun v33 =>
 k9 [v33] h)))))
 (fun v35 h =>
 (fun v34 =>
 iteP v34
 (K (.tup [.int .i64 0, .int .i64 1000]) h)
 (K (.tup [v4, .int .i64 0]) h)) (v35.getD 0 .any)))
theorem q_super_Get (S : FuncId → List AVal → AHeap A → (AVal → AHeap A → Prop) → Prop) (G : Nat → AHeap A → List AVal → (List AVal → AHeap A → Prop) → Prop) (a0 a1 : AVal) (h : AHeap A) (K : AVal → AHeap A → Prop) : funP Try.prog S G Try.f60 (.two none .leaf (.two none .leaf (.two none .leaf (.two none .leaf (.two none .leaf (.two none .leaf (.two none (.two none (.draw (some [65]) (.take 0 (.take 1 (.take 2 (.alt 3 (.take 4 (.take 5 (.split 5 (.skip 6 (.skip 7 (.skip 8 (.take 9 (.take 10 (.known 10 true (.skip 11 (.skip 12 (.skip 13 (.take 14 (.take 15 (.known 15 true (.skip 16 (.skip 17 (.skip 18 (.skip 19 (.skip 20 (.skip 21 (.skip 22 (.skip 23 (.take 24 (.take 25 (.known 25 true (.skip 26 (.skip 27 (.skip 28 (.skip 29 (.skip 30 (.skip 31 (.skip 32 (.skip 33 (.skip 34 (.skip 35 (.skip 36 (.skip 37 (.skip 38 (.skip 39 (.skip 40 (.skip 41 (.take 42 .stop)))))))))))))))))))))))))))))))))))))))) (.take 6 (.take 7 (.take 8 (.take 9 (.take 10 (.split 10 (.skip 11 (.skip 12 (.skip 13 (.take 14 (.take 15 (.known 15 true (.skip 16 (.skip 17 (.skip 18 (.skip 19 (.skip 20 (.skip 21 (.skip 22 (.skip 23 (.take 24 (.take 25 (.known 25 true (.skip 26 (.skip 27 (.skip 28 (.skip 29 (.skip 30 (.skip 31 (.skip 32 (.skip 33 (.skip 34 (.skip 35 (.skip 36 (.skip 37 (.skip 38 (.skip 39 (.skip 40 (.skip 41 (.take 42 .stop)))))))))))))))))))))))))))))))))) (.take 11 (.alt 12 (.take 13 (.take 14 (.take 15 (.split 15 (.skip 16 (.skip 17 (.skip 18 (.skip 19 (.skip 20 (.skip 21 (.skip 22 (.skip 23 (.take 24 (.take 25 (.known 25 true (.skip 26 (.skip 27 (.skip 28 (.skip 29 (.skip 30 (.skip 31 (.skip 32 (.skip 33 (.skip 34 (.skip 35 (.skip 36 (.skip 37 (.skip 38 (.skip 39 (.skip 40 (.skip 41 (.take 42 .stop)))))))))))))))))))))))))))) (.take 16 (.take 17 (.take 18 (.take 19 (.take 20 (.take 21 (.alt 22 (.take 23 (.take 24 (.take 25 (.split 25 (.skip 26 (.skip 27 (.skip 28 (.skip 29 (.skip 30 (.skip 31 (.skip 32 (.skip 33 (.skip 34 (.skip 35 (.skip 36 (.skip 37 (.skip 38 (.skip 39 (.skip 40 (.skip 41 (.take 42 .stop))))))))))))))))) (.take 26 (.take 27 (.take 28 (.take 29 (.take 32 (.take 33 (.take 34 (.take 35 (.take 36 (.load 30 (.take 31 (.alt 37 (.take 38 (.alt 39 (.alt 40 (.take 41 (.take 42 .stop)) .stop) .stop)) .stop)))))))))))))))) .stop))))))))))) .stop))))))))))) .stop))))) .leaf) .leaf))))))) [a0, a1] h K = p_super_Get S G a0 a1 h K := by kernel_rfl
theorem c_super_Get {R : Adts A} {h : AHeap A} {K : AVal → AHeap A → Prop} {a0 a1 : AVal} (hk : p_super_Get (Tri Pr R) (Gives Pr R) a0 a1 h K) : Tri Pr R n_super_Get [a0, a1] h K :=
  tri_of_funP (by kernel_rfl) (fun _ _ _ _ h => h) (fun _ _ _ _ h => h) Try.func60 (by rw [q_super_Get]; exact hk)
/-- bastion/super.may -/
def p_super_may (S : FuncId → List AVal → AHeap A → (AVal → AHeap A → Prop) → Prop) (G : Nat → AHeap A → List AVal → (List AVal → AHeap A → Prop) → Prop) (a0 : AVal) (h : AHeap A) (K : AVal → AHeap A → Prop) : Prop :=
 binP .geq .other a0 (.int .i64 1) fun v1 =>
 condP v1 true (fun k2 =>
 binP .leq .other a0 (.int .i64 1023) fun v3 =>
 k2 v3 h)
 (.bool false) h fun v4 h =>
 K v4 h
theorem q_super_may (S : FuncId → List AVal → AHeap A → (AVal → AHeap A → Prop) → Prop) (G : Nat → AHeap A → List AVal → (List AVal → AHeap A → Prop) → Prop) (a0 : AVal) (h : AHeap A) (K : AVal → AHeap A → Prop) : funP Try.prog S G Try.f61 .leaf [a0] h K = p_super_may S G a0 h K := by kernel_rfl
theorem c_super_may {R : Adts A} {h : AHeap A} {K : AVal → AHeap A → Prop} {a0 : AVal} (hk : p_super_may (Tri Pr R) (Gives Pr R) a0 h K) : Tri Pr R n_super_may [a0] h K :=
  tri_of_funP (by kernel_rfl) (fun _ _ _ _ h => h) (fun _ _ _ _ h => h) Try.func61 (by rw [q_super_may]; exact hk)
/-- bastion/field.Num -/
def p_field_Num (S : FuncId → List AVal → AHeap A → (AVal → AHeap A → Prop) → Prop) (G : Nat → AHeap A → List AVal → (List AVal → AHeap A → Prop) → Prop) (a0 : AVal) (h : AHeap A) (K : AVal → AHeap A → Prop) : Prop :=
 S n_field_NumMay [a0] h fun v1 h =>
 notP v1 fun v2 =>
 iteP v2
 (K (.tup [.str [], .int .i64 100]) h)
 (S n_field_width [a0] h fun v3 h =>
 cviP .u8 v3 fun v4 =>
 bslP t_uint8 1 [.int .u8 0] [(0, 1, v4)] h fun v5 h =>
 joinP G h.length (fun k6 =>
 joinP G h.length (fun k7 =>
 joinP G h.length (fun k8 =>
 joinP G h.length (fun k9 =>
 binP .eql .other v3 (.int .i64 4) fun v10 =>
 iteP v10
 (binP .shr .other a0 (.int .u64 24) fun v11 =>
 cviP .u8 v11 fun v12 =>
 bslP t_uint8 1 [.int .u8 0] [(0, 1, v12)] h fun v13 h =>
 appP t_uint8 1 1 v5 v13 h fun v14 h =>
 k9 [v14] h)
 (binP .eql .other v3 (.int .i64 3) fun v15 =>
 iteP v15
 (k9 [v5] h)
 (binP .eql .other v3 (.int .i64 2) fun v16 =>
 iteP v16
 (k8 [v5] h)
 (binP .eql .other v3 (.int .i64 1) fun v17 =>
 iteP v17
 (k7 [v5] h)
 (k6 [v5] h)))))
 (fun v23 h =>
 (fun v18 =>
 binP .shr .other a0 (.int .u64 16) fun v19 =>
 cviP .u8 v19 fun v20 =>
 bslP t_uint8 1 [.int .u8 0] [(0, 1, v20)] h fun v21 h =>
 appP t_uint8 1 1 v18 v21 h fun v22 h =>
 k8 [v22] h) (v23.getD 0 .any)))
 (fun v29 h =>
 (fun v24 =>
 binP .shr .other a0 (.int .u64 8) fun v25 =>
 cviP .u8 v25 fun v26 =>
 bslP t_uint8 1 [.int .u8 0] [(0, 1, v26)] h fun v27 h =>
 appP t_uint8 1 1 v24 v27 h fun v28 h =>
 k7 [v28] h) (v29.getD 0 .any)))
 (fun v34 h =>
 (fun v30 =>
 cviP .u8 a0 fun v31 =>
 bslP t_uint8 1 [.int .u8 0] [(0, 1, v31)] h fun v32 h =>
 appP t_uint8 1 1 v30 v32 h fun v33 h =>
 k6 [v33] h) (v34.getD 0 .any)))
 (fun v37 h =>
 (fun v35 =>
 b2sP v35 h fun v36 =>
 K (.tup [v36, .int .i64 0]) h) (v37.getD 0 .any)))
theorem q_field_Num (S : FuncId → List AVal → AHeap A → (AVal → AHeap A → Prop) → Prop) (G : Nat → AHeap A → List AVal → (List AVal → AHeap A → Prop) → Prop) (a0 : AVal) (h : AHeap A) (K : AVal → AHeap A → Prop) : funP Try.prog S G Try.f62 (.two none .leaf (.two none .leaf (.two none .leaf (.two none .leaf (.two (some [5]) (.two none .leaf (.one [] (.two (some [5]) (.one [] (.two (some [5]) (.one [] (.two (some [5]) .leaf .leaf)) .leaf)) .leaf))) .leaf))))) [a0] h K = p_field_Num S G a0 h K := by kernel_rfl
theorem c_field_Num {R : Adts A} {h : AHeap A} {K : AVal → AHeap A → Prop} {a0 : AVal} (hk : p_field_Num (Tri Pr R) (Gives Pr R) a0 h K) : Tri Pr R n_field_Num [a0] h K :=
  tri_of_funP (by kernel_rfl) (fun _ _ _ _ h => h) (fun _ _ _ _ h => h) Try.func62 (by rw [q_field_Num]; exact hk)
/-- bastion/craft.Hash -/
def p_craft_Hash (S : FuncId → List AVal → AHeap A → (AVal → AHeap A → Prop) → Prop) (G : Nat → AHeap A → List AVal → (List AVal → AHeap A → Prop) → Prop) (a0 a1 : AVal) (h : AHeap A) (K : AVal → AHeap A → Prop) : Prop :=
 binP .add .other (.str [72]) a1 fun v1 =>
 S n_craft_named [a0, v1, .bool true] h fun v2 h =>
 extP v2 0 fun v3 =>
 extP v2 1 fun v4 =>
 K (.tup [v3, v4]) h
theorem q_craft_Hash (S : FuncId → List AVal → AHeap A → (AVal → AHeap A → Prop) → Prop) (G : Nat → AHeap A → List AVal → (List AVal → AHeap A → Prop) → Prop) (a0 a1 : AVal) (h : AHeap A) (K : AVal → AHeap A → Prop) : funP Try.prog S G Try.f63 .leaf [a0, a1] h K = p_craft_Hash S G a0 a1 h K := by kernel_rfl
theorem c_craft_Hash {R : Adts A} {h : AHeap A} {K : AVal → AHeap A → Prop} {a0 a1 : AVal} (hk : p_craft_Hash (Tri Pr R) (Gives Pr R) a0 a1 h K) : Tri Pr R n_craft_Hash [a0, a1] h K :=
  tri_of_funP (by kernel_rfl) (fun _ _ _ _ h => h) (fun _ _ _ _ h => h) Try.func63 (by rw [q_craft_Hash]; exact hk)
/-- bastion/record.Fill -/
def p_record_Fill (S : FuncId → List AVal → AHeap A → (AVal → AHeap A → Prop) → Prop) (G : Nat → AHeap A → List AVal → (List AVal → AHeap A → Prop) → Prop) (a0 : AVal) (h : AHeap A) (K : AVal → AHeap A → Prop) : Prop :=
 lnsP a0 fun v1 =>
 binP .gtr .other v1 (.int .i64 64) fun v2 =>
 iteP v2
 (K (.tup [.str [], .bool false]) h)
 (lnsP a0 fun v3 =>
 binP .sub .other (.int .i64 64) v3 fun v4 =>
 mkslP t_uint8 1 1 [.int .u8 0] v4 v4 h fun v5 h =>
 b2sP v5 h fun v6 =>
 binP .add .other a0 v6 fun v7 =>
 K (.tup [v7, .bool true]) h)
theorem q_record_Fill (S : FuncId → List AVal → AHeap A → (AVal → AHeap A → Prop) → Prop) (G : Nat → AHeap A → List AVal → (List AVal → AHeap A → Prop) → Prop) (a0 : AVal) (h : AHeap A) (K : AVal → AHeap A → Prop) : funP Try.prog S G Try.f64 .leaf [a0] h K = p_record_Fill S G a0 h K := by kernel_rfl
theorem c_record_Fill {R : Adts A} {h : AHeap A} {K : AVal → AHeap A → Prop} {a0 : AVal} (hk : p_record_Fill (Tri Pr R) (Gives Pr R) a0 h K) : Tri Pr R n_record_Fill [a0] h K :=
  tri_of_funP (by kernel_rfl) (fun _ _ _ _ h => h) (fun _ _ _ _ h => h) Try.func64 (by rw [q_record_Fill]; exact hk)
/-- bastion/record.read -/
def p_record_read (S : FuncId → List AVal → AHeap A → (AVal → AHeap A → Prop) → Prop) (G : Nat → AHeap A → List AVal → (List AVal → AHeap A → Prop) → Prop) (a0 a1 : AVal) (h : AHeap A) (K : AVal → AHeap A → Prop) : Prop :=
 newP t_api_Record (reps 11 (.int .i64 0)) h fun v1 h =>
 bldP [.str [], .int .i64 0, .nili] [(0, 1, a1)] fun v2 =>
 boxP t_field_Reader 3 v2 h fun v3 h =>
 S n_field_Reader_Num [v3] h fun v4 h =>
 S n_field_Reader_Num [v3] h fun v5 h =>
 S n_field_Reader_Num [v3] h fun v6 h =>
 bldP [.int .i64 0, .int .i64 0, .int .i64 0, .int .i64 0, .int .i64 0, .int .i64 0, .int .i64 0, .int .i64 0, .int .i64 0, .int .i64 0, .int .i64 0] [(0, 1, v4), (1, 1, v5), (2, 1, v6)] fun v7 =>
 newP t_api_Record (reps 11 (.int .i64 0)) h fun v8 h =>
 stP 11 v8 v7 h fun h =>
 S n_field_Reader_Text [v3] h fun v9 h =>
 S n_event_Get [v9] h fun v10 h =>
 extP v10 0 fun v11 =>
 extP v10 1 fun v12 =>
 newP t_api_Event [.int .i64 0, .int .i64 0, .int .i64 0, .int .i64 0, .int .i64 0, .int .i64 0, .int .i64 0, .int .i64 0] h fun v13 h =>
 stP 8 v13 v11 h fun h =>
 ldP 8 true v13 h fun v14 =>
 fadP 3 v8 fun v15 =>
 stP 8 v15 v14 h fun h =>
 nilP v3 fun v16 =>
 fadP 1 v16 fun v17 =>
 ldP 1 false v17 h fun v18 =>
 S n_field_Reader_Num [v3] h fun v19 h =>
 nilP v3 fun v20 =>
 fadP 2 v20 fun v21 =>
 ldP 1 false v21 h fun v22 =>
 binP .neq .ifc v22 .nili fun v23 =>
 condP v23 false (fun k24 =>
 binP .neq .other v12 (.int .i64 0) fun v25 =>
 k24 v25 h)
 (.bool true) h fun v26 h =>
 condP v26 false (fun k27 =>
 lnsP a1 fun v28 =>
 binP .neq .other v28 (.int .i64 64) fun v29 =>
 k27 v29 h)
 (.bool true) h fun v30 h =>
 iteP v30
 (bldP [.int .i64 0, .int .i64 0, .int .i64 0, .int .i64 0, .int .i64 0, .int .i64 0, .int .i64 0, .int .i64 0, .int .i64 0, .int .i64 0, .int .i64 0] [] fun v31 =>
 stP 11 v1 v31 h fun h =>
 ldP 11 true v1 h fun v32 =>
 K (.tup [v32, .int .i64 0, .bool false]) h)
 (S n_record_body [v8] h fun v33 h =>
 extP v33 0 fun v34 =>
 extP v33 1 fun v35 =>
 joinP G h.length (fun k36 =>
 notP v35 fun v37 =>
 iteP v37
 (k36 [.bool true] h)
 (subP a1 none (some v18) fun v38 =>
 binP .neq .other v34 v38 fun v39 =>
 iteP v39
 (k36 [.bool true] h)
 (binP .add .other (.str [114, 101, 99, 111, 114, 100]) v34 fun v40 =>
 S n_craft_IsHash [a0, v40, v19] h fun v41 h =>
 notP v41 fun v42 =>
 iteP v42
 (k36 [.bool true] h)
 (nilP v3 fun v43 =>
 fadP 1 v43 fun v44 =>
 lnsP a1 fun v45 =>
 nilP v3 fun v46 =>
 fadP 1 v46 fun v47 =>
 ldP 1 false v44 h fun v48 =>
 subP a1 (some v48) none fun v49 =>
 ldP 1 false v47 h fun v50 =>
 ldV 1 false v44 h = some v48 ∧
 binP .sub .other v45 v50 fun v51 =>
 mkslP t_uint8 1 1 [.int .u8 0] v51 v51 h fun v52 h =>
 ldV 1 false v44 h = some v48 ∧
 b2sP v52 h fun v53 =>
 ldV 1 false v44 h = some v48 ∧
 binP .neq .other v49 v53 fun v54 =>
 k36 [v54] h))))
 (fun v60 h =>
 (fun v55 =>
 iteP v55
 (bldP [.int .i64 0, .int .i64 0, .int .i64 0, .int .i64 0, .int .i64 0, .int .i64 0, .int .i64 0, .int .i64 0, .int .i64 0, .int .i64 0, .int .i64 0] [] fun v56 =>
 stP 11 v1 v56 h fun h =>
 ldP 11 true v1 h fun v57 =>
 K (.tup [v57, .int .i64 0, .bool false]) h)
 (ldP 11 true v8 h fun v58 =>
 stP 11 v1 v58 h fun h =>
 ldP 11 true v1 h fun v59 =>
 K (.tup [v59, v19, .bool true]) h)) (v60.getD 0 .any)))
theorem q_record_read (S : FuncId → List AVal → AHeap A → (AVal → AHeap A → Prop) → Prop) (G : Nat → AHeap A → List AVal → (List AVal → AHeap A → Prop) → Prop) (a0 a1 : AVal) (h : AHeap A) (K : AVal → AHeap A → Prop) : funP Try.prog S G Try.f65 (.two none .leaf (.two none .leaf (.two none .leaf (.two none .leaf (.two none .leaf (.two none .leaf (.two none .leaf (.two none .leaf (.two none .leaf (.two none (.two none (.draw (some [92]) (.take 0 (.take 1 (.take 2 (.split 2 (.skip 3 (.skip 4 (.skip 5 (.skip 6 (.skip 7 (.take 8 (.take 9 (.known 9 true (.skip 10 (.skip 11 (.skip 12 (.skip 13 (.skip 14 (.skip 15 (.take 16 (.take 17 (.known 17 true (.skip 18 (.skip 19 (.skip 20 (.skip 21 (.skip 22 (.skip 23 (.skip 24 (.skip 25 (.skip 26 (.skip 27 (.skip 28 (.skip 29 (.skip 30 (.skip 31 (.skip 32 (.skip 33 (.take 34 .stop)))))))))))))))))))))))))))))))))) (.take 3 (.take 4 (.take 5 (.take 6 (.take 7 (.take 8 (.take 9 (.split 9 (.skip 10 (.skip 11 (.skip 12 (.skip 13 (.skip 14 (.skip 15 (.take 16 (.take 17 (.known 17 true (.skip 18 (.skip 19 (.skip 20 (.skip 21 (.skip 22 (.skip 23 (.skip 24 (.skip 25 (.skip 26 (.skip 27 (.skip 28 (.skip 29 (.skip 30 (.skip 31 (.skip 32 (.skip 33 (.take 34 .stop)))))))))))))))))))))))))) (.take 10 (.take 11 (.take 12 (.take 13 (.alt 14 (.take 15 (.take 16 (.take 17 (.split 17 (.skip 18 (.skip 19 (.skip 20 (.skip 21 (.skip 22 (.skip 23 (.skip 24 (.skip 25 (.skip 26 (.skip 27 (.skip 28 (.skip 29 (.skip 30 (.skip 31 (.skip 32 (.skip 33 (.take 34 .stop))))))))))))))))) (.take 18 (.take 19 (.take 20 (.take 21 (.take 24 (.take 25 (.take 26 (.take 27 (.take 28 (.load 22 (.take 23 (.alt 29 (.take 30 (.alt 31 (.alt 32 (.take 33 (.take 34 .stop)) .stop) .stop)) .stop)))))))))))))))) .stop)))))))))))))))))) .leaf) .leaf)))))))))) [a0, a1] h K = p_record_read S G a0 a1 h K := by kernel_rfl
theorem c_record_read {R : Adts A} {h : AHeap A} {K : AVal → AHeap A → Prop} {a0 a1 : AVal} (hk : p_record_read (Tri Pr R) (Gives Pr R) a0 a1 h K) : Tri Pr R n_record_read [a0, a1] h K :=
  tri_of_funP (by kernel_rfl) (fun _ _ _ _ h => h) (fun _ _ _ _ h => h) Try.func65 (by rw [q_record_read]; exact hk)
end Go.AI
