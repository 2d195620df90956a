/- The functions as texts over the abstract heap. -/
import Derived.Test.YtlhmikjjnndjcaaNm
import Derived.KernelRfl
set_option linter.all false
namespace Go.AI
open Go.Proofs
set_option maxRecDepth 1000000
variable {A : Type}
/-- bastion/bastionlaw3.Crafts -/
def p_law3_Crafts (S : FuncId → List AVal → AHeap A → (AVal → AHeap A → Prop) → Prop) (G : Nat → AHeap A → List AVal → (List AVal → AHeap A → Prop) → Prop) (a0 a1 a2 a3 a4 : AVal) (h : AHeap A) (K : AVal → AHeap A → Prop) : Prop :=
 S n_law3_twin [a0, a1] h fun v1 h =>
 extP v1 0 fun v2 =>
 extP v1 1 fun v3 =>
 binP .eql .ptr v2 .nilp fun v4 =>
 condP v4 false (fun k5 =>
 binP .eql .ptr v3 .nilp fun v6 =>
 k5 v6 h)
 (.bool true) h fun v7 h =>
 iteP v7
 (S n_law3_awake [] h fun v8 h =>
 K v8 h)
 (S n_craft_IsHash [v2, a3, a4] h fun v9 h =>
 S n_craft_IsMac [v2, a2, a3, a4] h fun v10 h =>
 S n_craft_Open [v2, a2, a4] h fun v11 h =>
 extP v11 0 fun v12 =>
 extP v11 1 fun v13 =>
 S n_ref1_Open [v3, a2, a4] h fun v14 h =>
 extP v14 0 fun v15 =>
 extP v14 1 fun v16 =>
 S n_ref1_IsHash [v3, a3, a4] h fun v17 h =>
 binP .neq .bl v9 v17 fun v18 =>
 condP v18 false (fun k19 =>
 S n_ref1_IsMac [v3, a2, a3, a4] h fun v20 h =>
 binP .neq .bl v10 v20 fun v21 =>
 k19 v21 h)
 (.bool true) h fun v22 h =>
 condP v22 false (fun k23 =>
 binP .neq .other v12 v15 fun v24 =>
 k23 v24 h)
 (.bool true) h fun v25 h =>
 condP v25 false (fun k26 =>
 S n_law0_Num [v13] h fun v27 h =>
 binP .neq .other v27 v16 fun v28 =>
 k26 v28 h)
 (.bool true) h fun v29 h =>
 condP v29 false (fun k30 =>
 S n_law3_sameBooks [v2, v3] h fun v31 h =>
 notP v31 fun v32 =>
 k30 v32 h)
 (.bool true) h fun v33 h =>
 iteP v33
 (K (.bool false) h)
 (S n_craft_Atom [v2, a3] h fun v34 h =>
 extP v34 0 fun v35 =>
 extP v34 1 fun v36 =>
 S n_ref1_Atom [v3, a3] h fun v37 h =>
 extP v37 0 fun v38 =>
 extP v37 1 fun v39 =>
 S n_craft_Hash [v2, a3] h fun v40 h =>
 extP v40 0 fun v41 =>
 extP v40 1 fun v42 =>
 S n_ref1_Hash [v3, a3] h fun v43 h =>
 extP v43 0 fun v44 =>
 extP v43 1 fun v45 =>
 S n_craft_Mac [v2, a2, a3] h fun v46 h =>
 extP v46 0 fun v47 =>
 extP v46 1 fun v48 =>
 S n_ref1_Mac [v3, a2, a3] h fun v49 h =>
 extP v49 0 fun v50 =>
 extP v49 1 fun v51 =>
 S n_craft_Seal [v2, a2, a3] h fun v52 h =>
 extP v52 0 fun v53 =>
 extP v52 1 fun v54 =>
 S n_ref1_Seal [v3, a2, a3] h fun v55 h =>
 extP v55 0 fun v56 =>
 extP v55 1 fun v57 =>
 binP .eql .other v35 v38 fun v58 =>
 condP v58 true (fun k59 =>
 S n_law0_Num [v36] h fun v60 h =>
 binP .eql .other v60 v39 fun v61 =>
 k59 v61 h)
 (.bool false) h fun v62 h =>
 condP v62 true (fun k63 =>
 binP .eql .other v41 v44 fun v64 =>
 k63 v64 h)
 (.bool false) h fun v65 h =>
 condP v65 true (fun k66 =>
 S n_law0_Num [v42] h fun v67 h =>
 binP .eql .other v67 v45 fun v68 =>
 k66 v68 h)
 (.bool false) h fun v69 h =>
 condP v69 true (fun k70 =>
 binP .eql .other v47 v50 fun v71 =>
 k70 v71 h)
 (.bool false) h fun v72 h =>
 condP v72 true (fun k73 =>
 S n_law0_Num [v48] h fun v74 h =>
 binP .eql .other v74 v51 fun v75 =>
 k73 v75 h)
 (.bool false) h fun v76 h =>
 condP v76 true (fun k77 =>
 binP .eql .other v53 v56 fun v78 =>
 k77 v78 h)
 (.bool false) h fun v79 h =>
 condP v79 true (fun k80 =>
 S n_law0_Num [v54] h fun v81 h =>
 binP .eql .other v81 v57 fun v82 =>
 k80 v82 h)
 (.bool false) h fun v83 h =>
 condP v83 true (fun k84 =>
 S n_law3_sameBooks [v2, v3] h fun v85 h =>
 k84 v85 h)
 (.bool false) h fun v86 h =>
 condP v86 true (fun k87 =>
 S n_law3_awake [] h fun v88 h =>
 k87 v88 h)
 (.bool false) h fun v89 h =>
 K v89 h))
theorem q_law3_Crafts (S : FuncId → List AVal → AHeap A → (AVal → AHeap A → Prop) → Prop) (G : Nat → AHeap A → List AVal → (List AVal → AHeap A → Prop) → Prop) (a0 a1 a2 a3 a4 : AVal) (h : AHeap A) (K : AVal → AHeap A → Prop) : funP Try.prog S G Try.f18 .leaf [a0, a1, a2, a3, a4] h K = p_law3_Crafts S G a0 a1 a2 a3 a4 h K := by kernel_rfl
theorem c_law3_Crafts {R : Adts A} {h : AHeap A} {K : AVal → AHeap A → Prop} {a0 a1 a2 a3 a4 : AVal} (hk : p_law3_Crafts (Tri Pr R) (Gives Pr R) a0 a1 a2 a3 a4 h K) : Tri Pr R n_law3_Crafts [a0, a1, a2, a3, a4] h K :=
  tri_of_funP (by kernel_rfl) (fun _ _ _ _ h => h) (fun _ _ _ _ h => h) Try.func18 (by rw [q_law3_Crafts]; exact hk)
/-- bastion/bastionlaw3.CraftUnlike -/
def p_law3_CraftUnlike (S : FuncId → List AVal → AHeap A → (AVal → AHeap A → Prop) → Prop) (G : Nat → AHeap A → List AVal → (List AVal → AHeap A → Prop) → Prop) (a0 a1 a2 a3 : AVal) (h : AHeap A) (K : AVal → AHeap A → Prop) : Prop :=
 S n_law3_awake [] h fun v1 h =>
 notP v1 fun v2 =>
 iteP v2
 (K (.bool false) h)
 (lnsP a2 fun v3 =>
 binP .gtr .other v3 (.int .i64 100) fun v4 =>
 condP v4 false (fun k5 =>
 lnsP a3 fun v6 =>
 binP .gtr .other v6 (.int .i64 100) fun v7 =>
 k5 v7 h)
 (.bool true) h fun v8 h =>
 iteP v8
 (K (.bool true) h)
 (S n_law3_twin [.int .i64 100, .nils] h fun v9 h =>
 extP v9 0 fun v10 =>
 extP v9 1 fun v11 =>
 binP .eql .ptr v10 .nilp fun v12 =>
 iteP v12
 (K (.bool false) h)
 (binP .and .other a0 (.int .i64 1073741823) fun v13 =>
 binP .and .other a1 (.int .i64 1073741823) fun v14 =>
 S n_craft_Mac [v10, v13, a2] h fun v15 h =>
 extP v15 0 fun v16 =>
 extP v15 1 fun v17 =>
 S n_craft_Mac [v10, v14, a3] h fun v18 h =>
 extP v18 0 fun v19 =>
 extP v18 1 fun v20 =>
 S n_craft_Seal [v10, v13, a2] h fun v21 h =>
 extP v21 0 fun v22 =>
 extP v21 1 fun v23 =>
 S n_craft_Seal [v10, v14, a3] h fun v24 h =>
 extP v24 0 fun v25 =>
 extP v24 1 fun v26 =>
 S n_craft_Hash [v10, a2] h fun v27 h =>
 extP v27 0 fun v28 =>
 extP v27 1 fun v29 =>
 S n_craft_Atom [v10, a2] h fun v30 h =>
 extP v30 0 fun v31 =>
 extP v30 1 fun v32 =>
 binP .eql .other v13 v14 fun v33 =>
 condP v33 true (fun k34 =>
 binP .eql .other a2 a3 fun v35 =>
 k34 v35 h)
 (.bool false) h fun v36 h =>
 S n_law0_Num [v17] h fun v37 h =>
 binP .neq .other v37 (.int .i64 0) fun v38 =>
 condP v38 false (fun k39 =>
 S n_law0_Num [v20] h fun v40 h =>
 binP .neq .other v40 (.int .i64 0) fun v41 =>
 k39 v41 h)
 (.bool true) h fun v42 h =>
 condP v42 false (fun k43 =>
 S n_law0_Num [v23] h fun v44 h =>
 binP .neq .other v44 (.int .i64 0) fun v45 =>
 k43 v45 h)
 (.bool true) h fun v46 h =>
 condP v46 false (fun k47 =>
 S n_law0_Num [v26] h fun v48 h =>
 binP .neq .other v48 (.int .i64 0) fun v49 =>
 k47 v49 h)
 (.bool true) h fun v50 h =>
 condP v50 false (fun k51 =>
 S n_law0_Num [v29] h fun v52 h =>
 binP .neq .other v52 (.int .i64 0) fun v53 =>
 k51 v53 h)
 (.bool true) h fun v54 h =>
 condP v54 false (fun k55 =>
 S n_law0_Num [v32] h fun v56 h =>
 binP .neq .other v56 (.int .i64 0) fun v57 =>
 k55 v57 h)
 (.bool true) h fun v58 h =>
 condP v58 false (fun k59 =>
 binP .eql .other v16 v19 fun v60 =>
 binP .neq .bl v60 v36 fun v61 =>
 k59 v61 h)
 (.bool true) h fun v62 h =>
 condP v62 false (fun k63 =>
 binP .eql .other v22 v25 fun v64 =>
 binP .neq .bl v64 v36 fun v65 =>
 k63 v65 h)
 (.bool true) h fun v66 h =>
 condP v66 false (fun k67 =>
 binP .eql .other v16 v22 fun v68 =>
 k67 v68 h)
 (.bool true) h fun v69 h =>
 condP v69 false (fun k70 =>
 binP .eql .other v16 v28 fun v71 =>
 k70 v71 h)
 (.bool true) h fun v72 h =>
 condP v72 false (fun k73 =>
 binP .eql .other v16 v31 fun v74 =>
 k73 v74 h)
 (.bool true) h fun v75 h =>
 condP v75 false (fun k76 =>
 binP .eql .other v22 v28 fun v77 =>
 k76 v77 h)
 (.bool true) h fun v78 h =>
 condP v78 false (fun k79 =>
 binP .eql .other v22 v31 fun v80 =>
 k79 v80 h)
 (.bool true) h fun v81 h =>
 condP v81 false (fun k82 =>
 binP .eql .other v28 v31 fun v83 =>
 k82 v83 h)
 (.bool true) h fun v84 h =>
 iteP v84
 (K (.bool false) h)
 (S n_craft_Open [v10, v13, v22] h fun v85 h =>
 extP v85 0 fun v86 =>
 extP v85 1 fun v87 =>
 S n_craft_Open [v10, v14, v22] h fun v88 h =>
 extP v88 0 fun v89 =>
 extP v88 1 fun v90 =>
 S n_craft_IsMac [v10, v13, a2, v16] h fun v91 h =>
 condP v91 true (fun k92 =>
 S n_craft_IsMac [v10, v14, a3, v16] h fun v93 h =>
 binP .eql .bl v93 v36 fun v94 =>
 k92 v94 h)
 (.bool false) h fun v95 h =>
 condP v95 true (fun k96 =>
 S n_craft_IsMac [v10, v13, a2, v22] h fun v97 h =>
 notP v97 fun v98 =>
 k96 v98 h)
 (.bool false) h fun v99 h =>
 condP v99 true (fun k100 =>
 S n_craft_IsHash [v10, a2, v28] h fun v101 h =>
 k100 v101 h)
 (.bool false) h fun v102 h =>
 condP v102 true (fun k103 =>
 S n_craft_IsHash [v10, a3, v28] h fun v104 h =>
 binP .eql .other a2 a3 fun v105 =>
 binP .eql .bl v104 v105 fun v106 =>
 k103 v106 h)
 (.bool false) h fun v107 h =>
 condP v107 true (fun k108 =>
 binP .eql .other v86 a2 fun v109 =>
 k108 v109 h)
 (.bool false) h fun v110 h =>
 condP v110 true (fun k111 =>
 S n_law0_Num [v87] h fun v112 h =>
 binP .eql .other v112 (.int .i64 0) fun v113 =>
 k111 v113 h)
 (.bool false) h fun v114 h =>
 condP v114 true (fun k115 =>
 S n_law0_Num [v90] h fun v116 h =>
 binP .eql .other v116 (.int .i64 0) fun v117 =>
 binP .eql .other v13 v14 fun v118 =>
 binP .eql .bl v117 v118 fun v119 =>
 k115 v119 h)
 (.bool false) h fun v120 h =>
 K v120 h))))
theorem q_law3_CraftUnlike (S : FuncId → List AVal → AHeap A → (AVal → AHeap A → Prop) → Prop) (G : Nat → AHeap A → List AVal → (List AVal → AHeap A → Prop) → Prop) (a0 a1 a2 a3 : AVal) (h : AHeap A) (K : AVal → AHeap A → Prop) : funP Try.prog S G Try.f19 .leaf [a0, a1, a2, a3] h K = p_law3_CraftUnlike S G a0 a1 a2 a3 h K := by kernel_rfl
theorem c_law3_CraftUnlike {R : Adts A} {h : AHeap A} {K : AVal → AHeap A → Prop} {a0 a1 a2 a3 : AVal} (hk : p_law3_CraftUnlike (Tri Pr R) (Gives Pr R) a0 a1 a2 a3 h K) : Tri Pr R n_law3_CraftUnlike [a0, a1, a2, a3] h K :=
  tri_of_funP (by kernel_rfl) (fun _ _ _ _ h => h) (fun _ _ _ _ h => h) Try.func19 (by rw [q_law3_CraftUnlike]; exact hk)
/-- bastion/bastionlaw3.CraftForms -/
def p_law3_CraftForms (S : FuncId → List AVal → AHeap A → (AVal → AHeap A → Prop) → Prop) (G : Nat → AHeap A → List AVal → (List AVal → AHeap A → Prop) → Prop) (a0 a1 : AVal) (h : AHeap A) (K : AVal → AHeap A → Prop) : Prop :=
 S n_law3_awake [] h fun v1 h =>
 notP v1 fun v2 =>
 iteP v2
 (K (.bool false) h)
 (binP .and .other a1 (.int .i64 1023) fun v3 =>
 binP .add .other (.int .i64 1) v3 fun v4 =>
 S n_book_New [.int .i64 1] h fun v5 h =>
 extP v5 0 fun v6 =>
 extP v5 1 fun v7 =>
 S n_law0_Num [v7] h fun v8 h =>
 binP .neq .other v8 (.int .i64 0) fun v9 =>
 condP v9 false (fun k10 =>
 binP .eql .ptr v6 .nilp fun v11 =>
 k10 v11 h)
 (.bool true) h fun v12 h =>
 iteP v12
 (K (.bool false) h)
 (S n_craft_Atom [v6, .str [111, 110, 108, 121]] h fun v13 h =>
 extP v13 0 fun v14 =>
 extP v13 1 fun v15 =>
 mkslP t_uint8 1 1 [.int .u8 0] (.int .i64 512) (.int .i64 512) h fun v16 h =>
 b2sP v16 h fun v17 =>
 joinP G h.length (fun k18 =>
 cviP .u64 a0 fun v19 =>
 binP .rem .other v19 (.int .u64 9) fun v20 =>
 binP .eql .other v20 (.int .u64 0) fun v21 =>
 iteP v21
 (S n_craft_Atom [v6, .str [109, 111, 114, 101]] h fun v22 h =>
 extP v22 0 fun v23 =>
 extP v22 1 fun v24 =>
 S n_law0_Num [v24] h fun v25 h =>
 k18 [v25] h)
 (binP .eql .other v20 (.int .u64 1) fun v26 =>
 iteP v26
 (S n_craft_Hash [v6, .str [111, 110, 108, 121]] h fun v27 h =>
 extP v27 0 fun v28 =>
 extP v27 1 fun v29 =>
 S n_law0_Num [v29] h fun v30 h =>
 k18 [v30] h)
 (binP .eql .other v20 (.int .u64 2) fun v31 =>
 iteP v31
 (negP v4 fun v32 =>
 S n_craft_Mac [v6, v32, .str [120]] h fun v33 h =>
 extP v33 0 fun v34 =>
 extP v33 1 fun v35 =>
 S n_law0_Num [v35] h fun v36 h =>
 k18 [v36] h)
 (binP .eql .other v20 (.int .u64 3) fun v37 =>
 iteP v37
 (binP .add .other (.int .i64 1073741823) v4 fun v38 =>
 S n_craft_Seal [v6, v38, .str [120]] h fun v39 h =>
 extP v39 0 fun v40 =>
 extP v39 1 fun v41 =>
 S n_law0_Num [v41] h fun v42 h =>
 k18 [v42] h)
 (binP .eql .other v20 (.int .u64 4) fun v43 =>
 iteP v43
 (S n_craft_Atom [v6, v17] h fun v44 h =>
 extP v44 0 fun v45 =>
 extP v44 1 fun v46 =>
 S n_law0_Num [v46] h fun v47 h =>
 k18 [v47] h)
 (binP .eql .other v20 (.int .u64 5) fun v48 =>
 iteP v48
 (S n_craft_Mac [v6, .int .i64 1, v17] h fun v49 h =>
 extP v49 0 fun v50 =>
 extP v49 1 fun v51 =>
 S n_law0_Num [v51] h fun v52 h =>
 k18 [v52] h)
 (binP .eql .other v20 (.int .u64 6) fun v53 =>
 iteP v53
 (S n_craft_Hash [v6, v17] h fun v54 h =>
 extP v54 0 fun v55 =>
 extP v54 1 fun v56 =>
 S n_law0_Num [v56] h fun v57 h =>
 k18 [v57] h)
 (binP .eql .other v20 (.int .u64 7) fun v58 =>
 iteP v58
 (S n_craft_Seal [v6, .int .i64 0, .str [102, 117, 108, 108]] h fun v59 h =>
 extP v59 0 fun v60 =>
 extP v59 1 fun v61 =>
 S n_law0_Num [v61] h fun v62 h =>
 k18 [v62] h)
 (S n_craft_Mac [v6, .int .i64 0, .str [102, 117, 108, 108]] h fun v63 h =>
 extP v63 0 fun v64 =>
 extP v63 1 fun v65 =>
 S n_law0_Num [v65] h fun v66 h =>
 k18 [v66] h)))))))))
 (fun v132 h =>
 (fun v67 =>
 S n_craft_Open [v6, .int .i64 0, v14] h fun v68 h =>
 extP v68 0 fun v69 =>
 extP v68 1 fun v70 =>
 negP v4 fun v71 =>
 S n_craft_Open [v6, v71, v14] h fun v72 h =>
 extP v72 0 fun v73 =>
 extP v72 1 fun v74 =>
 S n_craft_Open [v6, .int .i64 0, v4] h fun v75 h =>
 extP v75 0 fun v76 =>
 extP v75 1 fun v77 =>
 S n_craft_Open [.nilp, .int .i64 0, .int .i64 0] h fun v78 h =>
 extP v78 0 fun v79 =>
 extP v78 1 fun v80 =>
 S n_craft_Seal [.nilp, .int .i64 0, .str [120]] h fun v81 h =>
 extP v81 0 fun v82 =>
 extP v81 1 fun v83 =>
 S n_craft_Atom [v6, .str [111, 110, 108, 121]] h fun v84 h =>
 extP v84 0 fun v85 =>
 extP v84 1 fun v86 =>
 S n_law0_Num [v15] h fun v87 h =>
 binP .eql .other v87 (.int .i64 0) fun v88 =>
 condP v88 true (fun k89 =>
 binP .eql .other v67 (.int .i64 300) fun v90 =>
 k89 v90 h)
 (.bool false) h fun v91 h =>
 condP v91 true (fun k92 =>
 S n_law0_Num [v70] h fun v93 h =>
 binP .eql .other v93 (.int .i64 301) fun v94 =>
 k92 v94 h)
 (.bool false) h fun v95 h =>
 condP v95 true (fun k96 =>
 S n_law0_Num [v74] h fun v97 h =>
 binP .eql .other v97 (.int .i64 301) fun v98 =>
 k96 v98 h)
 (.bool false) h fun v99 h =>
 condP v99 true (fun k100 =>
 S n_law0_Num [v77] h fun v101 h =>
 binP .eql .other v101 (.int .i64 301) fun v102 =>
 k100 v102 h)
 (.bool false) h fun v103 h =>
 condP v103 true (fun k104 =>
 S n_law0_Num [v80] h fun v105 h =>
 binP .eql .other v105 (.int .i64 1) fun v106 =>
 k104 v106 h)
 (.bool false) h fun v107 h =>
 condP v107 true (fun k108 =>
 S n_law0_Num [v83] h fun v109 h =>
 binP .eql .other v109 (.int .i64 1) fun v110 =>
 k108 v110 h)
 (.bool false) h fun v111 h =>
 condP v111 true (fun k112 =>
 binP .eql .other v85 v14 fun v113 =>
 k112 v113 h)
 (.bool false) h fun v114 h =>
 condP v114 true (fun k115 =>
 S n_law0_Num [v86] h fun v116 h =>
 binP .eql .other v116 (.int .i64 0) fun v117 =>
 k115 v117 h)
 (.bool false) h fun v118 h =>
 condP v118 true (fun k119 =>
 S n_book_Book_Len [v6] h fun v120 h =>
 binP .eql .other v120 (.int .i64 1) fun v121 =>
 k119 v121 h)
 (.bool false) h fun v122 h =>
 condP v122 true (fun k123 =>
 negP v4 fun v124 =>
 S n_craft_IsMac [v6, v124, .str [120], .int .i64 0] h fun v125 h =>
 notP v125 fun v126 =>
 k123 v126 h)
 (.bool false) h fun v127 h =>
 condP v127 true (fun k128 =>
 S n_craft_IsMac [.nilp, .int .i64 0, .str [120], .int .i64 0] h fun v129 h =>
 notP v129 fun v130 =>
 k128 v130 h)
 (.bool false) h fun v131 h =>
 K v131 h) (v132.getD 0 .any))))
theorem q_law3_CraftForms (S : FuncId → List AVal → AHeap A → (AVal → AHeap A → Prop) → Prop) (G : Nat → AHeap A → List AVal → (List AVal → AHeap A → Prop) → Prop) (a0 a1 : AVal) (h : AHeap A) (K : AVal → AHeap A → Prop) : funP Try.prog S G Try.f20 (.two none .leaf (.two none .leaf (.two none .leaf (.two none .leaf (.two none .leaf (.two none .leaf (.two none .leaf (.two none .leaf (.two (some [11]) .leaf .leaf))))))))) [a0, a1] h K = p_law3_CraftForms S G a0 a1 h K := by kernel_rfl
theorem c_law3_CraftForms {R : Adts A} {h : AHeap A} {K : AVal → AHeap A → Prop} {a0 a1 : AVal} (hk : p_law3_CraftForms (Tri Pr R) (Gives Pr R) a0 a1 h K) : Tri Pr R n_law3_CraftForms [a0, a1] h K :=
  tri_of_funP (by kernel_rfl) (fun _ _ _ _ h => h) (fun _ _ _ _ h => h) Try.func20 (by rw [q_law3_CraftForms]; exact hk)
/-- bastion/bastionlaw3.CraftAsk -/
def p_law3_CraftAsk (S : FuncId → List AVal → AHeap A → (AVal → AHeap A → Prop) → Prop) (G : Nat → AHeap A → List AVal → (List AVal → AHeap A → Prop) → Prop) (a0 a1 a2 a3 : AVal) (h : AHeap A) (K : AVal → AHeap A → Prop) : Prop :=
 S n_law3_awake [] h fun v1 h =>
 notP v1 fun v2 =>
 iteP v2
 (K (.bool false) h)
 (S n_book_New [.int .i64 99] h fun v3 h =>
 extP v3 0 fun v4 =>
 extP v3 1 fun v5 =>
 S n_law0_Num [v5] h fun v6 h =>
 binP .neq .other v6 (.int .i64 0) fun v7 =>
 condP v7 false (fun k8 =>
 binP .eql .ptr v4 .nilp fun v9 =>
 k8 v9 h)
 (.bool true) h fun v10 h =>
 iteP v10
 (K (.bool false) h)
 (binP .and .other a2 (.int .i64 1073741823) fun v11 =>
 loopP G (fun v78 h k14 =>
 (fun v12 v13 =>
 lenP a0 fun v15 =>
 binP .lss .other v13 v15 fun v16 =>
 condP v16 true (fun k17 =>
 binP .lss .other v13 (.int .i64 20) fun v18 =>
 k17 v18 h)
 (.bool false) h fun v19 h =>
 iteP v19
 (idxP 1 a0 v13 fun v20 =>
 ldP 1 false v20 h fun v21 =>
 S n_craft_Mac [v4, v11, v21] h fun v22 h =>
 extP v22 0 fun v23 =>
 extP v22 1 fun v24 =>
 idxP 1 a0 v13 fun v25 =>
 ldP 1 false v25 h fun v26 =>
 lnsP v26 fun v27 =>
 binP .lss .other v27 (.int .i64 100) fun v28 =>
 condP v28 true (fun k29 =>
 S n_law0_Num [v24] h fun v30 h =>
 binP .neq .other v30 (.int .i64 0) fun v31 =>
 k29 v31 h)
 (.bool false) h fun v32 h =>
 iteP v32
 (K (.bool false) h)
 (condP v12 false (fun k33 =>
 idxP 1 a0 v13 fun v34 =>
 ldP 1 false v34 h fun v35 =>
 binP .eql .other v35 a1 fun v36 =>
 k33 v36 h)
 (.bool true) h fun v37 h =>
 binP .add .other v13 (.int .i64 1) fun v38 =>
 k14 [v37, v38] h))
 (S n_book_Book_Len [v4] h fun v39 h =>
 loopP G (fun v77 h k41 =>
 (fun v40 =>
 binP .lss .other v40 v39 fun v42 =>
 iteP v42
 (S n_book_Book_Term [v4, v40] h fun v43 h =>
 extP v43 0 fun v44 =>
 extP v43 1 fun v45 =>
 S n_craft_IsMac [v4, v11, a1, v40] h fun v46 h =>
 condP v46 true (fun k47 =>
 notP v12 fun v48 =>
 condP v48 false (fun k49 =>
 lnsP v44 fun v50 =>
 lnsP a1 fun v51 =>
 binP .lss .other v50 v51 fun v52 =>
 k49 v52 h)
 (.bool true) h fun v53 h =>
 condP v53 false (fun k54 =>
 lnsP v44 fun v55 =>
 lnsP a1 fun v56 =>
 binP .sub .other v55 v56 fun v57 =>
 subP v44 (some v57) none fun v58 =>
 binP .neq .other v58 a1 fun v59 =>
 k54 v59 h)
 (.bool true) h fun v60 h =>
 k47 v60 h)
 (.bool false) h fun v61 h =>
 condP v61 false (fun k62 =>
 S n_craft_IsHash [v4, a1, v40] h fun v63 h =>
 k62 v63 h)
 (.bool true) h fun v64 h =>
 iteP v64
 (K (.bool false) h)
 (binP .add .other v40 (.int .i64 1) fun v65 =>
 k41 [v65] h))
 (S n_book_Book_Len [v4] h fun v66 h =>
 binP .eql .other v66 v39 fun v67 =>
 condP v67 true (fun k68 =>
 binP .add .other a1 (.str [63]) fun v69 =>
 S n_law3_has [a0, v69] h fun v70 h =>
 condP v70 false (fun k71 =>
 binP .add .other a1 (.str [63]) fun v72 =>
 S n_craft_IsMac [v4, v11, v72, a3] h fun v73 h =>
 notP v73 fun v74 =>
 k71 v74 h)
 (.bool true) h fun v75 h =>
 k68 v75 h)
 (.bool false) h fun v76 h =>
 K v76 h)) (v77.getD 0 .any)) [.int .i64 0] h)) (v78.getD 0 .any) (v78.getD 1 .any)) [.bool false, .int .i64 0] h))
theorem q_law3_CraftAsk (S : FuncId → List AVal → AHeap A → (AVal → AHeap A → Prop) → Prop) (G : Nat → AHeap A → List AVal → (List AVal → AHeap A → Prop) → Prop) (a0 a1 a2 a3 : AVal) (h : AHeap A) (K : AVal → AHeap A → Prop) : funP Try.prog S G Try.f21 (.two none .leaf (.two none .leaf (.two none .leaf (.two none .leaf (.two none .leaf (.two none .leaf (.two none (.two none .leaf (.one [] (.one [12, 13] .leaf))) (.two none .leaf (.two none (.two none .leaf (.one [] (.one [17] .leaf))) .leaf))))))))) [a0, a1, a2, a3] h K = p_law3_CraftAsk S G a0 a1 a2 a3 h K := by kernel_rfl
theorem c_law3_CraftAsk {R : Adts A} {h : AHeap A} {K : AVal → AHeap A → Prop} {a0 a1 a2 a3 : AVal} (hk : p_law3_CraftAsk (Tri Pr R) (Gives Pr R) a0 a1 a2 a3 h K) : Tri Pr R n_law3_CraftAsk [a0, a1, a2, a3] h K :=
  tri_of_funP (by kernel_rfl) (fun _ _ _ _ h => h) (fun _ _ _ _ h => h) Try.func21 (by rw [q_law3_CraftAsk]; exact hk)
/-- bastion/bastionlaw3.CraftSeals -/
def p_law3_CraftSeals (S : FuncId → List AVal → AHeap A → (AVal → AHeap A → Prop) → Prop) (G : Nat → AHeap A → List AVal → (List AVal → AHeap A → Prop) → Prop) (a0 a1 : AVal) (h : AHeap A) (K : AVal → AHeap A → Prop) : Prop :=
 S n_law3_awake [] h fun v1 h =>
 notP v1 fun v2 =>
 iteP v2
 (K (.bool false) h)
 (S n_book_New [.int .i64 999] h fun v3 h =>
 extP v3 0 fun v4 =>
 extP v3 1 fun v5 =>
 S n_law0_Num [v5] h fun v6 h =>
 binP .neq .other v6 (.int .i64 0) fun v7 =>
 condP v7 false (fun k8 =>
 binP .eql .ptr v4 .nilp fun v9 =>
 k8 v9 h)
 (.bool true) h fun v10 h =>
 iteP v10
 (K (.bool false) h)
 (lenP a0 fun v11 =>
 lenP a1 fun v12 =>
 minP [v11, v12, .int .i64 12] fun v13 =>
 loopP G (fun v68 h k16 =>
 (fun v14 v15 =>
 binP .lss .other v15 v13 fun v17 =>
 iteP v17
 (idxP 1 a1 v15 fun v18 =>
 ldP 1 false v18 h fun v19 =>
 lnsP v19 fun v20 =>
 binP .gtr .other v20 (.int .i64 100) fun v21 =>
 iteP v21
 (K (.bool true) h)
 (idxP 1 a0 v15 fun v22 =>
 idxP 1 a1 v15 fun v23 =>
 ldP 1 false v22 h fun v24 =>
 binP .and .other v24 (.int .i64 15) fun v25 =>
 ldP 1 false v23 h fun v26 =>
 ldV 1 false v22 h = some v24 ∧
 S n_craft_Seal [v4, v25, v26] h fun v27 h =>
 extP v27 0 fun v28 =>
 extP v27 1 fun v29 =>
 S n_law0_Num [v29] h fun v30 h =>
 binP .neq .other v30 (.int .i64 0) fun v31 =>
 iteP v31
 (K (.bool false) h)
 (bslP t_int 1 [.int .i64 0] [(0, 1, v28)] h fun v32 h =>
 appP t_int 1 8 v14 v32 h fun v33 h =>
 binP .add .other v15 (.int .i64 1) fun v34 =>
 k16 [v33, v34] h)))
 (loopP G (fun v67 h k36 =>
 (fun v35 =>
 binP .lss .other v35 v13 fun v37 =>
 iteP v37
 (loopP G (fun v66 h k39 =>
 (fun v38 =>
 binP .lss .other v38 (.int .i64 16) fun v40 =>
 iteP v40
 (idxP 1 v14 v35 fun v41 =>
 ldP 1 false v41 h fun v42 =>
 S n_craft_Open [v4, v38, v42] h fun v43 h =>
 extP v43 0 fun v44 =>
 extP v43 1 fun v45 =>
 joinP G h.length (fun k46 =>
 idxP 1 a0 v35 fun v47 =>
 ldP 1 false v47 h fun v48 =>
 binP .and .other v48 (.int .i64 15) fun v49 =>
 binP .eql .other v38 v49 fun v50 =>
 S n_law0_Num [v45] h fun v51 h =>
 ldV 1 false v47 h = some v48 ∧
 binP .eql .other v51 (.int .i64 0) fun v52 =>
 binP .neq .bl v52 v50 fun v53 =>
 iteP v53
 (iteP .any
 (idxP 1 a1 v35 fun v54 =>
 ldP 1 false v54 h fun v55 =>
 binP .neq .other v44 v55 fun v56 =>
 k46 [.bool true] h)
 (k46 [.bool true] h))
 (S n_law0_Num [v45] h fun v57 h =>
 binP .eql .other v57 (.int .i64 0) fun v58 =>
 iteP v58
 (idxP 1 a1 v35 fun v59 =>
 ldP 1 false v59 h fun v60 =>
 binP .neq .other v44 v60 fun v61 =>
 k46 [v61] h)
 (k46 [.bool false] h)))
 (fun v64 h =>
 (fun v62 =>
 iteP v62
 (K (.bool false) h)
 (binP .add .other v38 (.int .i64 1) fun v63 =>
 k39 [v63] h)) (v64.getD 0 .any)))
 (binP .add .other v35 (.int .i64 1) fun v65 =>
 k36 [v65] h)) (v66.getD 0 .any)) [.int .i64 0] h)
 (K (.bool true) h)) (v67.getD 0 .any)) [.int .i64 0] h)) (v68.getD 0 .any) (v68.getD 1 .any)) [.nils, .int .i64 0] h))
theorem q_law3_CraftSeals (S : FuncId → List AVal → AHeap A → (AVal → AHeap A → Prop) → Prop) (G : Nat → AHeap A → List AVal → (List AVal → AHeap A → Prop) → Prop) (a0 a1 : AVal) (h : AHeap A) (K : AVal → AHeap A → Prop) : funP Try.prog S G Try.f22 (.two none .leaf (.two none .leaf (.two none .leaf (.two none .leaf (.two none .leaf (.two none .leaf (.two none (.two none .leaf (.one [] (.one [7, 9] (.two none .leaf (.two none (.one [] (.two none .leaf (.two none (.draw none (.take 0 (.take 1 (.take 2 (.take 3 (.take 6 (.take 7 (.take 8 (.load 4 (.take 5 (.alt 9 (.alt 10 (.take 11 (.take 12 (.take 13 (.take 14 (.take 15 .stop))))) .stop) .stop))))))))))) .leaf))) .leaf))))) (.two none (.two none .leaf (.one [] (.one [12] (.two none .leaf (.two none (.one [] (.two none .leaf (.one [] (.one [13] (.two none .leaf (.two none (.one [] (.two none .leaf (.two none (.draw (some [108]) (.take 0 (.take 3 (.take 4 (.take 5 (.take 6 (.load 7 (.take 8 (.take 9 (.alt 1 (.take 2 (.take 10 (.take 11 (.split 11 (.skip 12 (.skip 13 (.skip 14 (.skip 15 (.split 15 (.take 16 (.take 17 (.take 18 (.take 19 (.alt 20 (.take 21 (.skip 22 (.take 23 .stop))) .stop))))) (.skip 16 (.skip 17 (.skip 18 (.skip 19 (.skip 20 (.skip 21 (.skip 22 (.take 23 .stop))))))))))))) (.take 12 (.alt 13 (.take 14 (.take 15 (.split 15 (.take 16 (.take 17 (.take 18 (.take 19 (.alt 20 (.take 21 (.take 22 (.take 23 .stop))) .stop))))) (.skip 16 (.skip 17 (.skip 18 (.skip 19 (.skip 20 (.skip 21 (.take 22 (.take 23 .stop))))))))))) .stop)))))) .stop)))))))))) .leaf))) .leaf)))))) .leaf))))) .leaf)))))))) [a0, a1] h K = p_law3_CraftSeals S G a0 a1 h K := by kernel_rfl
theorem c_law3_CraftSeals {R : Adts A} {h : AHeap A} {K : AVal → AHeap A → Prop} {a0 a1 : AVal} (hk : p_law3_CraftSeals (Tri Pr R) (Gives Pr R) a0 a1 h K) : Tri Pr R n_law3_CraftSeals [a0, a1] h K :=
  tri_of_funP (by kernel_rfl) (fun _ _ _ _ h => h) (fun _ _ _ _ h => h) Try.func22 (by rw [q_law3_CraftSeals]; exact hk)
/-- bastion/bastionlaw0.errors1 -/
def p_law0_errors1 (S : FuncId → List AVal → AHeap A → (AVal → AHeap A → Prop) → Prop) (G : Nat → AHeap A → List AVal → (List AVal → AHeap A → Prop) → Prop) (h : AHeap A) (K : AVal → AHeap A → Prop) : Prop :=
 S n_law0_Num [.int .i64 0] h fun v1 h =>
 binP .eql .other v1 (.int .i64 0) fun v2 =>
 condP v2 true (fun k3 =>
 S n_law0_Num [.int .i64 1] h fun v4 h =>
 binP .eql .other v4 (.int .i64 1) fun v5 =>
 k3 v5 h)
 (.bool false) h fun v6 h =>
 condP v6 true (fun k7 =>
 S n_law0_Num [.int .i64 100] h fun v8 h =>
 binP .eql .other v8 (.int .i64 100) fun v9 =>
 k7 v9 h)
 (.bool false) h fun v10 h =>
 condP v10 true (fun k11 =>
 S n_law0_Num [.int .i64 101] h fun v12 h =>
 binP .eql .other v12 (.int .i64 101) fun v13 =>
 k11 v13 h)
 (.bool false) h fun v14 h =>
 condP v14 true (fun k15 =>
 S n_law0_Num [.int .i64 200] h fun v16 h =>
 binP .eql .other v16 (.int .i64 200) fun v17 =>
 k15 v17 h)
 (.bool false) h fun v18 h =>
 condP v18 true (fun k19 =>
 S n_law0_Num [.int .i64 201] h fun v20 h =>
 binP .eql .other v20 (.int .i64 201) fun v21 =>
 k19 v21 h)
 (.bool false) h fun v22 h =>
 condP v22 true (fun k23 =>
 S n_law0_Num [.int .i64 202] h fun v24 h =>
 binP .eql .other v24 (.int .i64 202) fun v25 =>
 k23 v25 h)
 (.bool false) h fun v26 h =>
 condP v26 true (fun k27 =>
 S n_law0_Num [.int .i64 300] h fun v28 h =>
 binP .eql .other v28 (.int .i64 300) fun v29 =>
 k27 v29 h)
 (.bool false) h fun v30 h =>
 condP v30 true (fun k31 =>
 S n_law0_Num [.int .i64 301] h fun v32 h =>
 binP .eql .other v32 (.int .i64 301) fun v33 =>
 k31 v33 h)
 (.bool false) h fun v34 h =>
 condP v34 true (fun k35 =>
 S n_law0_Num [.int .i64 400] h fun v36 h =>
 binP .eql .other v36 (.int .i64 400) fun v37 =>
 k35 v37 h)
 (.bool false) h fun v38 h =>
 condP v38 true (fun k39 =>
 S n_law0_Num [.int .i64 500] h fun v40 h =>
 binP .eql .other v40 (.int .i64 500) fun v41 =>
 k39 v41 h)
 (.bool false) h fun v42 h =>
 condP v42 true (fun k43 =>
 S n_law0_Num [.int .i64 600] h fun v44 h =>
 binP .eql .other v44 (.int .i64 600) fun v45 =>
 k43 v45 h)
 (.bool false) h fun v46 h =>
 condP v46 true (fun k47 =>
 S n_law0_Num [.int .i64 700] h fun v48 h =>
 binP .eql .other v48 (.int .i64 700) fun v49 =>
 k47 v49 h)
 (.bool false) h fun v50 h =>
 condP v50 true (fun k51 =>
 S n_law0_Num [.int .i64 800] h fun v52 h =>
 binP .eql .other v52 (.int .i64 800) fun v53 =>
 k51 v53 h)
 (.bool false) h fun v54 h =>
 K v54 h
theorem q_law0_errors1 (S : FuncId → List AVal → AHeap A → (AVal → AHeap A → Prop) → Prop) (G : Nat → AHeap A → List AVal → (List AVal → AHeap A → Prop) → Prop) (h : AHeap A) (K : AVal → AHeap A → Prop) : funP Try.prog S G Try.f23 .leaf [] h K = p_law0_errors1 S G h K := by kernel_rfl
theorem c_law0_errors1 {R : Adts A} {h : AHeap A} {K : AVal → AHeap A → Prop} (hk : p_law0_errors1 (Tri Pr R) (Gives Pr R) h K) : Tri Pr R n_law0_errors1 [] h K :=
  tri_of_funP (by kernel_rfl) (fun _ _ _ _ h => h) (fun _ _ _ _ h => h) Try.func23 (by rw [q_law0_errors1]; exact hk)
/-- bastion/bastionlaw0.errors2 -/
def p_law0_errors2 (S : FuncId → List AVal → AHeap A → (AVal → AHeap A → Prop) → Prop) (G : Nat → AHeap A → List AVal → (List AVal → AHeap A → Prop) → Prop) (h : AHeap A) (K : AVal → AHeap A → Prop) : Prop :=
 S n_law0_Num [.int .i64 801] h fun v1 h =>
 binP .eql .other v1 (.int .i64 801) fun v2 =>
 condP v2 true (fun k3 =>
 S n_law0_Num [.int .i64 900] h fun v4 h =>
 binP .eql .other v4 (.int .i64 900) fun v5 =>
 k3 v5 h)
 (.bool false) h fun v6 h =>
 condP v6 true (fun k7 =>
 S n_law0_Num [.int .i64 901] h fun v8 h =>
 binP .eql .other v8 (.int .i64 901) fun v9 =>
 k7 v9 h)
 (.bool false) h fun v10 h =>
 condP v10 true (fun k11 =>
 S n_law0_Num [.int .i64 1000] h fun v12 h =>
 binP .eql .other v12 (.int .i64 1000) fun v13 =>
 k11 v13 h)
 (.bool false) h fun v14 h =>
 condP v14 true (fun k15 =>
 S n_law0_Num [.int .i64 1001] h fun v16 h =>
 binP .eql .other v16 (.int .i64 1001) fun v17 =>
 k15 v17 h)
 (.bool false) h fun v18 h =>
 condP v18 true (fun k19 =>
 S n_law0_Num [.int .i64 1100] h fun v20 h =>
 binP .eql .other v20 (.int .i64 1100) fun v21 =>
 k19 v21 h)
 (.bool false) h fun v22 h =>
 condP v22 true (fun k23 =>
 S n_law0_Num [.int .i64 1101] h fun v24 h =>
 binP .eql .other v24 (.int .i64 1101) fun v25 =>
 k23 v25 h)
 (.bool false) h fun v26 h =>
 condP v26 true (fun k27 =>
 S n_law0_Num [.int .i64 1102] h fun v28 h =>
 binP .eql .other v28 (.int .i64 1102) fun v29 =>
 k27 v29 h)
 (.bool false) h fun v30 h =>
 condP v30 true (fun k31 =>
 S n_law0_Num [.int .i64 1200] h fun v32 h =>
 binP .eql .other v32 (.int .i64 1200) fun v33 =>
 k31 v33 h)
 (.bool false) h fun v34 h =>
 condP v34 true (fun k35 =>
 S n_law0_Num [.int .i64 1300] h fun v36 h =>
 binP .eql .other v36 (.int .i64 1300) fun v37 =>
 k35 v37 h)
 (.bool false) h fun v38 h =>
 condP v38 true (fun k39 =>
 S n_law0_Num [.int .i64 1400] h fun v40 h =>
 binP .eql .other v40 (.int .i64 1400) fun v41 =>
 k39 v41 h)
 (.bool false) h fun v42 h =>
 condP v42 true (fun k43 =>
 S n_law0_Num [.int .i64 1500] h fun v44 h =>
 binP .eql .other v44 (.int .i64 1500) fun v45 =>
 k43 v45 h)
 (.bool false) h fun v46 h =>
 condP v46 true (fun k47 =>
 S n_law0_Num [.int .i64 1501] h fun v48 h =>
 binP .eql .other v48 (.int .i64 1501) fun v49 =>
 k47 v49 h)
 (.bool false) h fun v50 h =>
 condP v50 true (fun k51 =>
 S n_law0_Num [.int .i64 1600] h fun v52 h =>
 binP .eql .other v52 (.int .i64 1600) fun v53 =>
 k51 v53 h)
 (.bool false) h fun v54 h =>
 K v54 h
theorem q_law0_errors2 (S : FuncId → List AVal → AHeap A → (AVal → AHeap A → Prop) → Prop) (G : Nat → AHeap A → List AVal → (List AVal → AHeap A → Prop) → Prop) (h : AHeap A) (K : AVal → AHeap A → Prop) : funP Try.prog S G Try.f24 .leaf [] h K = p_law0_errors2 S G h K := by kernel_rfl
theorem c_law0_errors2 {R : Adts A} {h : AHeap A} {K : AVal → AHeap A → Prop} (hk : p_law0_errors2 (Tri Pr R) (Gives Pr R) h K) : Tri Pr R n_law0_errors2 [] h K :=
  tri_of_funP (by kernel_rfl) (fun _ _ _ _ h => h) (fun _ _ _ _ h => h) Try.func24 (by rw [q_law0_errors2]; exact hk)
end Go.AI
