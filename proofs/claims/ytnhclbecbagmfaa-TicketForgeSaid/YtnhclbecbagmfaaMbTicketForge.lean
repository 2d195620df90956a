/- Texts; readers behind two objects. -/
import Derived.Test.YtnhclbecbagmfaaMaTicketForge
import Derived.Test.YtnhclbecbagmfaaFns
import Derived.WalkKit
import Derived.LaidEql
import Derived.Stop.Asserts
import Derived.RowKitTokens
import Derived.Lib.IfaceEq
set_option linter.all false
namespace Go.AI
variable {A : Type} {R : Adts A}
theorem field_All_ok (hR : R.Ok) (l : List Int) (hl : l.length ≤ 1000) (ex : Bool) {t : TypeId} {h : AHeap A} {b : Nat} (hb : h[b]? = some (.cells t (l.map (.int .i64)))) {K : AVal → AHeap A → Prop} (hk : if l.all nMay = true then K (.tup [.str (nAll l), .bool true]) h else K (.tup [.str [], .bool false]) h) :
    Tri Pr R n_field_All [.sl b 0 l.length l.length ex] h K := by
  have hren : ∀ τ, (AObj.cells t (l.map (.int .i64)) : AObj A).ren R τ = .cells t (l.map (.int .i64)) := fun τ => by
    simp only [AObj.ren]; rw [rens_ix0 τ _ (by simp [ixs_all, AVal.ix])]
  have hix : (AObj.cells t (l.map (.int .i64)) : AObj A).ix R 1 := by show ixs 1 _ = true; simp [ixs_all, AVal.ix]
  refine Tri.own hR (as2 := [.sl 0 0 l.length l.length ex]) (Q := fun v o => v = (if l.all nMay = true then .tup [.str (nAll l), .bool true] else .tup [.str [], .bool false]) ∧ o = .cells t (l.map (.int .i64))) rfl hix ?_ hren ?_ hb (by simp [rens, AVal.ren]) ?_
  · rintro _ _ ⟨rfl, rfl⟩; exact ⟨by split <;> rfl, hren⟩
  · obtain ⟨v0, hv0⟩ : ∃ v0 : AVal, (if l.all nMay = true then .tup [.str (nAll l), .bool true] else .tup [.str [], .bool false]) = v0 := ⟨_, rfl⟩
    rw [hv0]
    apply c_field_All
    unfold p_field_All
    refine loopP_go (fun m y g => ∃ i : Nat, y = [.str (nAll (l.take i)), .int .i64 i] ∧ g = [.cells t (l.map (.int .i64))] ∧ i ≤ l.length ∧ m = l.length - i ∧ (l.take i).all nMay = true) l.length (Gives.done (by simp) ⟨0, by simp [nAll], rfl, by omega, by omega, rfl⟩) ?_
    rintro m y g ⟨i, rfl, rfl, hi, rfl, hall⟩
    by_cases h1 : i < l.length
    · have e1 := w64 (n := (i : Int) + 1) (by omega)
      have hlen := nAll_len (l.take i)
      have hlen2 := nS_len l[i]
      have htk : (l.take i).length = i := by simp; omega
      have hsp : nAll (l.take (i + 1)) = nAll (l.take i) ++ nS l[i] := by rw [← List.take_append_getElem h1]; simp only [nAll, List.flatMap_append]; simp
      have hadd : (nAll (l.take i)).length + (nS l[i]).length < 9223372036854775808 := by omega
      simp -implicitDefEqProofs [h1]
      refine field_Num_any hR _ ?_
      cases hc : nMay l[i] with
      | true =>
        simp -implicitDefEqProofs [e1, hadd]
        refine Gives.done (by simp) ⟨l.length - (i + 1), by omega, i + 1, by rw [hsp]; simp, rfl, by omega, rfl, ?_⟩
        intro x hx
        rw [← List.take_append_getElem h1] at hx
        rcases List.mem_append.1 hx with hx | hx
        · exact List.all_eq_true.1 hall x hx
        · simp at hx; subst hx; exact hc
      | false =>
        have : l.all nMay = false := by
          rw [Bool.eq_false_iff]
          intro h2
          have := List.all_eq_true.1 h2 l[i] (List.getElem_mem h1)
          rw [hc] at this; simp at this
        rw [this] at hv0
        simp at hv0
        subst hv0
        simp -implicitDefEqProofs
    · obtain rfl : i = l.length := by omega
      rw [List.take_length] at hall
      rw [hall] at hv0
      simp at hv0
      subst hv0
      simp -implicitDefEqProofs
  · rintro _ _ ⟨rfl, rfl⟩
    have : h.set b (.cells t (l.map (.int .i64))) = h := set_same hb
    rw [this]
    split at hk <;> rename_i h1 <;> simp [h1] <;> exact hk
theorem fReader2_ok (hR : R.Ok) (s : Bs0) (hs : s.length < 9000000000000000000) (at_ : Int) (ha : -9000000000000000000 ≤ at_ ∧ at_ < 9000000000000000000) {o o1 : AObj A} {r : AHeap A} {K : AVal → AHeap A → Prop}
    (hk : if (gNum s at_).2.2 = 0 then K (.int .i64 (gNum s at_).1) (o :: o1 :: fRead s (gNum s at_).2.1 .nili :: r) else ∀ a e, K (.int .i64 0) (o :: o1 :: fRead s 0 (.iface t_p_field_Fault (.ptr (r.length + 3) 0)) :: (r ++ [faultO a e]))) :
    Tri Pr R n_field_Reader_Num [.ptr 2 0] (o :: o1 :: fRead s at_ .nili :: r) K := by
  apply c_field_Reader_Num
  unfold p_field_Reader_Num
  simp -implicitDefEqProofs [fRead]
  refine field_num_ok hR s hs at_ ha ?_
  by_cases h : (gNum s at_).2.2 = 0
  · rw [if_pos h] at hk ⊢
    simp -implicitDefEqProofs
    exact hk
  · rw [if_neg h] at hk ⊢
    intro a e
    simp -implicitDefEqProofs
    simpa [fRead] using hk _ _
theorem fReader2_bad (hR : R.Ok) (s : Bs0) (at_ : Int) (t : TypeId) (v : AVal) {o o1 : AObj A} {r : AHeap A} {K : AVal → AHeap A → Prop}
    (hk : K (.int .i64 0) (o :: o1 :: fRead s at_ (.iface t v) :: r)) : Tri Pr R n_field_Reader_Num [.ptr 2 0] (o :: o1 :: fRead s at_ (.iface t v) :: r) K := by
  apply c_field_Reader_Num
  unfold p_field_Reader_Num
  simp -implicitDefEqProofs [fRead]
  exact hk
theorem rReader2_ok (hR : R.Ok) (s : Bs0) (hs : s.length < 9000000000000000000) (at_ : Int) (ha : -9000000000000000000 ≤ at_ ∧ at_ < 9000000000000000000) (bad : Bool) {o o1 : AObj A} {r : AHeap A} {K : AVal → AHeap A → Prop}
    (hk : if bad = false ∧ (gNum s at_).2.2 = 0 then K (.int .i64 (gNum s at_).1) (o :: o1 :: rRead s (gNum s at_).2.1 false :: r) else K (.int .i64 0) (o :: o1 :: rRead s at_ true :: r)) :
    Tri Pr R n_ref1_Reader_Num [.ptr 2 0] (o :: o1 :: rRead s at_ bad :: r) K := by
  apply c_ref1_Reader_Num
  unfold p_ref1_Reader_Num
  simp -implicitDefEqProofs [rRead]
  refine ref1_GetNum_ok hR s hs at_ ha ?_
  simp -implicitDefEqProofs
  cases bad with
  | true =>
    simp at hk
    simp -implicitDefEqProofs
    exact hk
  | false =>
    by_cases h : (gNum s at_).2.2 = 0
    · simp [h] at hk
      simp -implicitDefEqProofs [h]
      exact hk
    · simp [h] at hk
      have h' : ((gNum s at_).2.2 != 0) = true := by simpa using h
      simp -implicitDefEqProofs [h']
      exact hk
end Go.AI

/- errors.Is (printed by gen/is_gen.py after the kit's worked contracts). -/
set_option linter.all false
namespace Go.AI
open Go.RowKit Go.Extern.Stop Go.Stop Go.Extern Go.Proofs
theorem isTypeOf (v : Value) (w : World) : (Extern.ReflectliteType.typeOf #[.iface 28 v]).run Try.prog w = .ok (.iface 112 (.agg #[.pointer (some ⟨0, 28, none⟩)])) w := by kernel_rfl
def cmpFn : Array Value → Sem Value := Extern.ReflectliteType.method fun t => do Extern.Rtype.noPackHeld "Comparable" t; pure (.bool (← typeInfo t).comparable)
theorem isComparable (w : World) : (cmpFn #[.agg #[.pointer (some ⟨0, 28, none⟩)]]).run Try.prog w = .ok (.bool true) w := by kernel_rfl
theorem isMethodComparable (v : Value) (w : World) : (Go.method 260 112 v "Comparable").run Try.prog w = .ok (82, v) w := by kernel_rfl
theorem isComp : (Try.prog.info? 28).map (·.comparable) = some true := by kernel_rfl
theorem noIsE (v : Value) (xT : TypeId) (w : World) : (Instr.typeAssert (.iface 28 v) xT 114 true).run Try.prog w = .ok (.tuple #[.nilIface, .bool false]) w := run_typeAssert_lacksB Try.underlying114 (by kernel_rfl) (by kernel_rfl) v xT w
theorem noUnwrapE (v : Value) (xT : TypeId) (w : World) : (Instr.typeAssert (.iface 28 v) xT 117 true).run Try.prog w = .ok (.tuple #[.nilIface, .bool false]) w := run_typeAssert_lacksB Try.underlying117 (by kernel_rfl) (by kernel_rfl) v xT w
theorem noUnwrapsE (v : Value) (xT : TypeId) (w : World) : (Instr.typeAssert (.iface 28 v) xT 119 true).run Try.prog w = .ok (.tuple #[.nilIface, .bool false]) w := run_typeAssert_lacksB Try.underlying119 (by kernel_rfl) (by kernel_rfl) v xT w
set_option maxRecDepth 100000 in
theorem is_nil (b : Int) (w : World) :
    Calls Try.prog 29 #[.nilIface, .iface 28 (.int .i64 b)] w fun e w' => e = .returned (.bool false) ∧ w' = w := by
  have hn := run_eql_iface_nil_left (P := Try.prog) w 28 (.int .i64 b) Try.underlying69
  go_enter Try.func29, Try.ntmps29
  go_wp2
  go_ret
  exact ⟨rfl, rfl⟩
set_option maxRecDepth 100000 in
theorem is_errno (a b : Int) (w : World) :
    Calls Try.prog 29 #[.iface 28 (.int .i64 a), .iface 28 (.int .i64 b)] w fun e w' => e = .returned (.bool (a == b)) ∧ w' = w := by
  have h8 := @run_callFunc_extern Try.prog 48 _ Extern.ReflectliteType.typeOf Try.func48 (by kernel_rfl) (by kernel_rfl) (by kernel_rfl) (by kernel_rfl)
  have h32 := @run_callFunc_extern Try.prog 82 _ cmpFn Try.func82 (by kernel_rfl) (by kernel_rfl) (by kernel_rfl) (by kernel_rfl)
  have tT := isTypeOf
  have cT := isComparable
  have mR := isMethodComparable
  have nE := noIsE
  have uE := noUnwrapE
  have vE := noUnwrapsE
  by_cases hab : a = b
  · subst hab
    have heq := Go.Lib.run_eql_iface_int (P := Try.prog) w (k := .i64) a a Try.underlying69 isComp Try.underlying28
    simp only [beq_self_eq_true] at heq ⊢
    go_enter Try.func29, Try.ntmps29
    go_wp2
    refine wp_loop_rounds 1 ?_
    rw [rounds_succ]
    go_wp2
    go_ret
    exact ⟨rfl, rfl⟩
  · have heq := Go.Lib.run_eql_iface_int (P := Try.prog) w (k := .i64) a b Try.underlying69 isComp Try.underlying28
    have hb : (a == b) = false := by simpa using hab
    rw [hb] at heq ⊢
    go_enter Try.func29, Try.ntmps29
    go_wp2
    refine wp_loop_rounds 1 ?_
    rw [rounds_succ]
    go_wp2
    go_ret
    exact ⟨rfl, rfl⟩

theorem noIs_ticket_shut (v : Value) (xT : TypeId) (w : World) : (Instr.typeAssert (.iface 90 v) xT 114 true).run Try.prog w = .ok (.tuple #[.nilIface, .bool false]) w := run_typeAssert_lacksB Try.underlying114 (by kernel_rfl) (by kernel_rfl) v xT w
theorem hasUnwrap_ticket_shut (v : Value) (xT : TypeId) (w : World) : (Instr.typeAssert (.iface 90 v) xT 117 true).run Try.prog w = .ok (.tuple #[.iface 90 v, .bool true]) w := run_typeAssert_hasB Try.underlying117 (by kernel_rfl) v xT w
theorem methodUnwrap_ticket_shut (v : Value) (w : World) : (Go.method 260 90 v "Unwrap").run Try.prog w = .ok (78, v) w := by kernel_rfl

set_option maxRecDepth 100000 in
theorem is_ticket_shut (pb po : Nat) (a b : Int) (w : World) (h1 : w.cell? ⟨pb, po, none⟩ = some (.iface 28 (.int .i64 a))) :
    Calls Try.prog 29 #[.iface 90 (.pointer (some ⟨pb, po, none⟩)), .iface 28 (.int .i64 b)] w fun e w' => e = .returned (.bool (a == b)) ∧ w' = w := by
  have h8 := @run_callFunc_extern Try.prog 48 _ Extern.ReflectliteType.typeOf Try.func48 (by kernel_rfl) (by kernel_rfl) (by kernel_rfl) (by kernel_rfl)
  have h32 := @run_callFunc_extern Try.prog 82 _ cmpFn Try.func82 (by kernel_rfl) (by kernel_rfl) (by kernel_rfl) (by kernel_rfl)
  have tT := isTypeOf
  have cT := isComparable
  have mR := isMethodComparable
  have nE := noIsE
  have uE := noUnwrapE
  have vE := noUnwrapsE
  have nW := noIs_ticket_shut
  have uW := hasUnwrap_ticket_shut
  have mU := methodUnwrap_ticket_shut
  have hty := run_eql_iface_types (P := Try.prog) 90 28 (.pointer (some ⟨pb, po, none⟩)) (.int .i64 b) Try.underlying69 (by decide) w
  by_cases hab : a = b
  · subst hab
    have heq := Go.Lib.run_eql_iface_int (P := Try.prog) w (k := .i64) a a Try.underlying69 isComp Try.underlying28
    simp only [beq_self_eq_true] at heq ⊢
    go_enter Try.func29, Try.ntmps29
    go_wp2
    refine wp_loop_rounds 2 ?_
    rw [rounds_succ]
    go_wp2
    rw [rounds_succ]
    go_wp2
    go_ret
    exact ⟨rfl, rfl⟩
  · have heq := Go.Lib.run_eql_iface_int (P := Try.prog) w (k := .i64) a b Try.underlying69 isComp Try.underlying28
    have hb : (a == b) = false := by simpa using hab
    rw [hb] at heq ⊢
    go_enter Try.func29, Try.ntmps29
    go_wp2
    refine wp_loop_rounds 2 ?_
    rw [rounds_succ]
    go_wp2
    rw [rounds_succ]
    go_wp2
    go_ret
    exact ⟨rfl, rfl⟩

section
variable {A : Type} {R : Adts A}
theorem two_VRs {ρ : Pl} {a b : AVal} {vs : List Value} (hv : VRs ρ [a, b] vs) (ha : a ≠ .any) (hb : b ≠ .any) (ha2 : ∀ l, a ≠ .tup l) (hb2 : ∀ l, b ≠ .tup l) : vs = [conc ρ a, conc ρ b] := by
  obtain ⟨hl, hg⟩ := hv
  obtain ⟨v0, h0, r0⟩ := hg 0 _ rfl
  obtain ⟨v1, h1, r1⟩ := hg 1 _ rfl
  have e0 := r0.eq ha ha2
  have e1 := r1.eq hb hb2
  match vs, hl with
  | [x, y], _ =>
    simp at h0 h1
    rw [h0, h1, e0, e1]
theorem Is_nil_ok (b : Int) {h : AHeap A} {K : AVal → AHeap A → Prop} (hk : K (.bool false) h) : Tri Pr R n_errors_Is [.nili, .iface t_api_Errno (.int .i64 b)] h K := by
  intro ρ ow w vs hr hv hb
  have := two_VRs hv (by simp) (by simp) (by simp) (by simp)
  subst this
  refine Calls.mono (is_nil b w) ?_
  rintro e w' ⟨rfl, rfl⟩
  exact ⟨.bool false, _, ρ, ow, h, rfl, hk, VR.of_eq ρ (.bool false), trivial, hr, Fr.refl _ _ _ _⟩
theorem Is_errno_ok (a b : Int) {h : AHeap A} {K : AVal → AHeap A → Prop} (hk : K (.bool (a == b)) h) : Tri Pr R n_errors_Is [.iface t_api_Errno (.int .i64 a), .iface t_api_Errno (.int .i64 b)] h K := by
  intro ρ ow w vs hr hv hb
  have := two_VRs hv (by simp) (by simp) (by simp) (by simp)
  subst this
  refine Calls.mono (is_errno a b w) ?_
  rintro e w' ⟨rfl, rfl⟩
  exact ⟨.bool (a == b), _, ρ, ow, h, rfl, hk, VR.of_eq ρ (.bool (a == b)), trivial, hr, Fr.refl _ _ _ _⟩
theorem Is_ticket_shut_ok (a b : Int) {h : AHeap A} {j : Nat} {t : TypeId} {cs : List AVal} (hj : h[j]? = some (.cells t cs)) (hc : cs[0]? = some (.iface t_api_Errno (.int .i64 a))) {K : AVal → AHeap A → Prop} (hk : K (.bool (a == b)) h) :
    Tri Pr R n_errors_Is [.iface t_p_ticket_shut (.ptr j 0), .iface t_api_Errno (.int .i64 b)] h K := by
  intro ρ ow w vs hr hv hb
  have := two_VRs hv (by simp) (by simp) (by simp) (by simp)
  subst this
  have hcell := cell_at hr (show cellsAt h j = some cs by simp [cellsAt, hj, AObj.read]) hc
  refine Calls.mono (is_ticket_shut (ρ j).blk ((ρ j).base + 0) a b w (by simpa [conc] using hcell)) ?_
  rintro e w' ⟨rfl, rfl⟩
  exact ⟨.bool (a == b), _, ρ, ow, h, rfl, hk, VR.of_eq ρ (.bool (a == b)), trivial, hr, Fr.refl _ _ _ _⟩
end
end Go.AI

/- The boot's sectors. -/
set_option linter.all false
namespace Go.AI
variable {A : Type} {R : Adts A}
theorem z_readn {n : Nat} {K : AVal → Prop} {h : AHeap A} {b : Nat} {ex : Bool} {t : TypeId} {cs : List AVal} (hb : h[b]? = some (.cells t cs)) (hc : cs = (List.replicate n [AVal.int .u8 0]).flatten) (hk : K (.str (List.replicate n 0))) : b2sP (.sl b 0 n n ex) h K := by
  subst hc
  have e : (List.replicate n [AVal.int .u8 0]).flatten = List.replicate n (.int .u8 0) := zCells_eq n
  rw [e] at hb
  unfold b2sP
  dsimp only
  simp only [cellsAt, hb, Option.bind_some, AObj.read]
  rw [if_pos (by simp)]
  simp only [List.drop_zero]
  rw [List.take_of_length_le (by simp), zCells_bytes]
  exact hk
theorem book_own (hR : R.Ok) {mk : Int → List Bs → A} (hB : HasBook R mk) {m : Int} {ts ts' : List Bs} {f : FuncId} {us : List AVal} (hus : us.all (AVal.ix 0) = true) {v : AVal} (hv : v.ix 0 = true)
    (t : Tri Pr R f (.ptr 0 0 :: us) [.adt (mk m ts)] fun u g => u = v ∧ ∃ r, g = .adt (mk m ts') :: r)
    {h : AHeap A} {b : Nat} (hb : h[b]? = some (.adt (mk m ts))) {K : AVal → AHeap A → Prop} (hk : K v (h.set b (.adt (mk m ts')))) : Tri Pr R f (.ptr b 0 :: us) h K := by
  have hus' : ixs 0 us = true := by rw [ixs_all]; exact hus
  refine Tri.own hR (as2 := .ptr 0 0 :: us) (Q := fun u o => u = v ∧ o = .adt (mk m ts')) ?_ (book_ix hB _ _ _) ?_ (book_ren hB _ _) ?_ hb ?_ ?_
  · simp [ixs, AVal.ix, ixs_mono (Nat.zero_le 1) us hus']
  · rintro _ _ ⟨rfl, rfl⟩; exact ⟨hv, book_ren hB _ _⟩
  · refine Tri.post (t.mono ?_)
    rintro _ _ ⟨rfl, r, rfl⟩
    exact Gives.cut hR (m := 1) (by simp) (by simp) (by simp [ixs, ix_mono (Nat.zero_le 1) _ hv]) (by simp; exact ⟨book_ix hB _ _ _, fun τ _ => book_ren hB _ _ _⟩) ⟨_, rfl, _, ⟨rfl, rfl⟩, rfl⟩
  · simp only [rens, AVal.ren]
    rw [rens_ix0 _ _ hus']; simp
  · rintro _ _ ⟨rfl, rfl⟩; exact hk
def BoolJ (c : Bool) (o : AObj A) (vs : List AVal) (g : AHeap A) : Prop := vs = [.bool c] ∧ ∃ r, g = o :: r
section
variable {mk : Int → List Bs → A}
end
end Go.AI

/- Tickets: the program's. -/
set_option linter.all false
namespace Go.AI
variable {A : Type} {R : Adts A}
theorem fDone2_ok (s : Bs0) (hs : s.length < 9000000000000000000) (at_ : Int) {o o1 : AObj A} {r : AHeap A} {K : AVal → AHeap A → Prop} (hk : K (.bool (at_ == (s.length : Int))) (o :: o1 :: fRead s at_ .nili :: r)) :
    Tri Pr R n_field_Reader_Done [.ptr 2 0] (o :: o1 :: fRead s at_ .nili :: r) K := by
  apply c_field_Reader_Done
  unfold p_field_Reader_Done
  refine joinP_go ?_
  simp -implicitDefEqProofs
  exact hk
theorem fDone2_bad (s : Bs0) (at_ : Int) (t : TypeId) (v : AVal) {o o1 : AObj A} {r : AHeap A} {K : AVal → AHeap A → Prop} (hk : K (.bool false) (o :: o1 :: fRead s at_ (.iface t v) :: r)) :
    Tri Pr R n_field_Reader_Done [.ptr 2 0] (o :: o1 :: fRead s at_ (.iface t v) :: r) K := by
  apply c_field_Reader_Done
  unfold p_field_Reader_Done
  refine joinP_go ?_
  simp -implicitDefEqProofs
  exact hk
theorem cOpen_len {m : Int} {ts : List Bs} (hok : bOk m ts) (key tag : Int) : (cOpen ts key tag).1.length ≤ 512 := by
  unfold cOpen
  split
  · simp only [List.length_drop]
    have : (bTerm ts tag).1.length ≤ 512 := by
      unfold bTerm
      split
      · rename_i h
        have h2 : tag.toNat < ts.length := by omega
        simp only [List.getD_eq_getElem?_getD, List.getElem?_eq_getElem h2, Option.getD_some]
        exact (hok.short _ (List.getElem_mem h2)).2
      · simp
    omega
  · simp
theorem cOpen_err (ts : List Bs) (key tag : Int) : (cOpen ts key tag).2 = 0 ∨ (cOpen ts key tag).2 = 301 := by
  unfold cOpen; split <;> simp
section
variable {mk : Int → List Bs → A}
theorem ring_Find_ok (hR : R.Ok) (hB : HasBook R mk) {m : Int} {ts : List Bs} (x : Int) {h : AHeap A} {b : Nat} (hb : h[b]? = some (.adt (mk m ts))) {K : AVal → AHeap A → Prop}
    (hk : if nMay x = true then K (.tup [.int .i64 ((bFind ts (65 :: eTerm x)).getD 0 : Nat), .bool (bFind ts (65 :: eTerm x)).isSome]) h else K (.tup [.int .i64 0, .bool false]) h) : Tri Pr R n_ring_Find [.ptr b 0, .int .i64 x] h K := by
  apply c_ring_Find
  unfold p_ring_Find
  refine ring_term_ok hR x ?_
  cases hx : nMay x with
  | true =>
    rw [if_pos hx] at hk
    simp -implicitDefEqProofs
    apply c_craft_FindAtom
    unfold p_craft_FindAtom
    have h1 : 1 + (eTerm x).length < 9223372036854775808 := by have := eTerm_len x; omega
    simp -implicitDefEqProofs [h1]
    refine book_Find_ok hR hB _ hb ?_
    simp -implicitDefEqProofs
    exact hk
  | false =>
    rw [if_neg (by simp [hx])] at hk
    simp -implicitDefEqProofs
    exact hk
theorem ticket_Put_ok (hR : R.Ok) (hB : HasBook R mk) {m : Int} {ts : List Bs} (hok : bOk m ts) (epoch : Int) (t : Body) {h : AHeap A} {b : Nat} (hb : h[b]? = some (.adt (mk m ts))) {K : AVal → AHeap A → Prop}
    (hk : K (.tup [.int .i64 (tPut m ts epoch t).2.1, .int .i64 (tPut m ts epoch t).2.2]) (h.set b (.adt (mk m (tPut m ts epoch t).1)))) : Tri Pr R n_ticket_Put [.ptr b 0, .int .i64 epoch, .agg t.row] h K := by
  refine book_own hR hB rfl rfl ?_ hb hk
  apply c_ticket_Put
  unfold p_ticket_Put
  obtain ⟨q, hq⟩ : ∃ q, tPut m ts epoch t = q := ⟨_, rfl⟩
  rw [hq]
  unfold tPut at hq
  simp -implicitDefEqProofs [Body.row]
  refine field_All_ok hR t.nums (by simp [Body.nums]) true (t := t_int) (by simp [Body.nums]) ?_
  cases ha : t.nums.all nMay with
  | false =>
    have hm : bMay t = false := by simp [bMay, ha]
    rw [hm] at hq; simp at hq; subst hq
    rw [if_neg (by simp)]
    simp -implicitDefEqProofs
  | true =>
    rw [if_pos rfl]
    by_cases h8 : t.user < 8
    · have hm : bMay t = true := by simp [bMay, ha, h8]
      rw [if_pos hm] at hq
      have h8' : ¬ 8 ≤ t.user := by omega
      simp -implicitDefEqProofs [h8']
      refine ring_Key_ok hR hB hok epoch rfl ?_
      have hok1 := rKey_ok (x := epoch) hok
      obtain ⟨ts1, key, e1, hr⟩ : ∃ a b c, rKey m ts epoch = (a, b, c) := ⟨_, _, _, rfl⟩
      rw [hr] at hq hok1 ⊢
      dsimp only at hq hok1 ⊢
      by_cases h1 : e1 = 0
      · rw [if_pos h1] at hq
        subst h1
        have hl := nAll_len t.nums
        have hl5 : t.nums.length = 5 := rfl
        simp -implicitDefEqProofs
        refine craft_Seal_ok hR hB hok1 key _ (by omega) rfl ?_
        by_cases h2 : (cKey m ts1 83 key (nAll t.nums)).2.2 = 0
        · rw [if_pos h2] at hq; subst hq
          simp -implicitDefEqProofs [h2]
        · rw [if_neg h2] at hq; subst hq
          have h2' : ((cKey m ts1 83 key (nAll t.nums)).2.2 != 0) = true := by simpa using h2
          simp -implicitDefEqProofs [h2']
      · rw [if_neg h1] at hq; subst hq
        have h1' : (e1 != 0) = true := by simpa using h1
        simp -implicitDefEqProofs [h1']
    · have hm : bMay t = false := by simp [bMay, h8]
      rw [hm] at hq; simp at hq; subst hq
      have h8' : 8 ≤ t.user := by omega
      simp -implicitDefEqProofs [h8']
def shutO (e : Int) : AObj A := .cells t_ticket_shut [.iface t_api_Errno (.int .i64 e)]
def OpenQ (mk : Int → List Bs → A) (m : Int) (ts : List Bs) (o : Option Body) (v : AVal) (g : AHeap A) : Prop :=
  match o with
  | some b => v = .tup [.agg b.row, .nili] ∧ g = [.adt (mk m ts)]
  | none => ∃ e, (e = 1501 ∨ e = 301) ∧ v = .tup [.agg body0.row, .iface t_p_ticket_shut (.ptr 1 0)] ∧ g = [.adt (mk m ts), shutO e]
theorem ticket_open_own (hR : R.Ok) (hB : HasBook R mk) {m : Int} {ts : List Bs} (hok : bOk m ts) (epoch tag : Int) : Tri Pr R n_ticket_open [.ptr 0 0, .int .i64 epoch, .int .i64 tag] [.adt (mk m ts)] (OpenQ mk m ts (tOpen ts epoch tag)) := by
  obtain ⟨o, ho⟩ : ∃ o, tOpen ts epoch tag = o := ⟨_, rfl⟩
  rw [ho]
  unfold tOpen at ho
  have hS : ∀ (b : Body) (r : AHeap A), o = some b → Gives Pr R 1 (.adt (mk m ts) :: r) [.tup [.agg b.row, .nili]] fun vs h2 => ∃ v, vs = [v] ∧ OpenQ mk m ts o v h2 := by
    rintro b r rfl
    refine Gives.cut hR (m := 1) (by simp) (by simp) (by simp [ixs, AVal.ix, Body.row]) ?_ ⟨_, rfl, rfl, rfl⟩
    intro o ho
    simp at ho; subst ho
    exact book_low hB _ _
  have hF : ∀ (e : Int) (mid : AHeap A), o = none → (e = 1501 ∨ e = 301) → Gives Pr R 1 (.adt (mk m ts) :: (mid ++ [shutO e])) [.tup [.agg body0.row, .iface t_p_ticket_shut (.ptr (1 + mid.length) 0)]] fun vs h2 => ∃ v, vs = [v] ∧ OpenQ mk m ts o v h2 := by
    rintro e mid rfl he
    refine Gives.pick hR [.adt (mk m ts)] mid (shutO e) _ [.tup [.agg body0.row, .iface t_p_ticket_shut (.ptr 1 0)]] rfl (by simp) ?_ ⟨rfl, fun τ => rfl⟩ ?_ rfl ⟨_, rfl, e, he, rfl, rfl⟩
    · intro o ho
      simp at ho; subst ho
      exact book_low hB _ _
    · simp [rens, AVal.ren, Body.row]
  refine Tri.post ?_
  apply c_ticket_open
  unfold p_ticket_open
  simp -implicitDefEqProofs
  refine ring_Find_ok hR hB epoch rfl ?_
  cases hm : nMay epoch with
  | false =>
    rw [hm] at ho
    rw [if_neg (by simp)]
    simp -implicitDefEqProofs
    exact hF 1501 [_] (by simpa using ho.symm) (.inl rfl)
  | true =>
    rw [if_pos hm] at ho
    rw [if_pos rfl]
    cases hf : bFind ts (65 :: eTerm epoch) with
    | none =>
      rw [hf] at ho
      simp -implicitDefEqProofs
      exact hF 1501 [_] ho.symm (.inl rfl)
    | some key =>
      rw [hf] at ho
      dsimp only at ho
      simp -implicitDefEqProofs
      refine craft_Open_ok hR hB (key : Int) tag rfl ?_
      have hlen := cOpen_len hok (key : Int) tag
      have herr := cOpen_err ts (key : Int) tag
      obtain ⟨s, e, hs⟩ : ∃ a b, cOpen ts (key : Int) tag = (a, b) := ⟨_, _, rfl⟩
      rw [hs] at ho hlen herr ⊢
      dsimp only at ho hlen herr ⊢
      rcases herr with rfl | rfl
      · rw [if_pos rfl] at ho
        unfold tRead at ho
        simp -implicitDefEqProofs
        have hfr : (.cells t_field_Reader [.str s, .int .i64 0, .nili] : AObj A) = fRead s 0 .nili := rfl
        rw [hfr]
        obtain ⟨u, t1, e1, hg1⟩ : ∃ a b c, gNum s 0 = (a, b, c) := ⟨_, _, _, rfl⟩
        obtain ⟨g, t2, e2, hg2⟩ : ∃ a b c, gNum s t1 = (a, b, c) := ⟨_, _, _, rfl⟩
        obtain ⟨x, t3, e3, hg3⟩ : ∃ a b c, gNum s t2 = (a, b, c) := ⟨_, _, _, rfl⟩
        obtain ⟨se, t4, e4, hg4⟩ : ∃ a b c, gNum s t3 = (a, b, c) := ⟨_, _, _, rfl⟩
        obtain ⟨k, t5, e5, hg5⟩ : ∃ a b c, gNum s t4 = (a, b, c) := ⟨_, _, _, rfl⟩
        refine fReader2_ok hR s (by omega) 0 (by omega) ?_
        rw [hg1]
        dsimp only
        rcases (by omega : e1 ≠ 0 ∨ e1 = 0) with c1 | c1
        · rw [if_neg c1]
          have hn : o = none := by rw [← ho]; simp [rNums, hg1, c1]
          intro p1 r1
          refine fReader2_bad hR s 0 _ _ ?_
          refine fReader2_bad hR s 0 _ _ ?_
          refine fReader2_bad hR s 0 _ _ ?_
          refine fReader2_bad hR s 0 _ _ ?_
          simp -implicitDefEqProofs [fRead]
          change Tri _ _ _ _ (_ :: _ :: fRead s 0 (.iface _ _) :: _) _
          refine fDone2_bad s 0 _ _ ?_
          simp -implicitDefEqProofs
          exact hF 1501 [_, _, _, _] hn (.inl rfl)
        subst c1
        have q1 := gNum_enc hg1
        rw [if_pos rfl]
        refine fReader2_ok hR s (by omega) t1 (by omega) ?_
        rw [hg2]
        dsimp only
        rcases (by omega : e2 ≠ 0 ∨ e2 = 0) with c2 | c2
        · rw [if_neg c2]
          have hn : o = none := by rw [← ho]; simp [rNums, hg1, hg2, c2]
          intro p1 r1
          refine fReader2_bad hR s 0 _ _ ?_
          refine fReader2_bad hR s 0 _ _ ?_
          refine fReader2_bad hR s 0 _ _ ?_
          simp -implicitDefEqProofs [fRead]
          change Tri _ _ _ _ (_ :: _ :: fRead s 0 (.iface _ _) :: _) _
          refine fDone2_bad s 0 _ _ ?_
          simp -implicitDefEqProofs
          exact hF 1501 [_, _, _, _] hn (.inl rfl)
        subst c2
        have q2 := gNum_enc hg2
        rw [if_pos rfl]
        refine fReader2_ok hR s (by omega) t2 (by omega) ?_
        rw [hg3]
        dsimp only
        rcases (by omega : e3 ≠ 0 ∨ e3 = 0) with c3 | c3
        · rw [if_neg c3]
          have hn : o = none := by rw [← ho]; simp [rNums, hg1, hg2, hg3, c3]
          intro p1 r1
          refine fReader2_bad hR s 0 _ _ ?_
          refine fReader2_bad hR s 0 _ _ ?_
          simp -implicitDefEqProofs [fRead]
          change Tri _ _ _ _ (_ :: _ :: fRead s 0 (.iface _ _) :: _) _
          refine fDone2_bad s 0 _ _ ?_
          simp -implicitDefEqProofs
          exact hF 1501 [_, _, _, _] hn (.inl rfl)
        subst c3
        have q3 := gNum_enc hg3
        rw [if_pos rfl]
        refine fReader2_ok hR s (by omega) t3 (by omega) ?_
        rw [hg4]
        dsimp only
        rcases (by omega : e4 ≠ 0 ∨ e4 = 0) with c4 | c4
        · rw [if_neg c4]
          have hn : o = none := by rw [← ho]; simp [rNums, hg1, hg2, hg3, hg4, c4]
          intro p1 r1
          refine fReader2_bad hR s 0 _ _ ?_
          simp -implicitDefEqProofs [fRead]
          change Tri _ _ _ _ (_ :: _ :: fRead s 0 (.iface _ _) :: _) _
          refine fDone2_bad s 0 _ _ ?_
          simp -implicitDefEqProofs
          exact hF 1501 [_, _, _, _] hn (.inl rfl)
        subst c4
        have q4 := gNum_enc hg4
        rw [if_pos rfl]
        refine fReader2_ok hR s (by omega) t4 (by omega) ?_
        rw [hg5]
        dsimp only
        rcases (by omega : e5 ≠ 0 ∨ e5 = 0) with c5 | c5
        · rw [if_neg c5]
          have hn : o = none := by rw [← ho]; simp [rNums, hg1, hg2, hg3, hg4, hg5, c5]
          intro p1 r1
          simp -implicitDefEqProofs [fRead]
          change Tri _ _ _ _ (_ :: _ :: fRead s 0 (.iface _ _) :: _) _
          refine fDone2_bad s 0 _ _ ?_
          simp -implicitDefEqProofs
          exact hF 1501 [_, _, _, _] hn (.inl rfl)
        subst c5
        have q5 := gNum_enc hg5
        rw [if_pos rfl]
        have hn5 : rNums s 5 0 = some ([u, g, x, se, k], t5) := by simp [rNums, hg1, hg2, hg3, hg4, hg5]
        rw [hn5] at ho
        dsimp only at ho
        simp -implicitDefEqProofs [fRead]
        change Tri _ _ _ _ (_ :: _ :: fRead s t5 .nili :: _) _
        refine fDone2_ok s (by omega) t5 ?_
        by_cases d1 : t5 = (s.length : Int)
        · have d1' : (t5 == (s.length : Int)) = true := by simpa using d1
          by_cases d2 : u < 8
          · rw [if_pos ⟨d1, d2⟩] at ho
            have d2' : ¬ 8 ≤ u := by omega
            simp -implicitDefEqProofs [d1', d2']
            exact hS ⟨u, g, x, se, k⟩ [_, _, _] ho.symm
          · rw [if_neg (fun h => d2 h.2)] at ho
            have d2' : 8 ≤ u := by omega
            simp -implicitDefEqProofs [d1', d2']
            exact hF 1501 [_, _, _] ho.symm (.inl rfl)
        · have d1' : (t5 == (s.length : Int)) = false := by simpa using d1
          rw [if_neg (fun h => d1 h.1)] at ho
          simp -implicitDefEqProofs [d1']
          exact hF 1501 [_, _, _] ho.symm (.inl rfl)
      · rw [if_neg (by omega)] at ho
        simp -implicitDefEqProofs
        exact hF 301 [_] ho.symm (.inr rfl)
end
end Go.AI

/- Tickets: the program's Get; the document's. -/
set_option linter.all false
namespace Go.AI
variable {A : Type} {R : Adts A}
section
variable {mk : Int → List Bs → A}
theorem ticket_open_ok (hR : R.Ok) (hB : HasBook R mk) {m : Int} {ts : List Bs} (hok : bOk m ts) (epoch tag : Int) {h : AHeap A} {b : Nat} (hb : h[b]? = some (.adt (mk m ts))) {K : AVal → AHeap A → Prop}
    (hk : match tOpen ts epoch tag with
      | some t => K (.tup [.agg t.row, .nili]) h
      | none => ∀ e, (e = 1501 ∨ e = 301) → K (.tup [.agg body0.row, .iface t_p_ticket_shut (.ptr h.length 0)]) (h ++ [shutO e])) : Tri Pr R n_ticket_open [.ptr b 0, .int .i64 epoch, .int .i64 tag] h K := by
  have hbl := (List.getElem?_eq_some_iff.1 hb).1
  have t := ticket_open_own (R := R) hR hB hok epoch tag
  have := Tri.frame hR (Sel.one (R := R) (b := b) (h := h) (o := .adt (mk m ts)) (by rw [book_ren hB]; exact hb) (book_ix hB _ _ _)) (as2 := [.ptr 0 0, .int .i64 epoch, .int .i64 tag]) rfl t
  refine this.mono ?_
  rintro v H ⟨v0, h0, hq, _, rfl, rfl⟩
  unfold OpenQ at hq
  cases ho : tOpen ts epoch tag with
  | some x =>
    rw [ho] at hq hk
    obtain ⟨rfl, rfl⟩ := hq
    have e1 : splice R [b] h [.adt (mk m ts)] = h := by
      simp [splice, setAll, book_ren hB, set_same hb]
    rw [e1]
    have e2 : (AVal.tup [.agg x.row, .nili]).ren (at_ [b] h.length) = .tup [.agg x.row, .nili] := by simp [AVal.ren, rens, Body.row]
    rw [e2]
    exact hk
  | none =>
    rw [ho] at hq hk
    obtain ⟨e, he, rfl, rfl⟩ := hq
    have e1 : splice R [b] h [.adt (mk m ts), shutO e] = h ++ [shutO e] := by
      simp [splice, setAll, hB.ren, set_same hb, shutO, AObj.ren, rens, AVal.ren]
    rw [e1]
    have e2 : (AVal.tup [.agg body0.row, .iface t_p_ticket_shut (.ptr 1 0)]).ren (at_ [b] h.length) = .tup [.agg body0.row, .iface t_p_ticket_shut (.ptr h.length 0)] := by simp [AVal.ren, rens, Body.row, at_]
    rw [e2]
    exact hk e he
def TGI (mk : Int → List Bs → A) (m : Int) (ts : List Bs) (now mn tag : Int) (tot : Option Body) (k : Nat) (y : List AVal) (g : AHeap A) : Prop :=
  ∃ e : Int, y = [.int .i64 e] ∧ g = [.adt (mk m ts), .cells t_api_Body body0.row] ∧ -1 ≤ e ∧ e ≤ now ∧ now - e ≤ mn + 1 ∧ k = (mn + 1 - (now - e)).toNat ∧ tot = tLoop ts tag k e
theorem ticket_Get_ok (hR : R.Ok) (hB : HasBook R mk) {m : Int} {ts : List Bs} (hok : bOk m ts) (now keep tag : Int) {h : AHeap A} {b : Nat} (hb : h[b]? = some (.adt (mk m ts))) {K : AVal → AHeap A → Prop}
    (hk : K (.tup [.agg (tGet ts now keep tag).1.row, .int .i64 (tGet ts now keep tag).2]) h) : Tri Pr R n_ticket_Get [.ptr b 0, .int .i64 now, .int .i64 keep, .int .i64 tag] h K := by
  refine book_own hR hB (ts' := ts) rfl rfl ?_ hb (by rw [set_same hb]; exact hk)
  apply c_ticket_Get
  unfold p_ticket_Get
  obtain ⟨q, hq⟩ : ∃ q, tGet ts now keep tag = q := ⟨_, rfl⟩
  rw [hq]
  unfold tGet at hq
  simp -implicitDefEqProofs
  refine field_NumMay_ok now ?_
  cases hn : nMay now with
  | false =>
    rw [if_neg (by simp [hn])] at hq; subst hq
    simp -implicitDefEqProofs [Body.row, body0]
  | true =>
    by_cases k1 : keep < 0
    · rw [if_neg (by omega)] at hq; subst hq
      simp -implicitDefEqProofs [k1, Body.row, body0]
    by_cases k2 : 4 < keep
    · rw [if_neg (by omega)] at hq; subst hq
      simp -implicitDefEqProofs [k1, k2, Body.row, body0]
    rw [if_pos ⟨hn, by omega, by omega⟩] at hq
    have hn2 : 0 ≤ now ∧ now ≤ 1073741823 := by simpa [nMay] using hn
    obtain ⟨mn, hmn, hm1, hm2, hm3⟩ : ∃ mn, min now keep = mn ∧ mn ≤ now ∧ mn ≤ keep ∧ (mn = now ∨ mn = keep) := ⟨_, rfl, by omega, by omega, by omega⟩
    rw [hmn] at hq
    obtain ⟨tot, htot⟩ : ∃ o, tLoop ts tag (mn.toNat + 1) now = o := ⟨_, rfl⟩
    rw [htot] at hq
    simp -implicitDefEqProofs [k1, k2]
    refine loopP_go (TGI mk m ts now mn tag tot) (mn.toNat + 1) (Gives.done (by simp) ⟨now, rfl, rfl, by omega, by omega, by omega, by omega, htot.symm⟩) ?_
    rintro k y g ⟨e, rfl, rfl, e0, e1, e2, ek, ht⟩
    have w1 := w64 (n := e - 1) (by omega)
    simp -implicitDefEqProofs
    refine ring_Live_ok hR e now keep ?_
    by_cases hl : 0 < k
    · have hlive : rLive e now keep = true := by
        simp only [rLive, Bool.and_eq_true, decide_eq_true_eq]
        refine ⟨⟨⟨⟨?_, hn⟩, ?_⟩, by omega⟩, by omega⟩
        · simp only [nMay, decide_eq_true_eq]; omega
        · simp only [nMay, decide_eq_true_eq]; omega
      rw [hlive]
      simp -implicitDefEqProofs
      refine ticket_open_ok hR hB hok e tag rfl ?_
      obtain ⟨n, rfl⟩ : ∃ n, k = n + 1 := ⟨k - 1, by omega⟩
      unfold tLoop at ht
      cases ho : tOpen ts e tag with
      | some t =>
        rw [ho] at ht
        dsimp only at ht
        rw [ht] at hq
        dsimp only at hq
        subst hq
        dsimp only
        simp -implicitDefEqProofs [Body.row, body0]
        refine Is_nil_ok _ ?_
        simp -implicitDefEqProofs
        refine Is_nil_ok _ ?_
        simp -implicitDefEqProofs
      | none =>
        rw [ho] at ht
        dsimp only at ht ⊢
        intro er her
        have fin : ∀ r : AHeap A, Gives Pr R 2 (.adt (mk m ts) :: .cells t_api_Body [.int .i64 0, .int .i64 0, .int .i64 0, .int .i64 0, .int .i64 0] :: r) [.int .i64 (e - 1)] fun z g => ∃ m', m' < n + 1 ∧ TGI mk m ts now mn tag tot m' z g := by
          intro r
          refine Gives.cut hR (m := 2) (by simp) (by simp) (by simp [ixs, AVal.ix]) ?_ ⟨n, by omega, e - 1, rfl, rfl, by omega, by omega, by omega, by omega, ?_⟩
          · simp only [List.take, List.mem_cons, List.not_mem_nil, or_false]
            rintro o (rfl | rfl)
            · exact book_low hB _ _
            · exact low_cells rfl
          · exact ht
        rcases her with rfl | rfl
        · simp -implicitDefEqProofs [Body.row, body0]
          refine Is_ticket_shut_ok 1501 1501 (j := 2) rfl rfl ?_
          simp -implicitDefEqProofs [w1]
          exact fin _
        · simp -implicitDefEqProofs [Body.row, body0]
          refine Is_ticket_shut_ok 301 1501 (j := 2) rfl rfl ?_
          simp -implicitDefEqProofs
          refine Is_ticket_shut_ok 301 301 (j := 2) rfl rfl ?_
          simp -implicitDefEqProofs [w1]
          exact fin _
    · have hlive : rLive e now keep = false := by
        cases h : rLive e now keep with
        | false => rfl
        | true =>
          simp only [rLive, Bool.and_eq_true, decide_eq_true_eq] at h
          obtain ⟨⟨⟨⟨a, _⟩, _⟩, c⟩, d⟩ := h
          simp only [nMay, decide_eq_true_eq] at a
          omega
      rw [hlive]
      obtain rfl : k = 0 := by omega
      rw [ht] at hq
      unfold tLoop at hq
      dsimp only at hq
      subst hq
      simp -implicitDefEqProofs [Body.row, body0]
end
end Go.AI

/- Tickets: the document's. -/
set_option linter.all false
namespace Go.AI
variable {A : Type} {R : Adts A}
theorem ref12_BodyMay_ok (hR : R.Ok) (b : Body) {h : AHeap A} {K : AVal → AHeap A → Prop} (hk : K (.bool (bMay b)) h) : Tri Pr R n_ref12_BodyMay [.agg b.row] h K := by
  refine Tri.fn1 hR _ rfl rfl ?_ hk
  apply c_ref12_BodyMay
  unfold p_ref12_BodyMay
  simp -implicitDefEqProofs [Body.row]
  by_cases c1 : 0 ≤ b.user
  · by_cases c2 : b.user < 8
    · have c3 : nMay b.user = true := by simp [nMay]; omega
      have hb : bMay b = (nMay b.gen && (nMay b.expires && (nMay b.session && nMay b.key))) := by simp [bMay, Body.nums, c3, c2]
      rw [hb]
      simp -implicitDefEqProofs [c1, c2]
      refine ref12_num_ok _ ?_
      cases nMay b.gen with
      | false => simp -implicitDefEqProofs; exact Ans.rfl' _
      | true =>
        simp -implicitDefEqProofs
        refine ref12_num_ok _ ?_
        cases nMay b.expires with
        | false => simp -implicitDefEqProofs; exact Ans.rfl' _
        | true =>
          simp -implicitDefEqProofs
          refine ref12_num_ok _ ?_
          cases nMay b.session with
          | false => simp -implicitDefEqProofs; exact Ans.rfl' _
          | true =>
            simp -implicitDefEqProofs
            refine ref12_num_ok _ ?_
            exact Ans.rfl' _
    · have hb : bMay b = false := by simp [bMay, c2]
      rw [hb]
      simp -implicitDefEqProofs [c1, c2]; exact Ans.rfl' _
  · have hb : bMay b = false := by
      have : nMay b.user = false := by simp [nMay]; omega
      simp [bMay, Body.nums, this]
    rw [hb]
    simp -implicitDefEqProofs [c1]; exact Ans.rfl' _
def BodyQ (s : Bs) (v : AVal) : Prop := ∃ x : Body, v = .tup [.agg x.row, .bool (tRead s).isSome] ∧ ∀ t, tRead s = some t → x = t
theorem ref12_body_ok (hR : R.Ok) (s : Bs) (hs : s.length ≤ 1000) {h : AHeap A} {K : AVal → AHeap A → Prop} (hk : ∀ v, BodyQ s v → K v h) : Tri Pr R n_ref12_body [.str s] h K := by
  refine Tri.fn hR (BodyQ s) rfl ?_ (fun v hv _ => hk v hv)
  apply c_ref12_body
  unfold p_ref12_body
  obtain ⟨o, ho⟩ : ∃ o, tRead s = o := ⟨_, rfl⟩
  have hQ : ∀ x : Body, (∀ t, o = some t → x = t) → BodyQ s (.tup [.agg x.row, .bool o.isSome]) ∧ (AVal.tup [.agg x.row, .bool o.isSome]).ix 0 = true := fun x hx => ⟨⟨x, by rw [ho], by rw [ho]; exact hx⟩, by simp [AVal.ix, ixs, Body.row]⟩
  unfold tRead at ho
  simp -implicitDefEqProofs
  have hfr : (.cells t_bastionref1_Reader [.str s, .int .i64 0, .bool false] : AObj A) = rRead s 0 false := rfl
  rw [hfr]
  obtain ⟨u, t1, e1, hg1⟩ : ∃ a b c, gNum s 0 = (a, b, c) := ⟨_, _, _, rfl⟩
  obtain ⟨g, t2, e2, hg2⟩ : ∃ a b c, gNum s t1 = (a, b, c) := ⟨_, _, _, rfl⟩
  obtain ⟨x, t3, e3, hg3⟩ : ∃ a b c, gNum s t2 = (a, b, c) := ⟨_, _, _, rfl⟩
  obtain ⟨se, t4, e4, hg4⟩ : ∃ a b c, gNum s t3 = (a, b, c) := ⟨_, _, _, rfl⟩
  obtain ⟨k, t5, e5, hg5⟩ : ∃ a b c, gNum s t4 = (a, b, c) := ⟨_, _, _, rfl⟩
  refine rReader_ok hR s (by omega) 0 (by omega) false ?_
  rw [hg1]
  dsimp only
  rcases (by omega : e1 ≠ 0 ∨ e1 = 0) with c1 | c1
  · rw [if_neg (by simp [c1])]
    have hn : o = none := by rw [← ho]; simp [rNums, hg1, c1]
    subst hn
    simp -implicitDefEqProofs
    refine rReader_ok hR s (by omega) _ (by omega) true ?_
    rw [if_neg (by simp)]
    simp -implicitDefEqProofs
    refine rReader_ok hR s (by omega) _ (by omega) true ?_
    rw [if_neg (by simp)]
    simp -implicitDefEqProofs
    refine rReader_ok hR s (by omega) _ (by omega) true ?_
    rw [if_neg (by simp)]
    simp -implicitDefEqProofs
    refine rReader_ok hR s (by omega) _ (by omega) true ?_
    rw [if_neg (by simp)]
    simp -implicitDefEqProofs
    refine joinP_go ?_
    simp -implicitDefEqProofs [rRead]
    exact hQ ⟨0, 0, 0, 0, 0⟩ (by simp)
  subst c1
  have q1 := gNum_enc hg1
  rw [if_pos ⟨rfl, rfl⟩]
  simp -implicitDefEqProofs
  refine rReader_ok hR s (by omega) t1 (by omega) false ?_
  rw [hg2]
  dsimp only
  rcases (by omega : e2 ≠ 0 ∨ e2 = 0) with c2 | c2
  · rw [if_neg (by simp [c2])]
    have hn : o = none := by rw [← ho]; simp [rNums, hg1, hg2, c2]
    subst hn
    simp -implicitDefEqProofs
    refine rReader_ok hR s (by omega) _ (by omega) true ?_
    rw [if_neg (by simp)]
    simp -implicitDefEqProofs
    refine rReader_ok hR s (by omega) _ (by omega) true ?_
    rw [if_neg (by simp)]
    simp -implicitDefEqProofs
    refine rReader_ok hR s (by omega) _ (by omega) true ?_
    rw [if_neg (by simp)]
    simp -implicitDefEqProofs
    refine joinP_go ?_
    simp -implicitDefEqProofs [rRead]
    exact hQ ⟨u, 0, 0, 0, 0⟩ (by simp)
  subst c2
  have q2 := gNum_enc hg2
  rw [if_pos ⟨rfl, rfl⟩]
  simp -implicitDefEqProofs
  refine rReader_ok hR s (by omega) t2 (by omega) false ?_
  rw [hg3]
  dsimp only
  rcases (by omega : e3 ≠ 0 ∨ e3 = 0) with c3 | c3
  · rw [if_neg (by simp [c3])]
    have hn : o = none := by rw [← ho]; simp [rNums, hg1, hg2, hg3, c3]
    subst hn
    simp -implicitDefEqProofs
    refine rReader_ok hR s (by omega) _ (by omega) true ?_
    rw [if_neg (by simp)]
    simp -implicitDefEqProofs
    refine rReader_ok hR s (by omega) _ (by omega) true ?_
    rw [if_neg (by simp)]
    simp -implicitDefEqProofs
    refine joinP_go ?_
    simp -implicitDefEqProofs [rRead]
    exact hQ ⟨u, g, 0, 0, 0⟩ (by simp)
  subst c3
  have q3 := gNum_enc hg3
  rw [if_pos ⟨rfl, rfl⟩]
  simp -implicitDefEqProofs
  refine rReader_ok hR s (by omega) t3 (by omega) false ?_
  rw [hg4]
  dsimp only
  rcases (by omega : e4 ≠ 0 ∨ e4 = 0) with c4 | c4
  · rw [if_neg (by simp [c4])]
    have hn : o = none := by rw [← ho]; simp [rNums, hg1, hg2, hg3, hg4, c4]
    subst hn
    simp -implicitDefEqProofs
    refine rReader_ok hR s (by omega) _ (by omega) true ?_
    rw [if_neg (by simp)]
    simp -implicitDefEqProofs
    refine joinP_go ?_
    simp -implicitDefEqProofs [rRead]
    exact hQ ⟨u, g, x, 0, 0⟩ (by simp)
  subst c4
  have q4 := gNum_enc hg4
  rw [if_pos ⟨rfl, rfl⟩]
  simp -implicitDefEqProofs
  refine rReader_ok hR s (by omega) t4 (by omega) false ?_
  rw [hg5]
  dsimp only
  rcases (by omega : e5 ≠ 0 ∨ e5 = 0) with c5 | c5
  · rw [if_neg (by simp [c5])]
    have hn : o = none := by rw [← ho]; simp [rNums, hg1, hg2, hg3, hg4, hg5, c5]
    subst hn
    simp -implicitDefEqProofs
    refine joinP_go ?_
    simp -implicitDefEqProofs [rRead]
    exact hQ ⟨u, g, x, se, 0⟩ (by simp)
  subst c5
  have q5 := gNum_enc hg5
  rw [if_pos ⟨rfl, rfl⟩]
  simp -implicitDefEqProofs
  have hn5 : rNums s 5 0 = some ([u, g, x, se, k], t5) := by simp [rNums, hg1, hg2, hg3, hg4, hg5]
  rw [hn5] at ho
  dsimp only at ho
  refine joinP_go ?_
  by_cases d1 : t5 = (s.length : Int)
  · have d1' : (t5 == (s.length : Int)) = true := by simpa using d1
    simp -implicitDefEqProofs [rRead, d1']
    refine ref12_BodyMay_ok hR ⟨u, g, x, se, k⟩ ?_
    by_cases d2 : u < 8
    · rw [if_pos ⟨d1, d2⟩] at ho
      subst ho
      have hm : bMay ⟨u, g, x, se, k⟩ = true := by simp [bMay, Body.nums, d2, q1.1, q2.1, q3.1, q4.1, q5.1]
      rw [hm]
      simp -implicitDefEqProofs
      exact hQ ⟨u, g, x, se, k⟩ (fun t h => Option.some.inj h)
    · rw [if_neg (fun h => d2 h.2)] at ho
      subst ho
      have hm : bMay ⟨u, g, x, se, k⟩ = false := by simp [bMay, d2]
      rw [hm]
      simp -implicitDefEqProofs
      exact hQ ⟨u, g, x, se, k⟩ (by simp)
  · have d1' : (t5 == (s.length : Int)) = false := by simpa using d1
    rw [if_neg (fun h => d1 h.1)] at ho
    subst ho
    simp -implicitDefEqProofs [rRead, d1']
    exact hQ ⟨u, g, x, se, k⟩ (by simp)
end Go.AI

/- Tickets: the document's Put and Get. -/
set_option linter.all false
namespace Go.AI
variable {A : Type} {R : Adts A}
section
variable {mk : Int → List Bs → A}
theorem ref12_PutTicket_ok (hR : R.Ok) (hB : HasRBook R mk) {m : Int} {ts : List Bs} (hok : bOk m ts) (epoch : Int) (t : Body) {h : AHeap A} {b : Nat} (hb : h[b]? = some (.adt (mk m ts))) {K : AVal → AHeap A → Prop}
    (hk : K (.tup [.int .i64 (tPut m ts epoch t).2.1, .int .i64 (tPut m ts epoch t).2.2]) (h.set b (.adt (mk m (tPut m ts epoch t).1)))) : Tri Pr R n_ref12_PutTicket [.ptr b 0, .int .i64 epoch, .agg t.row] h K := by
  refine rbook_own hR hB rfl rfl ?_ hb hk
  apply c_ref12_PutTicket
  unfold p_ref12_PutTicket
  obtain ⟨q, hq⟩ : ∃ q, tPut m ts epoch t = q := ⟨_, rfl⟩
  rw [hq]
  unfold tPut at hq
  simp -implicitDefEqProofs [Body.row]
  refine ref12_BodyMay_ok hR t ?_
  cases hm : bMay t with
  | false =>
    rw [hm] at hq; simp at hq; subst hq
    simp -implicitDefEqProofs
  | true =>
    rw [if_pos hm] at hq
    simp -implicitDefEqProofs
    refine ref12_RingKey_ok hR hB hok epoch rfl ?_
    have hok1 := rKey_ok (x := epoch) hok
    obtain ⟨ts1, key, e1, hr⟩ : ∃ a b c, rKey m ts epoch = (a, b, c) := ⟨_, _, _, rfl⟩
    rw [hr] at hq hok1 ⊢
    dsimp only at hq hok1 ⊢
    by_cases h1 : e1 = 0
    · rw [if_pos h1] at hq
      subst h1
      have hl := nAll_len t.nums
      have hl5 : t.nums.length = 5 := rfl
      simp -implicitDefEqProofs
      refine ref1_Nums_ok hR t.nums (by simp [Body.nums]) true (t := t_int) (by simp [Body.nums]) ?_
      refine ref1_Seal_ok hR hB hok1 key _ (by omega) rfl ?_
      by_cases h2 : (cKey m ts1 83 key (nAll t.nums)).2.2 = 0
      · rw [if_pos h2] at hq; subst hq
        simp -implicitDefEqProofs [h2]
      · rw [if_neg h2] at hq; subst hq
        have h2' : ((cKey m ts1 83 key (nAll t.nums)).2.2 != 0) = true := by simpa using h2
        simp -implicitDefEqProofs [h2']
    · rw [if_neg h1] at hq; subst hq
      have h1' : (e1 != 0) = true := by simpa using h1
      simp -implicitDefEqProofs [h1']
theorem ref12_GetTicket_ok (hR : R.Ok) (hB : HasRBook R mk) {m : Int} {ts : List Bs} (hok : bOk m ts) (now keep tag : Int) {h : AHeap A} {b : Nat} (hb : h[b]? = some (.adt (mk m ts))) {K : AVal → AHeap A → Prop}
    (hk : K (.tup [.agg (tGet ts now keep tag).1.row, .int .i64 (tGet ts now keep tag).2]) h) : Tri Pr R n_ref12_GetTicket [.ptr b 0, .int .i64 now, .int .i64 keep, .int .i64 tag] h K := by
  refine rbook_own hR hB (ts' := ts) rfl rfl ?_ hb (by rw [set_same hb]; exact hk)
  apply c_ref12_GetTicket
  unfold p_ref12_GetTicket
  obtain ⟨q, hq⟩ : ∃ q, tGet ts now keep tag = q := ⟨_, rfl⟩
  rw [hq]
  unfold tGet at hq
  simp -implicitDefEqProofs
  refine ref12_num_ok now ?_
  cases hn : nMay now with
  | false =>
    rw [if_neg (by simp [hn])] at hq; subst hq
    simp -implicitDefEqProofs [Body.row, body0]
  | true =>
    by_cases k1 : keep < 0
    · rw [if_neg (by omega)] at hq; subst hq
      simp -implicitDefEqProofs [k1, Body.row, body0]
    by_cases k2 : 4 < keep
    · rw [if_neg (by omega)] at hq; subst hq
      simp -implicitDefEqProofs [k1, k2, Body.row, body0]
    rw [if_pos ⟨hn, by omega, by omega⟩] at hq
    have hn2 : 0 ≤ now ∧ now ≤ 1073741823 := by simpa [nMay] using hn
    obtain ⟨mn, hmn, hm1, hm2, hm3⟩ : ∃ mn, min now keep = mn ∧ mn ≤ now ∧ mn ≤ keep ∧ (mn = now ∨ mn = keep) := ⟨_, rfl, by omega, by omega, by omega⟩
    rw [hmn] at hq
    obtain ⟨tot, htot⟩ : ∃ o, tLoop ts tag (mn.toNat + 1) now = o := ⟨_, rfl⟩
    rw [htot] at hq
    simp -implicitDefEqProofs [k1, k2]
    refine loopP_go (TGI mk m ts now mn tag tot) (mn.toNat + 1) (Gives.done (by simp) ⟨now, rfl, rfl, by omega, by omega, by omega, by omega, htot.symm⟩) ?_
    rintro k y g ⟨e, rfl, rfl, e0, e1, e2, ek, ht⟩
    have w1 := w64 (n := e - 1) (by omega)
    have w2 := w64 (n := now - e) (by omega)
    by_cases hl : 0 < k
    · have l1 : 0 ≤ e := by omega
      have l2 : now - e ≤ keep := by omega
      have hme : nMay e = true := by simp only [nMay, decide_eq_true_eq]; omega
      simp -implicitDefEqProofs [l1, l2, w2]
      have hl5 := nS_len e
      have g5 : 6 + (nS e).length < 9223372036854775808 := by omega
      have hfin : ∀ r : AHeap A, (∀ o', tOpen ts e tag = none → o' = ()) → tOpen ts e tag = none → Gives Pr R 2 (.adt (mk m ts) :: .cells t_api_Body [.int .i64 0, .int .i64 0, .int .i64 0, .int .i64 0, .int .i64 0] :: r) [.int .i64 (e - 1)] fun z g => ∃ m', m' < k ∧ TGI mk m ts now mn tag tot m' z g := by
        intro r _ ho
        obtain ⟨n, rfl⟩ : ∃ n, k = n + 1 := ⟨k - 1, by omega⟩
        unfold tLoop at ht
        rw [ho] at ht
        dsimp only at ht
        refine Gives.cut hR (m := 2) (by simp) (by simp) (by simp [ixs, AVal.ix]) ?_ ⟨n, by omega, e - 1, rfl, rfl, by omega, by omega, by omega, by omega, ht⟩
        simp only [List.take, List.mem_cons, List.not_mem_nil, or_false]
        rintro o (rfl | rfl)
        · exact rbook_low hB _ _
        · exact low_cells rfl
      have fin := fun r ho => hfin r (fun _ _ => rfl) ho
      clear hfin
      obtain ⟨o, ho⟩ : ∃ o, tOpen ts e tag = o := ⟨_, rfl⟩
      have ho' := ho
      rw [ho] at fin
      unfold tOpen at ho
      rw [if_pos hme] at ho
      refine joinP_go ?_
      simp -implicitDefEqProofs [body0, Body.row]
      refine ref1_Nums_ok hR [e] (by simp) true (t := t_int) (by simp) ?_
      rw [nAll_one]
      have hat : 65 :: 101 :: 112 :: 111 :: 99 :: 104 :: nS e = 65 :: eTerm e := rfl
      simp -implicitDefEqProofs [g5, hat]
      refine rbook_Find_ok hR hB hok _ rfl ?_
      cases hf : bFind ts (65 :: eTerm e) with
      | none =>
        rw [hf] at ho
        simp -implicitDefEqProofs [w1]
        exact fin _ ho.symm
      | some key =>
        rw [hf] at ho
        dsimp only at ho
        simp -implicitDefEqProofs
        refine ref1_Open_ok hR hB (key : Int) tag rfl ?_
        have hlen := cOpen_len hok (key : Int) tag
        have herr := cOpen_err ts (key : Int) tag
        obtain ⟨s, f, hs⟩ : ∃ a b, cOpen ts (key : Int) tag = (a, b) := ⟨_, _, rfl⟩
        rw [hs] at ho hlen herr ⊢
        dsimp only at ho hlen herr ⊢
        simp -implicitDefEqProofs
        refine ref12_body_ok hR s (by omega) ?_
        rintro v ⟨x, rfl, hx⟩
        rcases herr with rfl | rfl
        · rw [if_pos rfl] at ho
          rw [ho] at hx ⊢
          cases o with
          | none =>
            simp -implicitDefEqProofs [w1, Body.row]
            exact fin _ rfl
          | some t =>
            obtain rfl := hx t rfl
            obtain ⟨n, rfl⟩ : ∃ n, k = n + 1 := ⟨k - 1, by omega⟩
            unfold tLoop at ht
            rw [ho'] at ht
            dsimp only at ht
            rw [ht] at hq
            dsimp only at hq
            subst hq
            simp -implicitDefEqProofs [Body.row]
        · rw [if_neg (by omega)] at ho
          simp -implicitDefEqProofs [w1, Body.row]
          exact fin _ ho.symm
    · obtain rfl : k = 0 := by omega
      rw [ht] at hq
      unfold tLoop at hq
      dsimp only at hq
      subst hq
      by_cases l1 : 0 ≤ e
      · have l2 : ¬ now - e ≤ keep := by omega
        simp -implicitDefEqProofs [l1, l2, w2, Body.row, body0]
      · simp -implicitDefEqProofs [l1, Body.row, body0]
end
end Go.AI

/- Twins of books, the statements of layer 15. -/
set_option linter.all false
namespace Go.AI
variable {A : Type} {R : Adts A}
section
variable {bk rbk : Int → List Bs → A}
theorem law15_twin_ok (hR : R.Ok) (hB : HasBook R bk) (hB' : HasRBook R rbk) (m : Int) {h : AHeap A} {K : AVal → AHeap A → Prop}
    (hk : if 1 ≤ m ∧ m ≤ 65536 then K (.tup [.ptr h.length 0, .ptr (h.length + 1) 0]) (h ++ [.adt (bk m []), .adt (rbk m [])]) else K (.tup [.nilp, .nilp]) h) : Tri Pr R n_law15_twin [.int .i64 m, .nils] h K := by
  apply c_law15_twin
  unfold p_law15_twin
  refine book_New_ok hR hB m ?_
  by_cases hm : 1 ≤ m ∧ m ≤ 65536
  · rw [if_pos hm] at hk ⊢
    simp
    refine rbook_New_ok hR hB' m ?_
    rw [if_pos hm]
    simp
    refine num14_ok ?_
    simp
    refine loopP_unr 1 ?_
    rw [unr]
    simpa using hk
  · rw [if_neg hm] at hk ⊢
    simp
    refine rbook_New_ok hR hB' m ?_
    rw [if_neg hm]
    simp
    refine num14_ok ?_
    simpa using hk
theorem same15_ok (hR : R.Ok) (hB : HasBook R bk) (hB' : HasRBook R rbk) {m : Int} {ts : List Bs} (hok : bOk m ts) {K : AVal → AHeap A → Prop} (hk : K (.bool true) [.adt (bk m ts), .adt (rbk m ts)]) :
    Tri Pr R n_law15_sameBooks [.ptr 0 0, .ptr 1 0] [.adt (bk m ts), .adt (rbk m ts)] K := by
  have hm := hok.most
  have hl := hok.len
  refine Tri.post (Tri.pre (Gives.opened 1 rfl (by simp) fun g hg => ?_))
  obtain rfl := (hB'.lay _ _ _).1 hg
  refine Gives.done (by simp) ?_
  apply c_law15_sameBooks
  unfold p_law15_sameBooks
  by_cases h0 : ts = []
  · subst h0
    simp -implicitDefEqProofs [rbookG, GC.at]
    refine book_Len_ok hR hB rfl ?_
    simp -implicitDefEqProofs
    refine loopP_unr 1 ?_
    rw [unr]
    simp -implicitDefEqProofs
    exact rbook_shutA hR hB' (book_low hB _ _) rfl ⟨_, rfl, hk⟩
  · have e1 := w64 (n := (ts.length : Int) - 40) (by omega)
    simp -implicitDefEqProofs [rbookG, GC.at, h0]
    refine book_Len_ok hR hB rfl ?_
    simp -implicitDefEqProofs [e1]
    refine loopP_go (SameI bk m ts) _
      (Gives.done (by simp) ⟨(if 0 < (ts.length : Int) - 40 then (ts.length : Int) - 40 else 0).toNat, by congr 2; split <;> omega, rfl, by split <;> omega, rfl⟩) ?_
    rintro k y g ⟨i, rfl, rfl, hi, rfl⟩
    by_cases h1 : i < ts.length
    · have e2 := w64 (n := (i : Int) + 1) (by omega)
      simp -implicitDefEqProofs [h1]
      refine book_Term_ok hR hB i rfl ?_
      have hb : bTerm ts i = (ts[i], 0) := by simp [bTerm, h1]
      rw [hb]
      simp -implicitDefEqProofs
      refine num14_ok ?_
      simp -implicitDefEqProofs [h1, e2]
      exact Gives.done (by simp) ⟨ts.length - (i + 1), by omega, i + 1, rfl, rfl, by omega, rfl⟩
    · simp -implicitDefEqProofs [h1]
      exact rbook_shutB hR hB' h0 (book_low hB _ _) rfl ⟨_, rfl, hk⟩
theorem law15_twins_ok (hR : R.Ok) (hB : HasBook R bk) (hB' : HasRBook R rbk) (m : Int) (a : AVal) (l : List Bs) (ha : IsStrs a l) {h : AHeap A} {K : AVal → AHeap A → Prop}
    (hk : if 1 ≤ m ∧ m ≤ 65536 then ∀ ts, bOk m ts → K (.tup [.ptr h.length 0, .ptr (h.length + 1) 0]) (h ++ [.adt (bk m ts), .adt (rbk m ts)]) else K (.tup [.nilp, .nilp]) h) : Tri Pr R n_law15_twin [.int .i64 m, a] h K := by
  by_cases hm : 1 ≤ m ∧ m ≤ 65536
  · rw [if_pos hm] at hk
    have hok : ∀ i, bOk m (bNames m l i) := fun i => bNames_ok hm l i
    obtain ⟨q, hq⟩ : ∃ q, q = 400 := ⟨_, rfl⟩
    refine Tri.make hR (v0 := .tup [.ptr 0 0, .ptr 1 0]) (h0 := [.adt (bk m (bNames m l (min l.length q))), .adt (rbk m (bNames m l (min l.length q)))]) (by simp [ixs, AVal.ix, ha.ix]) (Tri.post ?_) (by simpa [AVal.ren, rens, AObj.ren, hB.ren, hB'.ren] using hk _ (hok _))
    apply c_law15_twin
    unfold p_law15_twin
    refine book_New_ok hR hB m ?_
    rw [if_pos hm]
    simp -implicitDefEqProofs
    refine rbook_New_ok hR hB' m ?_
    rw [if_pos hm]
    simp -implicitDefEqProofs
    refine num14_ok ?_
    simp -implicitDefEqProofs
    refine loopP_go (TwinI q bk rbk m l) q (Gives.done (by simp) ⟨0, rfl, rfl, by omega, by omega, rfl⟩) ?_
    rintro k y g ⟨i, rfl, rfl, i0, i1, rfl⟩
    have e1 := w64 (n := (i : Int) + 1) (by omega)
    simp -implicitDefEqProofs [ha.len]
    by_cases h1 : i < l.length
    · by_cases h2 : (i : Int) < 400
      · simp -implicitDefEqProofs [h1, h2]
        obtain ⟨bb, oo, cs, hg⟩ := ha.get h1
        simp -implicitDefEqProofs [hg]
        refine book_Name_ok hR hB (hok i) _ rfl ?_
        simp -implicitDefEqProofs [hg]
        refine rbook_Name_ok hR hB' (hok i) _ rfl ?_
        simp -implicitDefEqProofs [e1]
        exact Gives.done (by simp) ⟨q - (i + 1), by omega, i + 1, rfl, by rw [bNames_succ h1], by omega, by omega, rfl⟩
      · have : min l.length q = i := by omega
        simp -implicitDefEqProofs [h1, h2, this]
        exact Gives.done (by simp) ⟨_, rfl, rfl, rfl⟩
    · have : min l.length q = i := by omega
      simp -implicitDefEqProofs [h1, this]
      exact Gives.done (by simp) ⟨_, rfl, rfl, rfl⟩
  · rw [if_neg hm] at hk
    apply c_law15_twin
    unfold p_law15_twin
    refine book_New_ok hR hB m ?_
    rw [if_neg hm]
    simp -implicitDefEqProofs
    refine rbook_New_ok hR hB' m ?_
    rw [if_neg hm]
    simp -implicitDefEqProofs
    refine num14_ok ?_
    simpa using hk
end
end Go.AI

/- Events and records that are handed in. -/
set_option linter.all false
namespace Go.AI
theorem len_s {α : Type} {l : List α} {n : Nat} (h : l.length = n + 1) : ∃ x r, l = x :: r ∧ r.length = n := by
  cases l with
  | nil => simp at h
  | cons x r => exact ⟨x, r, rfl, by simpa using h⟩
theorem ev_TR {P : Program} {n : Nat} {e i : TypeId} {f0 f1 f2 f3 f4 f5 f6 f7 : Field} {us : List AVal} (he : P.underlying e = some (.struct #[f0, f1, f2, f3, f4, f5, f6, f7])) (hi : P.underlying i = some (.int .i64)) (hc : P.cellsOf e = 8) (ci : P.cellsOf i = 1)
    (hf : (f0.type = i ∧ f0.offset = 0) ∧ (f1.type = i ∧ f1.offset = 1) ∧ (f2.type = i ∧ f2.offset = 2) ∧ (f3.type = i ∧ f3.offset = 3) ∧ (f4.type = i ∧ f4.offset = 4) ∧ (f5.type = i ∧ f5.offset = 5) ∧ (f6.type = i ∧ f6.offset = 6) ∧ (f7.type = i ∧ f7.offset = 7)) (h : TR P (n + 2) e us) : ∃ x : Ev, us = x.row := by
  obtain ⟨⟨t0, o0⟩, ⟨t1, o1⟩, ⟨t2, o2⟩, ⟨t3, o3⟩, ⟨t4, o4⟩, ⟨t5, o5⟩, ⟨t6, o6⟩, ⟨t7, o7⟩⟩ := hf
  obtain ⟨hr, h6⟩ := TR_struct he h
  rw [hc] at hr
  obtain ⟨r0, r1, r2, r3, r4, r5, r6, r7, rfl⟩ := len_8 hr
  have g0 := h6 0 f0 rfl
  have g1 := h6 1 f1 rfl
  have g2 := h6 2 f2 rfl
  have g3 := h6 3 f3 rfl
  have g4 := h6 4 f4 rfl
  have g5 := h6 5 f5 rfl
  have g6 := h6 6 f6 rfl
  have g7 := h6 7 f7 rfl
  rw [t0, o0, ci] at g0
  rw [t1, o1, ci] at g1
  rw [t2, o2, ci] at g2
  rw [t3, o3, ci] at g3
  rw [t4, o4, ci] at g4
  rw [t5, o5, ci] at g5
  rw [t6, o6, ci] at g6
  rw [t7, o7, ci] at g7
  obtain ⟨x0, e0, _⟩ := TR_int hi g0
  obtain ⟨x1, e1, _⟩ := TR_int hi g1
  obtain ⟨x2, e2, _⟩ := TR_int hi g2
  obtain ⟨x3, e3, _⟩ := TR_int hi g3
  obtain ⟨x4, e4, _⟩ := TR_int hi g4
  obtain ⟨x5, e5, _⟩ := TR_int hi g5
  obtain ⟨x6, e6, _⟩ := TR_int hi g6
  obtain ⟨x7, e7, _⟩ := TR_int hi g7
  simp at e0 e1 e2 e3 e4 e5 e6 e7
  subst e0 e1 e2 e3 e4 e5 e6 e7
  exact ⟨⟨x0, x1, x2, x3, x4, x5, x6, x7⟩, rfl⟩
theorem rec_TR {P : Program} {n : Nat} {t e i : TypeId} {f0 f1 f2 f3 f4 f5 f6 f7 g0 g1 g2 g3 : Field} {us : List AVal} (ht : P.underlying t = some (.struct #[g0, g1, g2, g3])) (he : P.underlying e = some (.struct #[f0, f1, f2, f3, f4, f5, f6, f7])) (hi : P.underlying i = some (.int .i64)) (hct : P.cellsOf t = 11) (hc : P.cellsOf e = 8) (ci : P.cellsOf i = 1)
    (hg : (g0.type = i ∧ g0.offset = 0) ∧ (g1.type = i ∧ g1.offset = 1) ∧ (g2.type = i ∧ g2.offset = 2) ∧ (g3.type = e ∧ g3.offset = 3))
    (hf : (f0.type = i ∧ f0.offset = 0) ∧ (f1.type = i ∧ f1.offset = 1) ∧ (f2.type = i ∧ f2.offset = 2) ∧ (f3.type = i ∧ f3.offset = 3) ∧ (f4.type = i ∧ f4.offset = 4) ∧ (f5.type = i ∧ f5.offset = 5) ∧ (f6.type = i ∧ f6.offset = 6) ∧ (f7.type = i ∧ f7.offset = 7)) (h : TR P (n + 3) t us) : ∃ x : Rec, us = x.row := by
  obtain ⟨⟨t0, o0⟩, ⟨t1, o1⟩, ⟨t2, o2⟩, ⟨t3, o3⟩⟩ := hg
  obtain ⟨hr, h6⟩ := TR_struct ht h
  rw [hct] at hr
  obtain ⟨r0, u1, rfl, hr1⟩ := len_s hr
  obtain ⟨r1, u2, rfl, hr2⟩ := len_s hr1
  obtain ⟨r2, u3, rfl, hr3⟩ := len_s hr2
  have k0 := h6 0 g0 rfl
  have k1 := h6 1 g1 rfl
  have k2 := h6 2 g2 rfl
  have k3 := h6 3 g3 rfl
  rw [t0, o0, ci] at k0
  rw [t1, o1, ci] at k1
  rw [t2, o2, ci] at k2
  rw [t3, o3, hc] at k3
  obtain ⟨x0, e0, _⟩ := TR_int hi k0
  obtain ⟨x1, e1, _⟩ := TR_int hi k1
  obtain ⟨x2, e2, _⟩ := TR_int hi k2
  obtain ⟨x, e3⟩ := ev_TR he hi hc ci hf k3
  simp at e0 e1 e2 e3
  subst e0 e1 e2
  rw [List.take_of_length_le (by omega)] at e3
  subst e3
  exact ⟨⟨x0, x1, x2, x⟩, rfl⟩
/-- A slice of structs that is handed in. -/
def IsRows {α : Type} (f : α → List AVal) (a : AVal) (l : List α) : Prop := (a = .nils ∧ l = []) ∨ ∃ b o cap, a = .lst b o l.length cap (l.flatMap f)
theorem rows_drop {α β : Type} {f : α → List β} {n : Nat} (hf : ∀ x, (f x).length = n) : ∀ (l : List α) (i : Nat) (h : i < l.length), (l.flatMap f).drop (i * n) = f l[i] ++ (l.drop (i + 1)).flatMap f
  | [], i, h => by simp at h
  | a :: r, 0, h => by simp
  | a :: r, i + 1, h => by
    have := rows_drop hf r i (by simpa using h)
    have e1 : (i + 1) * n = (f a).length + i * n := by rw [hf, Nat.succ_mul]; omega
    rw [e1, ← List.drop_drop, List.flatMap_cons, List.drop_left, this]
    simp
theorem IsRows.len {α : Type} {f : α → List AVal} {a : AVal} {l : List α} (h : IsRows f a l) (K : AVal → Prop) : lenP a K = K (.int .i64 l.length) := by
  rcases h with ⟨rfl, rfl⟩ | ⟨b, o, cap, rfl⟩ <;> simp
theorem IsRows.get {α : Type} {f : α → List AVal} {w : Nat} (hf : ∀ x, (f x).length = w) {a : AVal} {l : List α} (h : IsRows f a l) {n : Int} (h0 : 0 ≤ n) (h1 : n < l.length) : ∃ x b o cs, l[n.toNat]? = some x ∧ ∀ K, idxP w a (.int .i64 n) K = K (.fp b o (f x ++ cs)) := by
  rcases h with ⟨rfl, rfl⟩ | ⟨b, o, cap, rfl⟩
  · simp at h1; omega
  · have h2 : n.toNat < l.length := by omega
    refine ⟨l[n.toNat], b, o + n.toNat * w, (l.drop (n.toNat + 1)).flatMap f, List.getElem?_eq_getElem h2, fun K => ?_⟩
    rw [idxP_l K w b o l.length cap _ .i64 n h0 h1, rows_drop hf l n.toNat h2]
theorem rows_TR {P : Program} {n : Nat} {t e : TypeId} {α : Type} {f : α → List AVal} {us : List AVal} (hu : P.underlying t = some (.slice e)) (he : ∀ r, TR P n e r → ∃ x : α, r = f x) (h : TR P (n + 1) t us) : ∃ a l, us = [a] ∧ IsRows f a l := by
  rcases TR_slice hu h with rfl | ⟨b', o, len, cap, rows, rfl, h1, h2, h3, h4⟩
  · exact ⟨_, [], rfl, .inl ⟨rfl, rfl⟩⟩
  · have : ∃ l : List α, rows = l.map f := by
      clear h1 h2 h3 h
      induction rows with
      | nil => exact ⟨[], rfl⟩
      | cons r rs ih =>
        obtain ⟨l, rfl⟩ := ih fun r hr => h4 r (by simp [hr])
        obtain ⟨x, rfl⟩ := he _ (h4 r (by simp)).2
        exact ⟨x :: l, rfl⟩
    obtain ⟨l, rfl⟩ := this
    subst h3
    refine ⟨_, l, rfl, .inr ⟨b', o, cap, ?_⟩⟩
    rw [List.length_map, List.flatMap]
end Go.AI

/- Tickets: the statements. -/
set_option linter.all false
namespace Go.AI
variable {A : Type} {R : Adts A}
theorem shBody (r q : Body) : shEq (Sh.st [(0, 1, Sh.i), (1, 1, Sh.i), (2, 1, Sh.i), (3, 1, Sh.i), (4, 1, Sh.i)]) r.row q.row = some (decide (r = q)) := by
  obtain ⟨x, y, z, k, u⟩ := r
  obtain ⟨x2, y2, z2, k2, u2⟩ := q
  simp [Body.row, shEq, shEqs]
  rfl
theorem bOk_tput {m : Int} {ts q : List Bs} {ep : Int} {b : Body} {n e : Int} (h : bOk m ts) (he : tPut m ts ep b = (q, n, e)) : bOk m q := by
  have := tPut_ok (epoch := ep) (b := b) h
  rwa [he] at this
theorem tPut_bad {m : Int} {ts : List Bs} {ep : Int} {b : Body} (h : bMay b = false) : tPut m ts ep b = (ts, 0, 1500) := by
  unfold tPut; rw [if_neg (by simp [h])]
section
variable {mk : Int → List Bs → A}
theorem TPut_at (hR : R.Ok) (hB : HasBook R mk) {m : Int} {ts q : List Bs} {ep : Int} {t : Body} {n e : Int} (hok : bOk m ts) (he : tPut m ts ep t = (q, n, e)) {h : AHeap A} {b : Nat} (hb : h[b]? = some (.adt (mk m ts))) {K : AVal → AHeap A → Prop}
    (hk : K (.tup [.int .i64 n, .int .i64 e]) (h.set b (.adt (mk m q)))) : Tri Pr R n_ticket_Put [.ptr b 0, .int .i64 ep, .agg t.row] h K := by
  refine ticket_Put_ok hR hB hok ep t hb ?_
  rw [he]; exact hk
theorem TGet_at (hR : R.Ok) (hB : HasBook R mk) {m : Int} {ts : List Bs} {now keep tag : Int} {t : Body} {e : Int} (hok : bOk m ts) (he : tGet ts now keep tag = (t, e)) {h : AHeap A} {b : Nat} (hb : h[b]? = some (.adt (mk m ts))) {K : AVal → AHeap A → Prop}
    (hk : K (.tup [.agg t.row, .int .i64 e]) h) : Tri Pr R n_ticket_Get [.ptr b 0, .int .i64 now, .int .i64 keep, .int .i64 tag] h K := by
  refine ticket_Get_ok hR hB hok now keep tag hb ?_
  rw [he]; exact hk
theorem TGet_nil (hR : R.Ok) (now keep tag : Int) {h : AHeap A} {K : AVal → AHeap A → Prop} (hk : K (.tup [.agg body0.row, .int .i64 1]) h) : Tri Pr R n_ticket_Get [.nilp, .int .i64 now, .int .i64 keep, .int .i64 tag] h K := by
  refine Tri.fn1 hR _ rfl rfl ?_ hk
  apply c_ticket_Get
  unfold p_ticket_Get
  simp -implicitDefEqProofs [Body.row, body0]
  exact Ans.rfl' _
theorem RTPut_at (hR : R.Ok) (hB : HasRBook R mk) {m : Int} {ts q : List Bs} {ep : Int} {t : Body} {n e : Int} (hok : bOk m ts) (he : tPut m ts ep t = (q, n, e)) {h : AHeap A} {b : Nat} (hb : h[b]? = some (.adt (mk m ts))) {K : AVal → AHeap A → Prop}
    (hk : K (.tup [.int .i64 n, .int .i64 e]) (h.set b (.adt (mk m q)))) : Tri Pr R n_ref12_PutTicket [.ptr b 0, .int .i64 ep, .agg t.row] h K := by
  refine ref12_PutTicket_ok hR hB hok ep t hb ?_
  rw [he]; exact hk
theorem RTGet_at (hR : R.Ok) (hB : HasRBook R mk) {m : Int} {ts : List Bs} {now keep tag : Int} {t : Body} {e : Int} (hok : bOk m ts) (he : tGet ts now keep tag = (t, e)) {h : AHeap A} {b : Nat} (hb : h[b]? = some (.adt (mk m ts))) {K : AVal → AHeap A → Prop}
    (hk : K (.tup [.agg t.row, .int .i64 e]) h) : Tri Pr R n_ref12_GetTicket [.ptr b 0, .int .i64 now, .int .i64 keep, .int .i64 tag] h K := by
  refine ref12_GetTicket_ok hR hB hok now keep tag hb ?_
  rw [he]; exact hk
end
section
variable {bk rbk : Int → List Bs → A}
theorem awake15_ok (hR : R.Ok) (hB : HasBook R bk) (hB' : HasRBook R rbk) {h : AHeap A} {K : AVal → AHeap A → Prop} (hk : K (.bool true) h) : Tri Pr R n_law15_awake [] h K := by
  refine Tri.fn1 hR _ rfl rfl ?_ hk
  apply c_law15_awake
  unfold p_law15_awake
  refine law15_twin_ok hR hB hB' 9 ?_
  rw [if_pos (by omega)]
  simp -implicitDefEqProofs
  have b0 : bOk 9 [] := bOk_nil (by omega)
  obtain ⟨t1, e1⟩ : ∃ t : List Bs, t = [65 :: eTerm 4, 83 :: (nS 0 ++ nAll [2, 1, 500, 7, 3])] := ⟨_, rfl⟩
  have k1 : tPut 9 [] 4 ⟨2, 1, 500, 7, 3⟩ = (t1, 1, 0) := by rw [e1]; decide +kernel
  have b1 := bOk_tput b0 k1
  have k2 : tGet t1 5 1 1 = (⟨2, 1, 500, 7, 3⟩, 0) := by rw [e1]; decide +kernel
  have k3 : tGet t1 6 1 1 = (body0, 1501) := by rw [e1]; decide +kernel
  have k4 : tGet t1 3 1 1 = (body0, 1501) := by rw [e1]; decide +kernel
  have k5 : tPut 9 t1 4 ⟨8, 0, 0, 0, 0⟩ = (t1, 0, 1500) := tPut_bad (by decide)
  have k6 : tGet t1 4 1 2 = (body0, 1501) := by rw [e1]; decide +kernel
  have k7 : (t1.length : Int) = 2 := by rw [e1]; rfl
  clear e1
  refine TPut_at (t := ⟨2, 1, 500, 7, 3⟩) hR hB b0 k1 rfl ?_
  simp -implicitDefEqProofs
  refine TGet_at hR hB b1 k2 rfl ?_
  simp -implicitDefEqProofs [Body.row]
  refine TGet_at hR hB b1 k3 rfl ?_
  simp -implicitDefEqProofs [Body.row, body0]
  refine TGet_at hR hB b1 k4 rfl ?_
  simp -implicitDefEqProofs [Body.row, body0]
  refine TPut_at (t := ⟨8, 0, 0, 0, 0⟩) hR hB b1 k5 rfl ?_
  simp -implicitDefEqProofs
  refine TGet_at hR hB b1 k6 rfl ?_
  have hs := shBody ⟨2, 1, 500, 7, 3⟩ ⟨2, 1, 500, 7, 3⟩
  simp only [Body.row] at hs
  simp -implicitDefEqProofs [Body.row, body0]
  repeat (refine num14_ok ?_; simp -implicitDefEqProofs [hs])
  refine Len_at hR hB k7 rfl ?_
  simp -implicitDefEqProofs
  exact Ans.rfl' _
def TicksI (bk rbk : Int → List Bs → A) (m N M : Int) (k : Nat) (y : List AVal) (g : AHeap A) : Prop :=
  ∃ (i : Int) (ts : List Bs), y = [.int .i64 i] ∧ g = [.adt (bk m ts), .adt (rbk m ts)] ∧ bOk m ts ∧ 0 ≤ i ∧ i ≤ 20 ∧ k = (20 - i).toNat
theorem same15_any (hR : R.Ok) (hB : HasBook R bk) (hB' : HasRBook R rbk) {m : Int} {ts : List Bs} (hok : bOk m ts) {r : AHeap A} {K : AVal → AHeap A → Prop} (hk : ∀ H, K (.bool true) H) :
    Tri Pr R n_law15_sameBooks [.ptr 0 0, .ptr 1 0] (.adt (bk m ts) :: .adt (rbk m ts) :: r) K := by
  have s : Sel R [0, 1] (.adt (bk m ts) :: .adt (rbk m ts) :: r : AHeap A) [.adt (bk m ts), .adt (rbk m ts)] := by
    refine ⟨rfl, by decide, fun k o hk => ?_, fun o ho => ?_⟩
    · match k, hk with
      | 0, hk => simp at hk; subst hk; exact ⟨0, rfl, by simp [book_ren hB]⟩
      | 1, hk => simp at hk; subst hk; exact ⟨1, rfl, by simp [rbook_ren hB']⟩
      | k + 2, hk => simp at hk
    · simp only [List.mem_cons, List.not_mem_nil, or_false] at ho
      rcases ho with rfl | rfl
      · exact book_ix hB _ _ _
      · exact rbook_ix hB' _ _ _
  refine (Tri.frame hR s (as2 := [.ptr 0 0, .ptr 1 0]) rfl (same15_ok hR hB hB' hok (K := fun v _ => v = .bool true) rfl)).mono ?_
  rintro v H ⟨v0, h0, rfl, _, rfl, rfl⟩
  exact hk _
theorem Tickets_ok (hR : R.Ok) (hB : HasBook R bk) (hB' : HasRBook R rbk) (most : Int) (a : AVal) (l : List Bs) (ha : IsStrs a l) (b : AVal) (es : List Int) (hb : IsInts b es) (c : AVal) (bs : List Body) (hc : IsRows Body.row c bs) (now keep tag : Int) :
    Tri Pr R n_law15_Tickets [.int .i64 most, a, b, c, .int .i64 now, .int .i64 keep, .int .i64 tag] [] fun u _ => u = .bool true := by
  apply c_law15_Tickets
  unfold p_law15_Tickets
  refine law15_twins_ok hR hB hB' most a l ha ?_
  by_cases hm : 1 ≤ most ∧ most ≤ 65536
  · rw [if_pos hm]
    intro ts0 b0
    simp -implicitDefEqProofs
    refine loopP_go (TicksI bk rbk most es.length bs.length) 20 (Gives.done (by simp) ⟨0, ts0, rfl, rfl, b0, by omega, by omega, rfl⟩) ?_
    rintro k y g ⟨i, ts, rfl, rfl, hok, i0, i20, rfl⟩
    have e2 := w64 (n := i + 1) (by omega)
    by_cases h1 : i < bs.length ∧ i < es.length ∧ i < 20
    · obtain ⟨h1, h2, h3⟩ := h1
      obtain ⟨x, bb, oo, cs, hx, hg⟩ := hc.get (w := 5) (fun x => rfl) i0 h1
      obtain ⟨eb, eo, ec, he⟩ := hb.get i0 h2
      generalize es.getD i.toNat 0 = ep at he
      simp -implicitDefEqProofs [hc.len, hb.len, h1, h2, h3, hg, he, Body.row]
      obtain ⟨⟨q, n, e⟩, k1⟩ : ∃ z, tPut most ts ep x = z := ⟨_, rfl⟩
      have hok' := bOk_tput hok k1
      refine TPut_at (t := x) hR hB hok k1 rfl ?_
      simp -implicitDefEqProofs [hg, he, Body.row]
      refine RTPut_at (t := x) hR hB' hok k1 rfl ?_
      simp -implicitDefEqProofs
      obtain ⟨⟨y, f⟩, k2⟩ : ∃ z, tGet q now keep n = z := ⟨_, rfl⟩
      refine TGet_at hR hB hok' k2 rfl ?_
      simp -implicitDefEqProofs [Body.row]
      refine RTGet_at hR hB' hok' k2 rfl ?_
      have hsy := shBody y y
      simp only [Body.row] at hsy
      simp -implicitDefEqProofs [Body.row]
      refine num14_ok ?_
      simp -implicitDefEqProofs [hsy]
      refine num14_ok ?_
      simp -implicitDefEqProofs [e2]
      refine Gives.cut hR (m := 2) (by simp) (by simp) (by simp [ixs, AVal.ix]) ?_ ?_
      · simp only [List.take, List.mem_cons, List.not_mem_nil, or_false]
        rintro o (rfl | rfl)
        · exact book_low hB _ _
        · exact rbook_low hB' _ _
      · exact ⟨(20 - (i + 1)).toNat, by omega, i + 1, q, rfl, rfl, hok', by omega, by omega, rfl⟩
    · by_cases c1 : i < bs.length
      · by_cases c2 : i < es.length
        · have c3 : ¬ i < 20 := fun h => h1 ⟨c1, c2, h⟩
          simp -implicitDefEqProofs [hc.len, hb.len, c1, c2, c3]
          obtain ⟨⟨y, f⟩, k2⟩ : ∃ z, tGet ts now keep tag = z := ⟨_, rfl⟩
          have hsy := shBody y y
          simp only [Body.row] at hsy
          refine TGet_at hR hB hok k2 rfl ?_
          simp -implicitDefEqProofs [Body.row]
          refine RTGet_at hR hB' hok k2 rfl ?_
          simp -implicitDefEqProofs [Body.row, hsy]
          refine num14_ok ?_
          simp -implicitDefEqProofs
          refine same15_any hR hB hB' hok fun H => ?_
          simp -implicitDefEqProofs
          refine awake15_ok hR hB hB' ?_
          simp -implicitDefEqProofs
        · simp -implicitDefEqProofs [hc.len, hb.len, c1, c2]
          obtain ⟨⟨y, f⟩, k2⟩ : ∃ z, tGet ts now keep tag = z := ⟨_, rfl⟩
          have hsy := shBody y y
          simp only [Body.row] at hsy
          refine TGet_at hR hB hok k2 rfl ?_
          simp -implicitDefEqProofs [Body.row]
          refine RTGet_at hR hB' hok k2 rfl ?_
          simp -implicitDefEqProofs [Body.row, hsy]
          refine num14_ok ?_
          simp -implicitDefEqProofs
          refine same15_any hR hB hB' hok fun H => ?_
          simp -implicitDefEqProofs
          refine awake15_ok hR hB hB' ?_
          simp -implicitDefEqProofs
      · simp -implicitDefEqProofs [hc.len, hb.len, c1]
        obtain ⟨⟨y, f⟩, k2⟩ : ∃ z, tGet ts now keep tag = z := ⟨_, rfl⟩
        have hsy := shBody y y
        simp only [Body.row] at hsy
        refine TGet_at hR hB hok k2 rfl ?_
        simp -implicitDefEqProofs [Body.row]
        refine RTGet_at hR hB' hok k2 rfl ?_
        simp -implicitDefEqProofs [Body.row, hsy]
        refine num14_ok ?_
        simp -implicitDefEqProofs
        refine same15_any hR hB hB' hok fun H => ?_
        simp -implicitDefEqProofs
        refine awake15_ok hR hB hB' ?_
        simp -implicitDefEqProofs
  · rw [if_neg hm]
    simp -implicitDefEqProofs
    refine awake15_ok hR hB hB' ?_
    simp -implicitDefEqProofs
end
end Go.AI

/- TicketBack, TicketForms. -/
set_option linter.all false
namespace Go.AI
variable {A : Type} {R : Adts A}
theorem bMay_nums {b : Body} (h : bMay b = true) : (∀ x ∈ b.nums, nMay x = true) ∧ b.user < 8 := by
  simpa [bMay] using h
/-- A seal is made of a key and of numbers: unlike ones are unlike. -/
theorem nAll_inj : ∀ {l r : List Int}, (∀ x ∈ l, nMay x = true) → (∀ x ∈ r, nMay x = true) → l.length = r.length → nAll l = nAll r → l = r
  | [], [], _, _, _, _ => rfl
  | [], _ :: _, _, _, h, _ => by simp at h
  | _ :: _, [], _, _, h, _ => by simp at h
  | x :: l, y :: r, hl, hr, h, e => by
    rw [nAll_cons, nAll_cons] at e
    obtain ⟨rfl, e2⟩ := nS_head (hl x (by simp)) (hr y (by simp)) e
    rw [nAll_inj (fun z hz => hl z (by simp [hz])) (fun z hz => hr z (by simp [hz])) (by simpa using h) e2]
theorem body_inj {a c : Body} (ha : bMay a = true) (hc : bMay c = true) (h : nAll a.nums = nAll c.nums) : a = c := by
  have := nAll_inj (bMay_nums ha).1 (bMay_nums hc).1 rfl h
  obtain ⟨x, y, z, k, u⟩ := a
  obtain ⟨x2, y2, z2, k2, u2⟩ := c
  simpa [Body.nums] using this
/-- The first ticket of a book. -/
theorem tPut_first {m : Int} {ep : Int} {b : Body} (hm : 2 ≤ m) (he : nMay ep = true) (hb : bMay b = true) : tPut m [] ep b = ([65 :: eTerm ep, 83 :: (nS 0 ++ nAll b.nums)], 1, 0) := by
  have h1 : cMade m [] (65 :: eTerm ep) = ([65 :: eTerm ep], 0, 0) := by
    have := cMade_new (m := m) (ts := []) (s := 65 :: eTerm ep) (by simp) (by have := eTerm_len ep; simp; omega) (by simp) (by simp; omega)
    simpa using this
  have h2 : rKey m [] ep = ([65 :: eTerm ep], 0, 0) := by
    unfold rKey; rw [if_pos he, h1]; rfl
  have hl := nAll_len b.nums
  have hl5 : b.nums.length = 5 := rfl
  have h3 : cKey m [65 :: eTerm ep] 83 0 (nAll b.nums) = ([65 :: eTerm ep, 83 :: (nS 0 ++ nAll b.nums)], 1, 0) := by
    unfold cKey
    rw [if_pos (show nMay 0 = true from rfl)]
    have := cMade_new (m := m) (ts := [65 :: eTerm ep]) (s := 83 :: (nS 0 ++ nAll b.nums)) (by simp) (by have := nS_len 0; simp; omega) (by simp) (by simp; omega)
    simpa using this
  unfold tPut
  rw [if_pos hb, h2]
  simp only [if_true]
  rw [h3]
  rfl
theorem bFind_head (s : Bs) (r : List Bs) : bFind (s :: r) s = some 0 := by rw [bFind_cons, if_pos rfl]
/-- Another one of the same epoch. -/
theorem tPut_second {m : Int} {ep : Int} {a b : Body} (hm : 3 ≤ m) (he : nMay ep = true) (ha : bMay a = true) (hb : bMay b = true) :
    tPut m [65 :: eTerm ep, 83 :: (nS 0 ++ nAll a.nums)] ep b = if b = a then ([65 :: eTerm ep, 83 :: (nS 0 ++ nAll a.nums)], 1, 0) else ([65 :: eTerm ep, 83 :: (nS 0 ++ nAll a.nums), 83 :: (nS 0 ++ nAll b.nums)], 2, 0) := by
  have h1 : cMade m [65 :: eTerm ep, 83 :: (nS 0 ++ nAll a.nums)] (65 :: eTerm ep) = ([65 :: eTerm ep, 83 :: (nS 0 ++ nAll a.nums)], 0, 0) := by
    have := cMade_old (m := m) (ts := [65 :: eTerm ep, 83 :: (nS 0 ++ nAll a.nums)]) (s := 65 :: eTerm ep) (by simp) (by have := eTerm_len ep; simp; omega) (bFind_head _ _)
    simpa using this
  have h2 : rKey m [65 :: eTerm ep, 83 :: (nS 0 ++ nAll a.nums)] ep = ([65 :: eTerm ep, 83 :: (nS 0 ++ nAll a.nums)], 0, 0) := by
    unfold rKey; rw [if_pos he, h1]; rfl
  have hl := nAll_len b.nums
  have hl5 : b.nums.length = 5 := rfl
  have hne : (65 :: eTerm ep : Bs) ≠ 83 :: (nS 0 ++ nAll b.nums) := by simp
  unfold tPut
  rw [if_pos hb, h2]
  simp only [if_true]
  by_cases hab : b = a
  · subst hab
    rw [if_pos rfl]
    have h3 : cKey m [65 :: eTerm ep, 83 :: (nS 0 ++ nAll b.nums)] 83 0 (nAll b.nums) = ([65 :: eTerm ep, 83 :: (nS 0 ++ nAll b.nums)], 1, 0) := by
      unfold cKey
      rw [if_pos (show nMay 0 = true from rfl)]
      have hf : bFind [65 :: eTerm ep, 83 :: (nS 0 ++ nAll b.nums)] (83 :: (nS 0 ++ nAll b.nums)) = some 1 := by
        rw [bFind_cons, if_neg hne, bFind_head]; rfl
      have := cMade_old (m := m) (s := 83 :: (nS 0 ++ nAll b.nums)) (by simp) (by have := nS_len 0; simp; omega) hf
      simpa using this
    rw [h3]
    rfl
  · rw [if_neg hab]
    have hne2 : nAll b.nums ≠ nAll a.nums := fun h => hab (body_inj hb ha h)
    have h3 : cKey m [65 :: eTerm ep, 83 :: (nS 0 ++ nAll a.nums)] 83 0 (nAll b.nums) = ([65 :: eTerm ep, 83 :: (nS 0 ++ nAll a.nums), 83 :: (nS 0 ++ nAll b.nums)], 2, 0) := by
      unfold cKey
      rw [if_pos (show nMay 0 = true from rfl)]
      have := cMade_new (m := m) (ts := [65 :: eTerm ep, 83 :: (nS 0 ++ nAll a.nums)]) (s := 83 :: (nS 0 ++ nAll b.nums)) (by simp) (by have := nS_len 0; simp; omega) (by simp [hne2]) (by simp; omega)
      simpa using this
    rw [h3]
    rfl
section
variable {bk rbk : Int → List Bs → A}
theorem TicketBack_ok (hR : R.Ok) (hB : HasBook R bk) (hB' : HasRBook R rbk) (a c : Body) (epoch now keep : Int) : Tri Pr R n_law15_TicketBack [.agg a.row, .agg c.row, .int .i64 epoch, .int .i64 now, .int .i64 keep] [] fun u _ => u = .bool true := by
  apply c_law15_TicketBack
  unfold p_law15_TicketBack
  simp -implicitDefEqProofs [Body.row]
  refine awake15_ok hR hB hB' ?_
  simp -implicitDefEqProofs
  refine law15_twin_ok hR hB hB' 20 ?_
  rw [if_pos (by omega)]
  have b0 : bOk 20 [] := bOk_nil (by omega)
  rw [bits_mask epoch 10 (by omega) 1023 (by decide), bits_mask now 3 (by omega) 7 (by decide)]
  obtain ⟨ep, hep, ep1, ep2⟩ : ∃ e, epoch % 2 ^ 10 = e ∧ 0 ≤ e ∧ e < 1024 := ⟨_, rfl, by omega, by omega⟩
  obtain ⟨d, hd, d1, d2⟩ : ∃ e, now % 2 ^ 3 = e ∧ 0 ≤ e ∧ e < 8 := ⟨_, rfl, by omega, by omega⟩
  obtain ⟨k, hk, kk, k0, k5⟩ : ∃ k, (IntKind.u64.wrap keep).tmod 5 = k ∧ IntKind.i64.wrap k = k ∧ 0 ≤ k ∧ k < 5 := by
    have h1 : 0 ≤ IntKind.u64.wrap keep := by simp [IntKind.wrap, IntKind.signed, IntKind.bits]; omega
    have h2 := Int.tmod_nonneg 5 h1
    have h3 := Int.tmod_lt_of_pos (IntKind.u64.wrap keep) (b := 5) (by omega)
    exact ⟨_, rfl, w64 (by omega), h2, h3⟩
  rw [hep, hd]
  have w1 := w64 (n := ep + d) (by omega)
  have w2 := w64 (n := ep + d - 2) (by omega)
  have w3 := w64 (n := ep + d - 2 - ep) (by omega)
  have hme : nMay ep = true := by simp only [nMay, decide_eq_true_eq]; omega
  simp -implicitDefEqProofs [hk, kk]
  cases ha : bMay a with
  | false =>
    have k1 := tPut_bad (m := 20) (ts := []) (ep := ep) ha
    refine TPut_at (t := a) hR hB b0 k1 rfl ?_
    obtain ⟨⟨q, n, e⟩, k2⟩ : ∃ z, tPut 20 [] ep c = z := ⟨_, rfl⟩
    simp -implicitDefEqProofs
    refine TPut_at (t := c) hR hB b0 k2 rfl ?_
    simp -implicitDefEqProofs
    refine num14_ok ?_
    simp -implicitDefEqProofs
  | true =>
    have k1 := tPut_first (m := 20) (by omega) hme ha
    have b1 := bOk_tput b0 k1
    cases hc : bMay c with
    | false =>
      have k2 := tPut_bad (m := 20) (ts := [65 :: eTerm ep, 83 :: (nS 0 ++ nAll a.nums)]) (ep := ep) hc
      refine TPut_at (t := a) hR hB b0 k1 rfl ?_
      simp -implicitDefEqProofs
      refine TPut_at (t := c) hR hB b1 k2 rfl ?_
      simp -implicitDefEqProofs
      repeat (refine num14_ok ?_; simp -implicitDefEqProofs)
    | true =>
      have k2 := tPut_second (m := 20) (by omega) hme ha hc
      have g1 : ∀ r : List Bs, nMay (ep + d - 2) = true → tGet ((65 :: eTerm ep) :: (83 :: (nS 0 ++ nAll a.nums)) :: r) (ep + d - 2) k 1 = if ep ≤ ep + d - 2 ∧ ep + d - 2 - ep ≤ k then (a, 0) else (body0, 1501) := fun r hm =>
        tGet_live (key := 0) hme ha (bFind_head _ _) rfl (by
          have := bTerm_get (ts := (65 :: eTerm ep) :: (83 :: (nS 0 ++ nAll a.nums)) :: r) (i := 1) rfl
          simpa using this) hm ⟨k0, by omega⟩
      obtain ⟨q, n2, k2', g1'⟩ : ∃ q n2, tPut 20 [65 :: eTerm ep, 83 :: (nS 0 ++ nAll a.nums)] ep c = (q, n2, 0) ∧ (decide (1 = n2) = decide (a = c) ∧ (nMay (ep + d - 2) = true → tGet q (ep + d - 2) k 1 = if ep ≤ ep + d - 2 ∧ ep + d - 2 - ep ≤ k then (a, 0) else (body0, 1501))) := by
        by_cases hca : c = a
        · rw [if_pos hca] at k2
          exact ⟨_, _, k2, by simp [hca], g1 []⟩
        · rw [if_neg hca] at k2
          exact ⟨_, _, k2, by simp [Ne.symm hca], g1 [_]⟩
      clear k2 g1
      obtain ⟨g0, g1⟩ := g1'
      have b2 := bOk_tput b1 k2'
      obtain ⟨ts1, hts1⟩ : ∃ t, ([65 :: eTerm ep, 83 :: (nS 0 ++ nAll a.nums)] : List Bs) = t := ⟨_, rfl⟩
      rw [hts1] at k1 b1 k2'
      refine TPut_at (t := a) hR hB b0 k1 rfl ?_
      simp -implicitDefEqProofs
      refine TPut_at (t := c) hR hB b1 k2' rfl ?_
      simp -implicitDefEqProofs
      repeat (refine num14_ok ?_; simp -implicitDefEqProofs)
      by_cases hneg : ep + d - 2 < 0
      · simp -implicitDefEqProofs [w1, w2, hneg]
      · have hmm : nMay (ep + d - 2) = true := by simp only [nMay, decide_eq_true_eq]; omega
        have g2 := g1 hmm
        have hsa := shBody a a
        have hsc := shBody a c
        simp only [Body.row] at hsa hsc
        have heq : ((1 : Int) == n2) = decide (a = c) := by rw [← g0]; rfl
        simp -implicitDefEqProofs [w1, w2, hneg]
        by_cases hl1 : ep ≤ ep + d - 2
        · by_cases hl2 : ep + d - 2 - ep ≤ k
          · rw [if_pos ⟨hl1, hl2⟩] at g2
            refine TGet_at hR hB b2 g2 rfl ?_
            simp -implicitDefEqProofs [Body.row, hl1, hl2, w3, heq, hsa, hsc]
            refine num14_ok ?_
            simp -implicitDefEqProofs [hsa]
          · rw [if_neg (fun h => hl2 h.2)] at g2
            refine TGet_at hR hB b2 g2 rfl ?_
            simp -implicitDefEqProofs [Body.row, body0, hl1, hl2, w3, heq, hsa, hsc]
            refine num14_ok ?_
            simp -implicitDefEqProofs [hsa]
        · rw [if_neg (fun h => hl1 h.1)] at g2
          refine TGet_at hR hB b2 g2 rfl ?_
          simp -implicitDefEqProofs [Body.row, body0, hl1, heq, hsa, hsc]
          refine num14_ok ?_
          simp -implicitDefEqProofs [hsa]
def TFJ (ts : List Bs) (o : AHeap A) (vs : List AVal) (g : AHeap A) : Prop := ∃ (ep : Int) (t : Body), tPut 2 ts ep t = (ts, 0, 1500) ∧ vs = [.int .i64 ep] ∧ g = o ++ [.cells t_api_Body t.row]
theorem TicketForms_ok (hR : R.Ok) (hB : HasBook R bk) (hB' : HasRBook R rbk) (which x : Int) : Tri Pr R n_law15_TicketForms [.int .i64 which, .int .i64 x] [] fun u _ => u = .bool true := by
  apply c_law15_TicketForms
  unfold p_law15_TicketForms
  refine awake15_ok hR hB hB' ?_
  simp -implicitDefEqProofs
  rw [bits_mask x 10 (by omega) 1023 (by decide)]
  obtain ⟨d0, hd, d1, d2⟩ : ∃ d, x % 2 ^ 10 = d ∧ 0 ≤ d ∧ d < 1024 := ⟨_, rfl, by omega, by omega⟩
  rw [hd]
  have e1 := w64 (n := 1 + d0) (by omega)
  have e2 := w64 (n := 7 + (1 + d0)) (by omega)
  have e3 := w64 (n := 1073741823 + (1 + d0)) (by omega)
  have e4 := w64 (n := -(1 + d0)) (by omega)
  have e5 := w64 (n := 3 + (1 + d0)) (by omega)
  have e6 := w64 (n := 1073741823 - (1 + d0)) (by omega)
  have e7 := w64 (n := 4 + (1 + d0)) (by omega)
  refine law15_twin_ok hR hB hB' 2 ?_
  rw [if_pos (by omega)]
  simp -implicitDefEqProofs [e1]
  have b0 : bOk 2 [] := bOk_nil (by omega)
  have ha : bMay ⟨7, 1073741823, 1073741823, 1073741823, 1073741823⟩ = true := by decide
  have k1 := tPut_first (m := 2) (ep := 3) (b := ⟨7, 1073741823, 1073741823, 1073741823, 1073741823⟩) (by omega) (by decide) ha
  obtain ⟨t1, f1⟩ : ∃ t : List Bs, t = [65 :: eTerm 3, 83 :: (nS 0 ++ nAll (Body.nums ⟨7, 1073741823, 1073741823, 1073741823, 1073741823⟩))] := ⟨_, rfl⟩
  rw [← f1] at k1
  have b1 := bOk_tput b0 k1
  have k2 : tGet t1 3 0 1 = (⟨7, 1073741823, 1073741823, 1073741823, 1073741823⟩, 0) := by rw [f1]; decide +kernel
  have k3 : ∀ k g, tGet t1 (-(1 + d0)) k g = (body0, 1500) := fun k g => by
    unfold tGet; rw [if_neg]; rintro ⟨h, _⟩; simp only [nMay, decide_eq_true_eq] at h; omega
  have k4 : tGet t1 3 (-(1 + d0)) 1 = (body0, 1500) := by unfold tGet; rw [if_neg]; omega
  have k5 : tGet t1 3 (4 + (1 + d0)) 1 = (body0, 1500) := by unfold tGet; rw [if_neg]; omega
  have k6 : (t1.length : Int) = 2 := by rw [f1]; rfl
  -- there is no room for another epoch's key
  have hep : ∀ ep b, ep ≠ 3 → tPut 2 t1 ep b = (t1, 0, 1500) := by
    intro ep b hne
    cases hm : bMay b with
    | false => exact tPut_bad hm
    | true =>
      have hr : rKey 2 t1 ep = (t1, 0, 1400) := by
        unfold rKey
        cases he : nMay ep with
        | false => rfl
        | true =>
          have hnot : (65 :: eTerm ep : Bs) ∉ t1 := by
            rw [f1]
            simp only [List.mem_cons, List.not_mem_nil, or_false, not_or]
            refine ⟨fun h => hne (aTerm_inj he (by decide) h), by simp⟩
          rw [if_pos rfl, cMade_full hnot (by omega)]
          rfl
      unfold tPut
      rw [if_pos hm, hr]
      rfl
  -- nor for another body's term
  have hbd : ∀ b : Body, b.gen ≠ 1073741823 → tPut 2 t1 3 b = (t1, 0, 1500) := by
    intro b hne
    cases hm : bMay b with
    | false => exact tPut_bad hm
    | true =>
      have hr : rKey 2 t1 3 = (t1, 0, 0) := by rw [f1]; decide +kernel
      have hnot : (83 :: (nS 0 ++ nAll b.nums) : Bs) ∉ t1 := by
        rw [f1]
        simp only [List.mem_cons, List.not_mem_nil, or_false, not_or]
        refine ⟨by simp, fun h => ?_⟩
        have h2 : nAll b.nums = nAll (Body.nums ⟨7, 1073741823, 1073741823, 1073741823, 1073741823⟩) := by simpa using h
        have := body_inj hm ha h2
        rw [this] at hne
        exact hne rfl
      have hk : cKey 2 t1 83 0 (nAll b.nums) = (t1, 0, 300) := by
        unfold cKey
        rw [if_pos (show nMay 0 = true from rfl), cMade_full hnot (by omega)]
      unfold tPut
      rw [if_pos hm, hr]
      simp only [if_true]
      rw [hk]
      rfl
  clear f1
  refine TPut_at (t := ⟨7, 1073741823, 1073741823, 1073741823, 1073741823⟩) hR hB b0 k1 rfl ?_
  simp -implicitDefEqProofs
  refine joinP_all (TFJ t1 [.adt (bk 2 t1), .adt (rbk 2 []), .cells t_api_Body (Body.row ⟨7, 1073741823, 1073741823, 1073741823, 1073741823⟩)]) ?_ ?_
  · obtain ⟨k, hk, k0', k9⟩ : ∃ k, (IntKind.u64.wrap which).tmod 9 = k ∧ 0 ≤ k ∧ k < 9 := by
      have h1 : 0 ≤ IntKind.u64.wrap which := by simp [IntKind.wrap, IntKind.signed, IntKind.bits]; omega
      exact ⟨_, rfl, Int.tmod_nonneg _ h1, Int.tmod_lt_of_pos _ (by omega)⟩
    simp -implicitDefEqProofs [hk, e1, e2, e3, e4, e5, e6]
    refine iteP_of (fun _ => ?_) (fun _ => iteP_of (fun _ => ?_) (fun _ => iteP_of (fun _ => ?_) (fun _ => iteP_of (fun _ => ?_) (fun _ => iteP_of (fun _ => ?_) (fun _ => iteP_of (fun _ => ?_) (fun _ => iteP_of (fun _ => ?_) (fun _ => iteP_of (fun _ => ?_) (fun _ => ?_))))))))
    · exact ⟨3, ⟨7 + (1 + d0), 1073741823, 1073741823, 1073741823, 1073741823⟩, tPut_bad (by simp [bMay]; omega), rfl, rfl⟩
    · exact ⟨3, ⟨-(1 + d0), 1073741823, 1073741823, 1073741823, 1073741823⟩, tPut_bad (by simp [bMay, Body.nums, nMay]; omega), rfl, rfl⟩
    · exact ⟨3, ⟨7, -(1 + d0), 1073741823, 1073741823, 1073741823⟩, tPut_bad (by simp [bMay, Body.nums, nMay]; omega), rfl, rfl⟩
    · exact ⟨3, ⟨7, 1073741823, 1073741823 + (1 + d0), 1073741823, 1073741823⟩, tPut_bad (by simp [bMay, Body.nums, nMay]; omega), rfl, rfl⟩
    · exact ⟨3, ⟨7, 1073741823, 1073741823, -(1 + d0), 1073741823⟩, tPut_bad (by simp [bMay, Body.nums, nMay]; omega), rfl, rfl⟩
    · exact ⟨3, ⟨7, 1073741823, 1073741823, 1073741823, 1073741823 + (1 + d0)⟩, tPut_bad (by simp [bMay, Body.nums, nMay]; omega), rfl, rfl⟩
    · exact ⟨-(1 + d0), ⟨7, 1073741823, 1073741823, 1073741823, 1073741823⟩, hep _ _ (by omega), rfl, rfl⟩
    · exact ⟨3 + (1 + d0), ⟨7, 1073741823, 1073741823, 1073741823, 1073741823⟩, hep _ _ (by omega), rfl, rfl⟩
    · exact ⟨3, ⟨7, 1073741823 - (1 + d0), 1073741823, 1073741823, 1073741823⟩, hbd _ (by simp only; omega), rfl, rfl⟩
  rintro vs _ ⟨ep, t, ht, rfl, rfl⟩
  refine ⟨by simp, ?_⟩
  simp -implicitDefEqProofs [Body.row, e4, e7]
  refine TPut_at (t := t) hR hB b1 ht rfl ?_
  simp -implicitDefEqProofs
  refine TGet_at hR hB b1 (k3 _ _) rfl ?_
  simp -implicitDefEqProofs [Body.row, body0]
  refine TGet_at hR hB b1 k4 rfl ?_
  simp -implicitDefEqProofs [Body.row, body0, e7]
  refine TGet_at hR hB b1 k5 rfl ?_
  simp -implicitDefEqProofs [Body.row, body0]
  refine TGet_nil hR _ _ _ ?_
  simp -implicitDefEqProofs [Body.row, body0]
  refine TGet_at hR hB b1 k2 rfl ?_
  have hs := shBody ⟨7, 1073741823, 1073741823, 1073741823, 1073741823⟩ ⟨7, 1073741823, 1073741823, 1073741823, 1073741823⟩
  simp only [Body.row] at hs
  simp -implicitDefEqProofs [Body.row]
  repeat (refine num14_ok ?_; simp -implicitDefEqProofs [hs])
  refine Len_at hR hB k6 rfl ?_
  simp -implicitDefEqProofs
end
end Go.AI

/- Objects without pointers are picked out of a heap. -/
set_option linter.all false
namespace Go.AI
variable {A : Type} {R : Adts A} {P : Program}
def AObj.closed (R : Adts A) (o : AObj A) : Prop := (∀ m, o.ix R m) ∧ ∀ τ, o.ren R τ = o
theorem closed_cells {t : TypeId} {cs : List AVal} (h : ixs 0 cs = true) : AObj.closed R (.cells t cs : AObj A) :=
  ⟨fun m => ixs_mono (Nat.zero_le m) cs h, fun τ => by simp only [AObj.ren]; rw [rens_ix0 τ _ h]⟩
/-- The heap goes on with the objects that are named, in their order. -/
theorem Gives.selc (hR : R.Ok) {n : Nat} (js : List Nat) (os : AHeap A) (vs2 : List AVal) {vs : List AVal} {h : AHeap A} {K : List AVal → AHeap A → Prop} (hjs : js.Nodup) (hl : js.length = os.length) (hn : ∀ k, k < n → js[k]? = some k)
    (ho : ∀ k j : Nat, js[k]? = some j → h[j]? = os[k]?) (hc : ∀ o ∈ os, o.closed R) (hv : vs = rens (at_ js h.length) vs2) (hx : ixs os.length vs2 = true) (hno : n ≤ os.length) (hk : K vs2 os) : Gives P R n h vs K := by
  refine Gives.keep hR js (h2 := os) (vs2 := vs2) ⟨hl, hjs, fun k o' hk => ?_, fun o' ho' => (hc o' ho').1 _⟩ hv hx hn (Gives.done hno hk)
  have hk2 := (List.getElem?_eq_some_iff.1 hk).1
  refine ⟨js[k]'(by omega), List.getElem?_eq_getElem (by omega), ?_⟩
  rw [(hc o' (List.mem_of_getElem? hk)).2, ho k _ (List.getElem?_eq_getElem (by omega)), hk]
end Go.AI

/- TicketMany. -/
set_option linter.all false
namespace Go.AI
variable {A : Type} {R : Adts A}
/-- A term is made: its name stands for it; the others stay. -/
theorem made_step {m : Int} {ts : List Bs} {s : Bs} (h0 : s ≠ []) (hs : s.length ≤ 512) (hm : (ts.length : Int) < m) :
    ∃ (ts' : List Bs) (n : Nat), cMade m ts s = (ts', (n : Int), 0) ∧ bTerm ts' (n : Int) = (s, 0) ∧ n < ts'.length ∧ ts'.length ≤ ts.length + 1 ∧ (∀ t r, bTerm ts t = (r, 0) → bTerm ts' t = (r, 0)) := by
  by_cases hmem : s ∈ ts
  · obtain ⟨i, h1, h2, h3⟩ := bFind_mem hmem
    exact ⟨ts, i, cMade_old h0 hs h1, bTerm_get h3, h2, by omega, fun t r h => h⟩
  · exact ⟨ts ++ [s], ts.length, cMade_new h0 hs hmem hm, bTerm_get (by simp), by simp, by simp, fun t r h => bTerm_app [s] h⟩
theorem bFind_nd {ts : List Bs} (hn : ts.Nodup) {i : Nat} {s : Bs} (h : bTerm ts (i : Int) = (s, 0)) : bFind ts s = some i := by
  obtain ⟨j, e, hj⟩ := bTerm_iff.1 h
  obtain rfl : i = j := by omega
  obtain ⟨k, h1, _, h2⟩ := bFind_mem (List.mem_of_getElem? hj)
  rw [h1, nd_get hn hj h2]
/-- A ticket that may be is made while there is room. -/
theorem tPut_any {m : Int} {ts : List Bs} {ep : Int} {b : Body} (hok : bOk m ts) (he : nMay ep = true) (hb : bMay b = true) (hm : (ts.length : Int) + 2 ≤ m) :
    ∃ (ts' : List Bs) (tag : Int) (key : Nat), tPut m ts ep b = (ts', tag, 0) ∧ bOk m ts' ∧ bTerm ts' (key : Int) = (65 :: eTerm ep, 0) ∧ nMay (key : Int) = true ∧ bTerm ts' tag = (83 :: (nS (key : Int) ++ nAll b.nums), 0) ∧ ts'.length ≤ ts.length + 2 ∧ (∀ t r, bTerm ts t = (r, 0) → bTerm ts' t = (r, 0)) := by
  have hmo := hok.most
  have hel := eTerm_len ep
  obtain ⟨t1, key, k1, k2, k3, k4, k5⟩ := made_step (m := m) (ts := ts) (s := 65 :: eTerm ep) (by simp) (by simp; omega) (by omega)
  have hl := nAll_len b.nums
  have hl5 : b.nums.length = 5 := rfl
  have hkey : nMay (key : Int) = true := by simp only [nMay, decide_eq_true_eq]; omega
  obtain ⟨t2, tag, j1, j2, j3, j4, _⟩ := key_step (m := m) (ts := t1) (k := 83) (x := (key : Int)) (s := nAll b.nums) hkey (by omega) (by omega)
  have hr : rKey m ts ep = (t1, (key : Int), 0) := by
    unfold rKey; rw [if_pos he, k1]; rfl
  have hp : tPut m ts ep b = (t2, tag, 0) := by
    unfold tPut
    rw [if_pos hb, hr]
    simp only [if_true]
    rw [j1]
    rfl
  exact ⟨t2, tag, key, hp, bOk_tput hok hp, j4 _ _ k2, hkey, j2, by omega, fun t r h => j4 _ _ (k5 _ _ h)⟩
def manyB (i : Int) : Body := ⟨i % 8, 0, 0, i, 5⟩
theorem manyB_may {i : Int} (h : 0 ≤ i ∧ i < 12) : bMay (manyB i) = true := by
  have hk : ∀ k : Fin 12, bMay (manyB (k.val : Int)) = true := by decide
  obtain ⟨k, rfl⟩ := Int.eq_ofNat_of_zero_le h.1
  exact hk ⟨k, by omega⟩
/-- Tickets of several epochs, and their names. -/
structure TMany (es : List Int) (ts : List Bs) (tg : List Int) : Prop where
  ok : bOk 99 ts
  len : ts.length ≤ 2 * tg.length
  few : tg.length ≤ 12
  tag : ∀ (j : Nat) t, tg[j]? = some t → ∃ (e : Int) (key : Nat), es[j]? = some e ∧ bTerm ts (key : Int) = (65 :: eTerm (e % 8), 0) ∧ nMay (key : Int) = true ∧ bTerm ts t = (83 :: (nS (key : Int) ++ nAll (manyB j).nums), 0)
theorem TMany.get {es : List Int} {ts : List Bs} {tg : List Int} (h : TMany es ts tg) {j : Nat} {t : Int} (hj : tg[j]? = some t) {now keep : Int} (hn : 0 ≤ now ∧ now < 16) (hk : 0 ≤ keep ∧ keep ≤ 4) :
    ∃ e, es[j]? = some e ∧ tGet ts now keep t = if e % 8 ≤ now ∧ now - e % 8 ≤ keep then (manyB j, 0) else (body0, 1501) := by
  obtain ⟨e, key, h1, h2, h3, h4⟩ := h.tag j t hj
  have hjl := (List.getElem?_eq_some_iff.1 hj).1
  have hf := h.few
  refine ⟨e, h1, tGet_live ?_ (manyB_may (by omega)) (bFind_nd h.ok.nd h2) h3 h4 ?_ hk⟩
  · have : 0 ≤ e % 8 ∧ e % 8 < 8 := by omega
    simp only [nMay, decide_eq_true_eq]; omega
  · simp only [nMay, decide_eq_true_eq]; omega
theorem TMany.snoc {es : List Int} {ts : List Bs} {tg : List Int} (h : TMany es ts tg) {e : Int} (he : es[tg.length]? = some e) (hf : tg.length < 12) :
    ∃ ts' tag, tPut 99 ts (e % 8) (manyB tg.length) = (ts', tag, 0) ∧ TMany es ts' (tg ++ [tag]) := by
  have hl := h.len
  obtain ⟨ts', tag, key, p1, p2, p3, p4, p5, p6, p7⟩ := tPut_any (ep := e % 8) (b := manyB tg.length) h.ok (by simp only [nMay, decide_eq_true_eq]; omega) (manyB_may (by omega)) (by omega)
  refine ⟨ts', tag, p1, p2, by simp; omega, by simp; omega, fun j t hj => ?_⟩
  by_cases hj2 : j < tg.length
  · rw [List.getElem?_append_left hj2] at hj
    obtain ⟨e', key', a1, a2, a3, a4⟩ := h.tag j t hj
    exact ⟨e', key', a1, p7 _ _ a2, a3, p7 _ _ a4⟩
  · rw [List.getElem?_append_right (by omega)] at hj
    obtain rfl : j = tg.length := by
      have := (List.getElem?_eq_some_iff.1 hj).1; simp at this; omega
    simp at hj; subst hj
    exact ⟨e, key, he, p3, p4, p5⟩
theorem room_8m {n : Nat} (h : n ≤ 1000) : (2 * n + 1000) * 8 ≤ 140737488355328 := by omega
section
variable {bk rbk : Int → List Bs → A}
def TMG (bk rbk : Int → List Bs → A) (ts : List Bs) (tg : List Int) (x : AVal) (g : AHeap A) : Prop :=
  (tg = [] ∧ x = .nils ∧ g = [.adt (bk 99 ts), .adt (rbk 99 [])]) ∨ (tg ≠ [] ∧ x = .sl 2 0 tg.length tg.length false ∧ g = [.adt (bk 99 ts), .adt (rbk 99 []), .cells t_int (tg.map (.int .i64))])
def TMI (bk rbk : Int → List Bs → A) (es : List Int) (n : Int) (m : Nat) (y : List AVal) (g : AHeap A) : Prop :=
  ∃ (ts : List Bs) (tg : List Int) (x : AVal), y = [x, .int .i64 tg.length] ∧ TMany es ts tg ∧ TMG bk rbk ts tg x g ∧ tg.length ≤ n ∧ m = (n - tg.length).toNat
def TMJ (base : AHeap A) (n m : Nat) (y : List AVal) (g : AHeap A) : Prop := ∃ j : Nat, y = [.int .i64 (j : Int)] ∧ j ≤ n ∧ g = base ∧ m = n - j
theorem book_shutc (hB : HasBook R bk) (m : Int) (ts : List Bs) : AObj.closed R (.adt (bk m ts) : AObj A) := ⟨fun n => book_ix hB m ts n, fun τ => book_ren hB m ts τ⟩
theorem rbook_shutc (hB : HasRBook R rbk) (m : Int) (ts : List Bs) : AObj.closed R (.adt (rbk m ts) : AObj A) := ⟨fun n => rbook_ix hB m ts n, fun τ => rbook_ren hB m ts τ⟩
theorem TicketMany_ok (hR : R.Ok) (hB : HasBook R bk) (hB' : HasRBook R rbk) (a : AVal) (es : List Int) (ha : IsInts a es) (now keep : Int) : Tri Pr R n_law15_TicketMany [a, .int .i64 now, .int .i64 keep] [] fun u _ => u = .bool true := by
  apply c_law15_TicketMany
  unfold p_law15_TicketMany
  refine awake15_ok hR hB hB' ?_
  simp -implicitDefEqProofs
  refine law15_twin_ok hR hB hB' 99 ?_
  rw [if_pos (by omega)]
  simp -implicitDefEqProofs [ha.len]
  obtain ⟨n, hn, hn1, hn2⟩ : ∃ n : Nat, (if (12 : Int) < (es.length : Int) then (12 : Int) else (es.length : Int)) = (n : Int) ∧ n ≤ es.length ∧ n ≤ 12 := by
    by_cases h : (12 : Int) < (es.length : Int)
    · exact ⟨12, by rw [if_pos h]; rfl, by omega, by omega⟩
    · exact ⟨es.length, by rw [if_neg h], by omega, by omega⟩
  rw [hn]
  refine loopP_go (TMI bk rbk es n) n (Gives.done (by simp) ⟨[], [], _, rfl, ⟨bOk_nil (by omega), by simp, by simp, by simp⟩, .inl ⟨rfl, rfl, rfl⟩, by simp, by simp⟩) ?_
  rintro m y g ⟨ts, tg, x, rfl, tm, hg, hnn, rfl⟩
  have hok := tm.ok
  have hnn' : tg.length ≤ n := by omega
  by_cases h1 : tg.length < n
  · have h1' : (tg.length : Int) < (n : Int) := by omega
    have e1 := w64 (n := (tg.length : Int) + 1) (by omega)
    obtain ⟨bb, oo, cs, hget⟩ := ha.get (n := (tg.length : Int)) (by omega) (by omega)
    have hes : es[tg.length]? = some (es.getD (tg.length : Int).toNat 0) := by
      rw [List.getD_eq_getElem?_getD, Int.toNat_natCast, List.getElem?_eq_getElem (by omega)]; rfl
    obtain ⟨ts', tag, p1, tm'⟩ := tm.snoc hes (by omega)
    generalize es.getD (tg.length : Int).toNat 0 = e at hget p1
    have hmany : (manyB (tg.length : Int)).row = [.int .i64 ((tg.length : Int) % 8), .int .i64 0, .int .i64 0, .int .i64 tg.length, .int .i64 5] := rfl
    have fin : ∀ (h : AHeap A) (c k : Nat), c ≠ 0 → c ≠ 1 → k = tg.length + 1 → h[0]? = some (.adt (bk 99 ts')) → h[1]? = some (.adt (rbk 99 [])) → h[c]? = some (.cells t_int ((tg ++ [tag]).map (.int .i64))) →
        Gives Pr R 2 h [.sl c 0 k k false, .int .i64 ((tg.length : Int) + 1)] fun z g => ∃ m', m' < n - tg.length ∧ TMI bk rbk es n m' z g := by
      rintro h c k c0 c1 rfl q0 q1 q2
      refine Gives.selc hR [0, 1, c] [.adt (bk 99 ts'), .adt (rbk 99 []), .cells t_int ((tg ++ [tag]).map (.int .i64))] [.sl 2 0 (tg.length + 1) (tg.length + 1) false, .int .i64 ((tg.length : Int) + 1)] (by simp; omega) rfl (fun k hk => ?_) (fun k j hk => ?_) ?_ ?_ rfl (by simp) ?_
      · match k, hk with
        | 0, _ => rfl
        | 1, _ => rfl
      · match k, hk with
        | 0, hk => simp at hk; subst hk; simpa using q0
        | 1, hk => simp at hk; subst hk; simpa using q1
        | 2, hk => simp at hk; subst hk; simpa using q2
        | k + 3, hk => simp at hk
      · intro o ho
        simp only [List.mem_cons, List.not_mem_nil, or_false] at ho
        rcases ho with rfl | rfl | rfl
        · exact book_shutc hB _ _
        · exact rbook_shutc hB' _ _
        · exact closed_cells (by simp [ixs_all, AVal.ix])
      · simp [rens, AVal.ren, at_]
      · exact ⟨(n - (tg ++ [tag]).length : Int).toNat, by simp; omega, ts', tg ++ [tag], .sl 2 0 (tg.length + 1) (tg.length + 1) false, by simp, tm', .inr ⟨by simp, by simp, rfl⟩, by simp; omega, rfl⟩
    simp -implicitDefEqProofs [h1', hget]
    rw [bits_mask e 3 (by omega) 7 (by decide), bits_mask (tg.length : Int) 3 (by omega) 7 (by decide)]
    rcases hg with ⟨rfl, rfl, rfl⟩ | ⟨hne, rfl, rfl⟩
    · refine TPut_at (t := manyB 0) hR hB hok p1 rfl ?_
      simp -implicitDefEqProofs
      refine num14_ok ?_
      simp -implicitDefEqProofs [appP, appV, srcOf, cellsAt]
      simpa using fin [.adt (bk 99 ts'), .adt (rbk 99 []), .cells t_int [.int .i64 tag], .cells t_int [.int .i64 tag]] 3 1 (by decide) (by decide) rfl rfl rfl rfl
    · refine TPut_at (t := manyB tg.length) hR hB hok p1 rfl ?_
      simp -implicitDefEqProofs
      refine num14_ok ?_
      have hl1 : (tg.map (AVal.int .i64)).length = tg.length := by simp
      obtain ⟨C, hC⟩ : ∃ C, tg.map (AVal.int .i64) = C := ⟨_, rfl⟩
      rw [hC] at hl1
      have t1 : C.take tg.length = C := List.take_of_length_le (by omega)
      have r1 : (2 * (tg.length + 1) + 1000) * 8 ≤ 140737488355328 := room_8m (by omega)
      have n1 : ¬ tg.length + 1 ≤ tg.length := by omega
      rw [hC]
      simp -implicitDefEqProofs [appP, appV, srcOf, cellsAt, hl1, t1, r1, n1, e1]
      exact fin _ 4 _ (by decide) (by decide) rfl rfl rfl (by simp [← hC])
  · have h1' : ¬ (tg.length : Int) < (n : Int) := by omega
    obtain rfl : n = tg.length := by omega
    rw [bits_mask now 4 (by omega) 15 (by decide)]
    obtain ⟨nw, hnw, nw0, nw1⟩ : ∃ e, now % 2 ^ 4 = e ∧ 0 ≤ e ∧ e < 16 := ⟨_, rfl, by omega, by omega⟩
    obtain ⟨k, hk, kk, k0, k5⟩ : ∃ k, (IntKind.u64.wrap keep).tmod 5 = k ∧ IntKind.i64.wrap k = k ∧ 0 ≤ k ∧ k < 5 := by
      have h1 : 0 ≤ IntKind.u64.wrap keep := by simp [IntKind.wrap, IntKind.signed, IntKind.bits]; omega
      have h2 := Int.tmod_nonneg 5 h1
      have h3 := Int.tmod_lt_of_pos (IntKind.u64.wrap keep) (b := 5) (by omega)
      exact ⟨_, rfl, w64 (by omega), h2, h3⟩
    rw [hnw]
    simp -implicitDefEqProofs [hk, kk]
    rcases hg with ⟨rfl, rfl, rfl⟩ | ⟨hne, rfl, rfl⟩
    · refine Len_at hR hB rfl rfl ?_
      simp -implicitDefEqProofs
      refine loopP_unr 1 ?_
      rw [unr]
      simp -implicitDefEqProofs
      refine Len_at hR hB rfl rfl ?_
      simp -implicitDefEqProofs
    · refine Len_at hR hB rfl rfl ?_
      have hget := fun (j : Nat) (t : Int) (hj : tg[j]? = some t) => tm.get hj (now := nw) (keep := k) ⟨nw0, nw1⟩ ⟨k0, by omega⟩
      have hC1 : ∀ (j : Nat) (t : Int), tg[j]? = some t → (tg.map (AVal.int .i64))[j]? = some (.int .i64 t) := fun j t hj => by rw [List.getElem?_map, hj]; rfl
      have hcut : ∀ o ∈ ([.adt (bk 99 ts), .adt (rbk 99 []), .cells t_int (tg.map (.int .i64))] : AHeap A), o.low R 3 := by
        simp only [List.mem_cons, List.not_mem_nil, or_false]
        rintro o (rfl | rfl | rfl)
        · exact book_low hB _ _
        · exact rbook_low hB' _ _
        · exact low_cells (by simp [ixs_all, AVal.ix])
      obtain ⟨C, hC⟩ : ∃ C, tg.map (AVal.int .i64) = C := ⟨_, rfl⟩
      rw [hC] at hC1 hcut
      rw [hC]
      refine loopP_go (TMJ _ tg.length) tg.length (Gives.done (by simp) ⟨0, rfl, by omega, rfl, by omega⟩) ?_
      rintro m y g ⟨j, rfl, hj, rfl, rfl⟩
      have e2 := w64 (n := (j : Int) + 1) (by omega)
      by_cases hjl : j < tg.length
      · obtain ⟨t, ht⟩ : ∃ t, tg[j]? = some t := ⟨_, List.getElem?_eq_getElem hjl⟩
        obtain ⟨e, he, hg1⟩ := hget j t ht
        have hc1 := hC1 j t ht
        obtain ⟨bb, oo, cs, hgt⟩ := ha.get (n := (j : Int)) (by omega) (by omega)
        have hes : es.getD (j : Int).toNat 0 = e := by
          rw [List.getD_eq_getElem?_getD, Int.toNat_natCast, he]; rfl
        rw [hes] at hgt
        have hmb : manyB (j : Int) = ⟨(j : Int) % 8, 0, 0, j, 5⟩ := rfl
        have hsj := shBody (manyB (j : Int)) (manyB (j : Int))
        rw [hmb] at hsj hg1
        simp only [Body.row] at hsj
        have w3 := w64 (n := nw - e % 8) (by omega)
        have p8 : (2 : Int) ^ 3 = 8 := by decide
        have bj : bits .i64 (· &&& ·) (j : Int) 7 = (j : Int) % 8 := by rw [bits_mask (j : Int) 3 (by omega) 7 (by decide), p8]
        simp -implicitDefEqProofs [hjl, hc1]
        have fin : ∀ r : AHeap A, Gives Pr R 3 (.adt (bk 99 ts) :: .adt (rbk 99 []) :: .cells t_int C :: r) [.int .i64 ((j : Int) + 1)] fun z k => ∃ m', m' < tg.length - j ∧ TMJ [.adt (bk 99 ts), .adt (rbk 99 []), .cells t_int C] tg.length m' z k := fun r =>
          Gives.cut hR (m := 3) (by simp) (by simp) (by simp [ixs, AVal.ix]) hcut ⟨tg.length - (j + 1), by omega, j + 1, rfl, by omega, rfl, rfl⟩
        by_cases l1 : e % 8 ≤ nw
        · by_cases l2 : nw - e % 8 ≤ k
          · rw [if_pos ⟨l1, l2⟩] at hg1
            refine TGet_at hR hB hok hg1 rfl ?_
            simp -implicitDefEqProofs [Body.row, hgt]
            rw [bits_mask e 3 (by omega) 7 (by decide)]
            rw [p8]
            simp -implicitDefEqProofs [l1, l2, w3]
            refine num14_ok ?_
            simp -implicitDefEqProofs [bj, hsj, e2]
            exact fin _
          · rw [if_neg (fun h => l2 h.2)] at hg1
            refine TGet_at hR hB hok hg1 rfl ?_
            simp -implicitDefEqProofs [Body.row, body0, hgt]
            rw [bits_mask e 3 (by omega) 7 (by decide)]
            rw [p8]
            simp -implicitDefEqProofs [l1, l2, w3]
            refine num14_ok ?_
            simp -implicitDefEqProofs [e2]
            exact fin _
        · rw [if_neg (fun h => l1 h.1)] at hg1
          refine TGet_at hR hB hok hg1 rfl ?_
          simp -implicitDefEqProofs [Body.row, body0, hgt]
          rw [bits_mask e 3 (by omega) 7 (by decide)]
          rw [p8]
          simp -implicitDefEqProofs [l1]
          refine num14_ok ?_
          simp -implicitDefEqProofs [e2]
          exact fin _
      · simp -implicitDefEqProofs [hjl]
        refine Len_at hR hB rfl rfl ?_
        simp -implicitDefEqProofs
end
end Go.AI

/- TicketForge. -/
set_option linter.all false
namespace Go.AI
variable {A : Type} {R : Adts A}
theorem ref1_Nums_one (hR : R.Ok) (x : Int) (ex : Bool) {t : TypeId} {h : AHeap A} {b : Nat} (hb : h[b]? = some (.cells t [.int .i64 x])) {K : AVal → AHeap A → Prop} (hk : K (.str (nS x)) h) : Tri Pr R n_ref1_Nums [.sl b 0 1 1 ex] h K := by
  refine ref1_Nums_ok hR [x] (by simp) ex hb ?_
  rw [nAll_one]; exact hk
def forgeL (bd z kk t : Bs) : List Bs := [[72] ++ bd, [65] ++ bd, [77] ++ z ++ bd, [83] ++ kk ++ bd, [83] ++ z ++ bd ++ [0] ++ t, [83] ++ z ++ bd.drop 1]
def ForgeJ (base : AHeap A) (six : List Bs) (vs : List AVal) (g : AHeap A) : Prop := ∃ p, vs = [.sl p 0 6 6 true] ∧ g.take 4 = base ∧ g[p]? = some (.cells t_string (six.map .str)) ∧ 4 ≤ p
theorem bsl_go {e : TypeId} {n : Nat} {zs : List AVal} {ps : List (Nat × Nat × AVal)} {h : AHeap A} {K : AVal → AHeap A → Prop} (cs : List AVal) (h1 : fillA zs ps = some cs) (h2 : cs.all AVal.scalar = true) (hk : K (.sl h.length 0 n n true) (h ++ [.cells e cs])) : bslP e n zs ps h K := by
  unfold bslP; rw [h1]; simp only [h2, if_true]; exact hk
theorem bsl_one {e : TypeId} {x : Int} {h : AHeap A} {K : AVal → AHeap A → Prop} (hk : K (.sl h.length 0 1 1 true) (h ++ [.cells e [.int .i64 x]])) : bslP e 1 [.int .i64 0] [(0, 1, .int .i64 x)] h K := bsl_go _ rfl rfl hk
theorem bsl_six {e : TypeId} {x0 x1 x2 x3 x4 x5 : Bs} {h : AHeap A} {K : AVal → AHeap A → Prop} (hk : K (.sl h.length 0 6 6 true) (h ++ [.cells e [.str x0, .str x1, .str x2, .str x3, .str x4, .str x5]])) :
    bslP e 6 [.str [], .str [], .str [], .str [], .str [], .str []] [(0, 1, .str x0), (1, 1, .str x1), (2, 1, .str x2), (3, 1, .str x3), (4, 1, .str x4), (5, 1, .str x5)] h K := bsl_go _ rfl rfl hk
theorem bin_add {s t : Bs} {K : AVal → Prop} (hl : s.length + t.length < 9223372036854775808) (hk : K (.str (s ++ t))) : binP .add .other (.str s) (.str t) K := by
  unfold binP; simpa [binV, binS, hl] using hk
theorem sub_go {s : Bs} {K : AVal → Prop} (hl : 1 ≤ s.length) (hk : K (.str (s.drop 1))) : subP (.str s) (some (.int .i64 1)) none K := by
  have e := subP_sn s .i64 1 (K := K) (by omega) (by omega)
  rw [e]; exact hk
theorem forge_end {base : AHeap A} {six : List Bs} {h : AHeap A} (h0 : h.take 4 = base) (h3 : 4 ≤ h.length) {o : AObj A} (ho : o = .cells t_string (six.map .str)) : ForgeJ base six [.sl h.length 0 6 6 true] (h ++ [o]) :=
  ⟨_, rfl, by rw [List.take_append_of_le_length h3]; exact h0, by rw [ho]; simp, h3⟩
theorem take_app {base : AHeap A} {h : AHeap A} {o : AObj A} (h0 : h.take 4 = base) (h3 : 4 ≤ h.length) : (h ++ [o]).take 4 = base := by
  rw [List.take_append_of_le_length h3]; exact h0
theorem at_last {h : AHeap A} {c : AObj A} : (h ++ [c])[h.length]? = some c := by simp
theorem at_app {h : AHeap A} {c x : AObj A} {i : Nat} (hx : h[i]? = some x) : (h ++ [c])[i]? = some x := by
  have := (List.getElem?_eq_some_iff.1 hx).1
  rw [List.getElem?_append_left this]; exact hx
theorem len_app {h : AHeap A} {c : AObj A} (hx : 4 ≤ h.length) : 4 ≤ (h ++ [c]).length := by simp; omega
set_option maxHeartbeats 4000000 in
theorem forge_region (hR : R.Ok) {a0 : AVal} {i k : Int} {t bd : Bs} {b o : Nat} {cs : List AVal} (hg : ∀ K, idxP 1 a0 (.int .i64 i) K = K (.fp b o (.str t :: cs))) (ht : t.length < 9000000000000000000) (hb1 : bd.length ≤ 25) (hb2 : 1 ≤ bd.length) (B C D E : AObj A) :
    d_law15_TicketForge_k46 (Tri Pr R) (Gives Pr R) a0 (.int .i64 0) (.str bd) (.int .i64 i) (.int .i64 k) (ForgeJ [B, C, D, E] (forgeL bd (nS 0) (nS k) t)) [B, C, D, E] := by
  unfold d_law15_TicketForge_k46
  have z1 := nS_len 0
  have z2 := nS_len k
  have hd1 : (bd.drop 1).length ≤ 25 := by simp; omega
  refine bin_add (by simp; omega) ?_
  refine bin_add (by simp; omega) ?_
  rw [hg]
  refine sub_go hb2 ?_
  have hld : ∀ (K : AVal → Prop) (h : AHeap A), K (.str t) → ldP 1 false (.fp b o (.str t :: cs)) h K := fun K h hk => hk
  refine hld _ _ ?_
  clear hg hld
  repeat' (first
    | with_reducible exact at_last
    | with_reducible refine at_app ?_
    | with_reducible refine len_app ?_
    | with_reducible refine take_app ?_ ?_
    | with_reducible refine bsl_one ?_
    | with_reducible refine bsl_six ?_
    | with_reducible refine bin_add ?_ ?_
    | with_reducible apply ref1_Nums_one hR
    | with_reducible refine And.intro ?_ ?_
    | with_reducible refine forge_end ?_ ?_ ?_
    | (simp only [List.length_append, List.length_cons, List.length_nil]; omega)
    | rfl)
end Go.AI

/- TicketForge. -/
set_option linter.all false
namespace Go.AI
variable {A : Type} {R : Adts A}
def forgeB : Body := ⟨1, 0, 0, 0, 2⟩
/-- A name that is given is of the term. -/
theorem bName_term {m : Int} {ts q : List Bs} {s : Bs} {x : Int} (h : bName m ts s = (q, x, 0)) : bTerm q x = (s, 0) := by
  unfold bName at h
  split at h
  · simp at h
  · split at h
    · rename_i i hi
      simp at h
      obtain ⟨rfl, rfl⟩ := h
      exact bTerm_get (bFind_some hi)
    · split at h
      · simp at h
      · simp at h
        obtain ⟨rfl, rfl⟩ := h
        exact bTerm_get (by simp)
theorem bName_pre {m : Int} {ts : List Bs} {s : Bs} : ∃ r, (bName m ts s).1 = ts ++ r := by
  unfold bName
  split
  · exact ⟨[], by simp⟩
  · split
    · exact ⟨[], by simp⟩
    · split
      · exact ⟨[], by simp⟩
      · exact ⟨[s], rfl⟩
/-- No term of these is a ticket of the key. -/
theorem forge_not {k : Int} (hk : nMay k = true) (k0 : k ≠ 0) (t : Bs) : ∀ s ∈ forgeL (nAll forgeB.nums) (nS 0) (nS k) t, ∀ b : Body, bMay b = true → s ≠ 83 :: (nS 0 ++ nAll b.nums) := by
  intro s hs b hb he
  have hn := bMay_nums hb
  unfold forgeL at hs
  simp only [List.mem_cons, List.not_mem_nil, or_false] at hs
  rcases hs with rfl | rfl | rfl | rfl | rfl | rfl
  · simp at he
  · simp at he
  · simp at he
  · simp only [List.cons_append, List.nil_append, List.append_assoc, List.cons.injEq, true_and] at he
    exact k0 (nS_head hk rfl he).1
  · simp only [List.cons_append, List.nil_append, List.append_assoc, List.cons.injEq, true_and] at he
    have h1 := (nS_head rfl rfl he).2
    simp only [Body.nums, nAll_cons, forgeB, List.append_assoc] at h1 hn
    have q := fun x hx => hn.1 x hx
    simp only [List.mem_cons, List.not_mem_nil, or_false, forall_eq_or_imp, forall_eq] at q
    obtain ⟨q1, q2, q3, q4, q5⟩ := q
    have h2 := (nS_head rfl q1 h1).2
    have h3 := (nS_head rfl q2 h2).2
    have h4 := (nS_head rfl q3 h3).2
    have h5 := (nS_head rfl q4 h4).2
    have h6 := (nS_head rfl q5 h5).2
    simp [nAll] at h6
  · simp only [List.cons_append, List.nil_append, List.append_assoc, List.cons.injEq, true_and] at he
    have h1 := (nS_head rfl rfl he).2
    have h2 := tRead_dec hb
    rw [← h1] at h2
    have h3 : tRead (List.drop 1 (nAll forgeB.nums)) = none := by decide +kernel
    rw [h3] at h2
    simp at h2
structure Forge (e : Int) (ts : List Bs) : Prop where
  ok : bOk 99 ts
  pre : ∃ r, ts = (65 :: eTerm e) :: (83 :: (nS 0 ++ nAll forgeB.nums)) :: r
theorem Forge.name {e : Int} {ts : List Bs} (h : Forge e ts) (s : Bs) : Forge e (bName 99 ts s).1 := by
  refine ⟨bName_ok h.ok, ?_⟩
  obtain ⟨r, hr⟩ := h.pre
  obtain ⟨r2, h2⟩ := bName_pre (m := 99) (ts := ts) (s := s)
  rw [h2, hr]
  exact ⟨r ++ r2, rfl⟩
theorem Forge.key {e : Int} {ts : List Bs} (h : Forge e ts) : bFind ts (65 :: eTerm e) = some 0 := by
  obtain ⟨r, rfl⟩ := h.pre
  exact bFind_head _ _
theorem Forge.get {e : Int} {ts : List Bs} (h : Forge e ts) (he : nMay e = true) {s : Bs} {x : Int} (hx : bTerm ts x = (s, 0)) (hs : ∀ b : Body, bMay b = true → s ≠ 83 :: (nS 0 ++ nAll b.nums)) : tGet ts e 0 x = (body0, 1501) := by
  have he2 : 0 ≤ e ∧ e ≤ 1073741823 := by simpa [nMay] using he
  have ho : tOpen ts e x = none := by
    cases hc : tOpen ts e x with
    | none => rfl
    | some c =>
      exfalso
      obtain ⟨a1, a2, k, a3, a4, a5⟩ := tOpen_enc hc
      rw [h.key] at a3
      obtain rfl : 0 = k := Option.some.inj a3
      rw [hx] at a5
      exact hs c a2 (Prod.mk.inj a5).1
  have hm : min e 0 = 0 := by omega
  unfold tGet
  rw [if_pos ⟨he, by omega, by omega⟩, hm]
  have : tLoop ts x ((0 : Int).toNat + 1) e = none := by
    show tLoop ts x 1 e = none
    unfold tLoop
    rw [ho]; rfl
  rw [this]
theorem Forge.back {e : Int} {ts : List Bs} (h : Forge e ts) (he : nMay e = true) : tGet ts e 0 1 = (forgeB, 0) := by
  have he2 : 0 ≤ e ∧ e ≤ 1073741823 := by simpa [nMay] using he
  have hk := h.key
  obtain ⟨r, rfl⟩ := h.pre
  have := tGet_live (ts := (65 :: eTerm e) :: (83 :: (nS 0 ++ nAll forgeB.nums)) :: r) (tag := 1) (now := e) (keep := 0) he (b := forgeB) (by decide) hk rfl (by
    have := bTerm_get (ts := (65 :: eTerm e) :: (83 :: (nS 0 ++ nAll forgeB.nums)) :: r) (i := 1) rfl
    simpa using this) he (by omega)
  rw [this, if_pos (by omega)]
section
variable {bk rbk : Int → List Bs → A}
theorem Name_at (hR : R.Ok) (hB : HasBook R bk) {m : Int} {ts q : List Bs} {s : Bs} {x e : Int} (hok : bOk m ts) (he : bName m ts s = (q, x, e)) {h : AHeap A} {b : Nat} (hb : h[b]? = some (.adt (bk m ts))) {K : AVal → AHeap A → Prop}
    (hk : K (.tup [.int .i64 x, .int .i64 e]) (h.set b (.adt (bk m q)))) : Tri Pr R n_book_Book_Name [.ptr b 0, .str s] h K := by
  refine book_Name_ok hR hB hok s hb ?_
  rw [he]; exact hk
theorem Find_at (hR : R.Ok) (hB : HasBook R bk) {m : Int} {ts : List Bs} {s : Bs} {i : Nat} (he : bFind ts s = some i) {h : AHeap A} {b : Nat} (hb : h[b]? = some (.adt (bk m ts))) {K : AVal → AHeap A → Prop}
    (hk : K (.tup [.int .i64 i, .bool true]) h) : Tri Pr R n_book_Book_Find [.ptr b 0, .str s] h K := by
  refine book_Find_ok hR hB s hb ?_
  rw [he]; exact hk
def FGI (bk rbk : Int → List Bs → A) (D E : AObj A) (e : Int) (n : Nat) (m : Nat) (y : List AVal) (g : AHeap A) : Prop :=
  ∃ (ts : List Bs) (i : Nat), y = [.int .i64 i] ∧ Forge e ts ∧ g = [.adt (bk 99 ts), .adt (rbk 99 []), D, E] ∧ i ≤ n ∧ i ≤ 10 ∧ m = 10 - i
def FGJ (bk rbk : Int → List Bs → A) (D E : AObj A) (e : Int) (six : List Bs) (m : Nat) (y : List AVal) (g : AHeap A) : Prop :=
  ∃ (ts : List Bs) (j : Nat), y = [.int .i64 j] ∧ Forge e ts ∧ g = [.adt (bk 99 ts), .adt (rbk 99 []), D, E, .cells t_string (six.map .str)] ∧ j ≤ 6 ∧ m = 6 - j
theorem TicketForge_ok (hR : R.Ok) (hB : HasBook R bk) (hB' : HasRBook R rbk) (a : AVal) (l : List Bs) (ha : IsStrs a l) (hs : ∀ s ∈ l, s.length < 9000000000000000000) (b : AVal) (ks : List Int) (hb : IsInts b ks) (epoch : Int) : Tri Pr R n_law15_TicketForge [a, b, .int .i64 epoch] [] fun u _ => u = .bool true := by
  apply c_law15_TicketForge
  unfold p_law15_TicketForge
  refine awake15_ok hR hB hB' ?_
  simp -implicitDefEqProofs
  refine law15_twin_ok hR hB hB' 99 ?_
  rw [if_pos (by omega)]
  have b0 : bOk 99 [] := bOk_nil (by omega)
  simp -implicitDefEqProofs
  rw [bits_mask epoch 3 (by omega) 7 (by decide)]
  obtain ⟨e, hep, ep1, ep2⟩ : ∃ e, epoch % 2 ^ 3 = e ∧ 0 ≤ e ∧ e < 8 := ⟨_, rfl, by omega, by omega⟩
  rw [hep]
  have hme : nMay e = true := by simp only [nMay, decide_eq_true_eq]; omega
  have k1 := tPut_first (m := 99) (ep := e) (b := forgeB) (by omega) hme (by decide)
  have b1 := bOk_tput b0 k1
  have f1 : Forge e [65 :: eTerm e, 83 :: (nS 0 ++ nAll forgeB.nums)] := ⟨b1, [], rfl⟩
  generalize ([65 :: eTerm e, 83 :: (nS 0 ++ nAll forgeB.nums)] : List Bs) = ts1 at k1 b1 f1
  refine TPut_at (t := forgeB) hR hB b0 k1 rfl ?_
  simp -implicitDefEqProofs
  refine ref1_Nums_one hR e true rfl ?_
  have hel := nS_len e
  have hsz : 6 + (nS e).length < 9223372036854775808 := by omega
  have hat : 65 :: 101 :: 112 :: 111 :: 99 :: 104 :: nS e = 65 :: eTerm e := rfl
  simp -implicitDefEqProofs [hsz, hat]
  refine Find_at hR hB f1.key rfl ?_
  simp -implicitDefEqProofs
  refine num14_ok ?_
  simp -implicitDefEqProofs
  refine ref1_Nums_ok hR forgeB.nums (by simp [Body.nums]) true (t := t_int) (by simp [Body.nums, forgeB]) ?_
  have hbl := nAll_len forgeB.nums
  have hbl5 : forgeB.nums.length = 5 := rfl
  have hbl1 : 1 ≤ (nAll forgeB.nums).length := by decide +kernel
  have hnot := fun k (h1 : nMay k = true) h2 t => forge_not h1 h2 t
  generalize nAll forgeB.nums = bd at hbl hbl1 hnot
  obtain ⟨D, hD⟩ : ∃ D : AObj A, AObj.cells t_int [.int .i64 e] = D := ⟨_, rfl⟩
  obtain ⟨E, hE⟩ : ∃ E : AObj A, AObj.cells t_int [.int .i64 1, .int .i64 0, .int .i64 0, .int .i64 0, .int .i64 2] = E := ⟨_, rfl⟩
  have cD : D.closed R := by rw [← hD]; exact closed_cells (by simp [ixs_all, AVal.ix])
  have cE : E.closed R := by rw [← hE]; exact closed_cells (by simp [ixs_all, AVal.ix])
  rw [hD, hE]
  have hcl : ∀ ts : List Bs, ∀ o ∈ ([.adt (bk 99 ts), .adt (rbk 99 []), D, E] : AHeap A), o.closed R := by
    simp only [List.mem_cons, List.not_mem_nil, or_false]
    rintro ts o (rfl | rfl | rfl | rfl)
    · exact book_shutc hB _ _
    · exact rbook_shutc hB' _ _
    · exact cD
    · exact cE
  have hlow : ∀ ts : List Bs, ∀ o ∈ ([.adt (bk 99 ts), .adt (rbk 99 []), D, E] : AHeap A), o.low R 4 := fun ts o ho => ⟨(hcl ts o ho).1 _, fun τ _ => (hcl ts o ho).2 τ⟩
  have hcl5 : ∀ (ts : List Bs) (six : List Bs), ∀ o ∈ ([.adt (bk 99 ts), .adt (rbk 99 []), D, E, .cells t_string (six.map .str)] : AHeap A), o.closed R := by
    simp only [List.mem_cons, List.not_mem_nil, or_false]
    rintro ts six o (rfl | rfl | rfl | rfl | rfl)
    · exact book_shutc hB _ _
    · exact rbook_shutc hB' _ _
    · exact cD
    · exact cE
    · exact closed_cells (by simp [ixs_all, AVal.ix])
  have hlow5 : ∀ (ts : List Bs) (six : List Bs), ∀ o ∈ ([.adt (bk 99 ts), .adt (rbk 99 []), D, E, .cells t_string (six.map .str)] : AHeap A), o.low R 5 := fun ts six o ho => ⟨(hcl5 ts six o ho).1 _, fun τ _ => (hcl5 ts six o ho).2 τ⟩
  clear hD hE
  refine loopP_go (FGI bk rbk D E e l.length) 10 (Gives.done (by simp) ⟨ts1, 0, rfl, f1, rfl, by omega, by omega, rfl⟩) ?_
  rintro m y g ⟨ts, i, rfl, fg, rfl, hi1, hi2, rfl⟩
  have hok := fg.ok
  have e1 := w64 (n := (i : Int) + 1) (by omega)
  by_cases h1 : i < l.length ∧ i < 10
  · obtain ⟨h1, h2⟩ := h1
    have h1' : (i : Int) < (l.length : Int) := by omega
    have h2' : (i : Int) < 10 := by omega
    obtain ⟨bb, oo, cs, hg⟩ := ha.get h1
    simp -implicitDefEqProofs [ha.len, h1, h1', h2, h2']
    refine joinP_all (fun vs g => ∃ k, vs = [.int .i64 k] ∧ nMay k = true ∧ k ≠ 0 ∧ g = [.adt (bk 99 ts), .adt (rbk 99 []), D, E]) ?_ ?_
    · simp -implicitDefEqProofs [hb.len]
      by_cases c1 : i < ks.length
      · have c1' : (i : Int) < (ks.length : Int) := by omega
        obtain ⟨b2, o2, c2, hg2⟩ := hb.get (n := (i : Int)) (by omega) c1'
        generalize ks.getD (i : Int).toNat 0 = x at hg2
        simp -implicitDefEqProofs [c1, c1', hg2]
        rw [bits_mask x 30 (by omega) 1073741823 (by decide)]
        obtain ⟨k, hk, q1, q2⟩ : ∃ k, x % 2 ^ 30 = k ∧ 0 ≤ k ∧ k < 1073741824 := ⟨_, rfl, by omega, by omega⟩
        rw [hk]
        by_cases c2 : k = 0
        · subst c2
          simp -implicitDefEqProofs
          decide
        · have c2' : (k != 0) = true := by simpa using c2
          simp -implicitDefEqProofs [c2']
          exact ⟨by simp only [nMay, decide_eq_true_eq]; omega, c2⟩
      · have c1' : ¬ (i : Int) < (ks.length : Int) := by omega
        simp -implicitDefEqProofs [c1, c1']
        decide
    rintro _ _ ⟨k, rfl, hk1, hk2, rfl⟩
    refine ⟨by simp, ?_⟩
    have hnk := hnot k hk1 hk2 l[i]
    simp -implicitDefEqProofs
    refine ⟨ForgeJ [.adt (bk 99 ts), .adt (rbk 99 []), D, E] (forgeL bd (nS 0) (nS k) l[i]), forge_region hR hg (hs _ (List.getElem_mem h1)) (by omega) hbl1 _ _ _ _, ?_⟩
    rintro x g ⟨p, rfl, gt, gp, hp⟩
    have hl6 : (forgeL bd (nS 0) (nS k) l[i]).length = 6 := rfl
    generalize forgeL bd (nS 0) (nS k) l[i] = six at hnk gp hl6
    refine Gives.selc hR [0, 1, 2, 3, p] [.adt (bk 99 ts), .adt (rbk 99 []), D, E, .cells t_string (six.map .str)] [.sl 4 0 6 6 true] (by simp; omega) rfl (fun k hk => ?_) (fun k j hk => ?_) (hcl5 ts six) ?_ rfl (by simp) ?_
    · match k, hk with
      | 0, _ => rfl
      | 1, _ => rfl
      | 2, _ => rfl
      | 3, _ => rfl
    · have gg : ∀ i, i < 4 → g[i]? = ([.adt (bk 99 ts), .adt (rbk 99 []), D, E] : AHeap A)[i]? := fun i hi => by rw [← gt, List.getElem?_take_of_lt hi]
      match k, hk with
      | 0, hk => simp at hk; subst hk; exact gg 0 (by omega)
      | 1, hk => simp at hk; subst hk; exact gg 1 (by omega)
      | 2, hk => simp at hk; subst hk; exact gg 2 (by omega)
      | 3, hk => simp at hk; subst hk; exact gg 3 (by omega)
      | 4, hk => simp at hk; subst hk; simpa using gp
      | k + 5, hk => simp at hk
    · simp [rens, AVal.ren, at_]
    simp -implicitDefEqProofs
    refine loopP_go (FGJ bk rbk D E e six) 6 (Gives.done (by simp) ⟨ts, 0, rfl, fg, rfl, by omega, rfl⟩) ?_
    rintro m y g ⟨us, j, rfl, fj, rfl, hj, rfl⟩
    have hok' := fj.ok
    have e2 := w64 (n := (j : Int) + 1) (by omega)
    by_cases c1 : j < 6
    · have c1' : (j : Int) < 6 := by omega
      obtain ⟨s, hsj⟩ : ∃ s, six[j]? = some s := ⟨_, List.getElem?_eq_getElem (by omega)⟩
      have hsm := List.mem_of_getElem? hsj
      have hcj : (six.map AVal.str)[j]? = some (.str s) := by rw [List.getElem?_map, hsj]; rfl
      have fn := fj.name s
      obtain ⟨⟨q, x, f⟩, hn⟩ : ∃ z, bName 99 us s = z := ⟨_, rfl⟩
      rw [hn] at fn
      dsimp only at fn
      obtain ⟨⟨z, v⟩, hz⟩ : ∃ w, tGet q e 0 x = w := ⟨_, rfl⟩
      have hv : f = 0 → v = 1501 := by
        rintro rfl
        have := fn.get hme (bName_term hn) (hnk s hsm)
        rw [hz] at this
        exact (Prod.mk.inj this).2
      obtain ⟨C5, hC5⟩ : ∃ C, six.map AVal.str = C := ⟨_, rfl⟩
      rw [hC5] at hcj
      have lw := hlow5 q six
      rw [hC5] at lw ⊢
      simp -implicitDefEqProofs [c1, c1', hcj]
      refine Name_at hR hB hok' hn rfl ?_
      simp -implicitDefEqProofs
      refine TGet_at hR hB fn.ok hz rfl ?_
      simp -implicitDefEqProofs [Body.row]
      refine num14_ok ?_
      have fin : ∀ r : AHeap A, Gives Pr R 5 (.adt (bk 99 q) :: .adt (rbk 99 []) :: D :: E :: .cells t_string C5 :: r) [.int .i64 ((j : Int) + 1)] fun z k => ∃ m', m' < 6 - j ∧ FGJ bk rbk D E e six m' z k := fun r =>
        Gives.cut hR (m := 5) (by simp) (by simp) (by simp [ixs, AVal.ix]) lw ⟨6 - (j + 1), by omega, q, j + 1, rfl, fn, by rw [hC5]; rfl, by omega, rfl⟩
      by_cases c2 : f = 0
      · obtain rfl := hv c2
        subst c2
        simp -implicitDefEqProofs
        refine num14_ok ?_
        simp -implicitDefEqProofs [e2]
        exact fin _
      · have c2' : (f == 0) = false := by simpa using c2
        simp -implicitDefEqProofs [c2', e2]
        exact fin _
    · obtain rfl : j = 6 := by omega
      simp -implicitDefEqProofs [e1]
      exact Gives.cut hR (m := 4) (by simp) (by simp) (by simp [ixs, AVal.ix]) (hlow us) ⟨10 - (i + 1), by omega, us, i + 1, rfl, fj, rfl, by omega, by omega, rfl⟩
  · have hs := shBody forgeB forgeB
    simp only [Body.row, forgeB] at hs
    by_cases c1 : i < l.length
    · have c1' : (i : Int) < (l.length : Int) := by omega
      have c2 : ¬ i < 10 := fun h => h1 ⟨c1, h⟩
      have c2' : ¬ (i : Int) < 10 := by omega
      simp -implicitDefEqProofs [ha.len, c1, c1', c2, c2']
      refine TGet_at hR hB hok (fg.back hme) rfl ?_
      simp -implicitDefEqProofs [Body.row, forgeB]
      refine num14_ok ?_
      simp -implicitDefEqProofs [hs]
    · have c1' : ¬ (i : Int) < (l.length : Int) := by omega
      simp -implicitDefEqProofs [ha.len, c1, c1']
      refine TGet_at hR hB hok (fg.back hme) rfl ?_
      simp -implicitDefEqProofs [Body.row, forgeB]
      refine num14_ok ?_
      simp -implicitDefEqProofs [hs]
end
end Go.AI

/- Bodies that are handed in. -/
set_option linter.all false
namespace Go.AI
theorem body_TR {P : Program} {n : Nat} {e i : TypeId} {f0 f1 f2 f3 f4 : Field} {us : List AVal} (he : P.underlying e = some (.struct #[f0, f1, f2, f3, f4])) (hi : P.underlying i = some (.int .i64)) (hc : P.cellsOf e = 5) (ci : P.cellsOf i = 1)
    (hf : (f0.type = i ∧ f0.offset = 0) ∧ (f1.type = i ∧ f1.offset = 1) ∧ (f2.type = i ∧ f2.offset = 2) ∧ (f3.type = i ∧ f3.offset = 3) ∧ (f4.type = i ∧ f4.offset = 4)) (h : TR P (n + 2) e us) : ∃ x : Body, us = x.row := by
  obtain ⟨⟨t0, o0⟩, ⟨t1, o1⟩, ⟨t2, o2⟩, ⟨t3, o3⟩, ⟨t4, o4⟩⟩ := hf
  obtain ⟨hr, h6⟩ := TR_struct he h
  rw [hc] at hr
  obtain ⟨r0, r1, r2, r3, r4, rfl⟩ := len_5 hr
  have g0 := h6 0 f0 rfl
  have g1 := h6 1 f1 rfl
  have g2 := h6 2 f2 rfl
  have g3 := h6 3 f3 rfl
  have g4 := h6 4 f4 rfl
  rw [t0, o0, ci] at g0
  rw [t1, o1, ci] at g1
  rw [t2, o2, ci] at g2
  rw [t3, o3, ci] at g3
  rw [t4, o4, ci] at g4
  obtain ⟨x0, e0, _⟩ := TR_int hi g0
  obtain ⟨x1, e1, _⟩ := TR_int hi g1
  obtain ⟨x2, e2, _⟩ := TR_int hi g2
  obtain ⟨x3, e3, _⟩ := TR_int hi g3
  obtain ⟨x4, e4, _⟩ := TR_int hi g4
  simp at e0 e1 e2 e3 e4
  subst e0 e1 e2 e3 e4
  exact ⟨⟨x0, x1, x2, x3, x4⟩, rfl⟩
end Go.AI

/- The data types of this seat. -/
set_option linter.all false
namespace Go.AI
inductive D where
  | book (m : Int) (ts : List Bs)
  | rbook (m : Int) (ts : List Bs)
def D.lay : D → Grp D → Prop
  | .book m ts, g => g = bookG m ts
  | .rbook m ts, g => g = rbookG m ts
def RD : Adts D := ⟨D.lay, fun _ a => a⟩
theorem bEnts_ren (τ : Nat → Nat) : ∀ (ts : List Bs) (i : Nat), (bEnts ts i).map (AEnt.ren τ) = bEnts ts i
  | [], _ => rfl
  | s :: r, i => by simp [bEnts, AEnt.ren, AVal.ren, bEnts_ren τ r]
theorem strs_ren (τ : Nat → Nat) (ts : List Bs) : rens τ (ts.map .str) = ts.map .str := rens_ix0 τ _ (by simp [ixs_all, AVal.ix])
theorem bookG_ren {A : Type} (R : Adts A) (τ : Nat → Nat) (m : Int) (ts : List Bs) : (bookG m ts : Grp A).ren R τ = bookG m ts := by
  unfold bookG Grp.ren
  split <;> simp [GC.ren, AVal.ren, AObj.ren, bEnts_ren, strs_ren]
theorem rbookG_ren {A : Type} (R : Adts A) (τ : Nat → Nat) (m : Int) (ts : List Bs) : (rbookG m ts : Grp A).ren R τ = rbookG m ts := by
  unfold rbookG Grp.ren
  split <;> simp [GC.ren, AVal.ren, AObj.ren, strs_ren]
theorem RD_ok : RD.Ok := by
  intro a τ g'
  cases a with
  | book m ts => exact ⟨fun h => ⟨_, rfl, h.trans (bookG_ren RD τ m ts).symm⟩, fun ⟨g, h1, h2⟩ => by subst h2; rw [show g = bookG m ts from h1, bookG_ren]; rfl⟩
  | rbook m ts => exact ⟨fun h => ⟨_, rfl, h.trans (rbookG_ren RD τ m ts).symm⟩, fun ⟨g, h1, h2⟩ => by subst h2; rw [show g = rbookG m ts from h1, rbookG_ren]; rfl⟩
theorem RD_book : HasBook RD D.book := ⟨fun _ _ _ => Iff.rfl, fun _ _ _ => rfl⟩
theorem RD_rbook : HasRBook RD D.rbook := ⟨fun _ _ _ => Iff.rfl, fun _ _ _ => rfl⟩
end Go.AI
