/- errors.Is (printed by gen/is_gen.py after the kit's worked contracts). -/
import Derived.Test.YtnhclbecbagmfaaFns
import Derived.Test.YtnhclbecbagmfaaSpUse
import Derived.WalkKit
import Derived.LaidEql
import Derived.Stop.Asserts
import Derived.RowKitTokens
import Derived.Lib.IfaceEq
set_option linter.all false
namespace Go.AI
open Go.RowKit Go.Extern.Stop Go.Stop Go.Extern Go.Proofs
theorem isTypeOf (v : Value) (w : World) : (Extern.ReflectliteType.typeOf #[.iface 28 v]).run Try.prog w = .ok (.iface 112 (.agg #[.pointer (some ⟨0, 28, none⟩)])) w := by kernel_rfl
def cmpFn : Array Value → Sem Value := Extern.ReflectliteType.method fun t => do Extern.Rtype.noPackHeld "Comparable" t; pure (.bool (← typeInfo t).comparable)
theorem isComparable (w : World) : (cmpFn #[.agg #[.pointer (some ⟨0, 28, none⟩)]]).run Try.prog w = .ok (.bool true) w := by kernel_rfl
theorem isMethodComparable (v : Value) (w : World) : (Go.method 260 112 v "Comparable").run Try.prog w = .ok (82, v) w := by kernel_rfl
theorem isComp : (Try.prog.info? 28).map (·.comparable) = some true := by kernel_rfl
theorem noIsE (v : Value) (xT : TypeId) (w : World) : (Instr.typeAssert (.iface 28 v) xT 114 true).run Try.prog w = .ok (.tuple #[.nilIface, .bool false]) w := run_typeAssert_lacksB Try.underlying114 (by kernel_rfl) (by kernel_rfl) v xT w
theorem noUnwrapE (v : Value) (xT : TypeId) (w : World) : (Instr.typeAssert (.iface 28 v) xT 117 true).run Try.prog w = .ok (.tuple #[.nilIface, .bool false]) w := run_typeAssert_lacksB Try.underlying117 (by kernel_rfl) (by kernel_rfl) v xT w
theorem noUnwrapsE (v : Value) (xT : TypeId) (w : World) : (Instr.typeAssert (.iface 28 v) xT 119 true).run Try.prog w = .ok (.tuple #[.nilIface, .bool false]) w := run_typeAssert_lacksB Try.underlying119 (by kernel_rfl) (by kernel_rfl) v xT w
set_option maxRecDepth 100000 in
theorem is_nil (b : Int) (w : World) :
    Calls Try.prog 29 #[.nilIface, .iface 28 (.int .i64 b)] w fun e w' => e = .returned (.bool false) ∧ w' = w := by
  have hn := run_eql_iface_nil_left (P := Try.prog) w 28 (.int .i64 b) Try.underlying69
  go_enter Try.func29, Try.ntmps29
  go_wp2
  go_ret
  exact ⟨rfl, rfl⟩
set_option maxRecDepth 100000 in
theorem is_errno (a b : Int) (w : World) :
    Calls Try.prog 29 #[.iface 28 (.int .i64 a), .iface 28 (.int .i64 b)] w fun e w' => e = .returned (.bool (a == b)) ∧ w' = w := by
  have h8 := @run_callFunc_extern Try.prog 48 _ Extern.ReflectliteType.typeOf Try.func48 (by kernel_rfl) (by kernel_rfl) (by kernel_rfl) (by kernel_rfl)
  have h32 := @run_callFunc_extern Try.prog 82 _ cmpFn Try.func82 (by kernel_rfl) (by kernel_rfl) (by kernel_rfl) (by kernel_rfl)
  have tT := isTypeOf
  have cT := isComparable
  have mR := isMethodComparable
  have nE := noIsE
  have uE := noUnwrapE
  have vE := noUnwrapsE
  by_cases hab : a = b
  · subst hab
    have heq := Go.Lib.run_eql_iface_int (P := Try.prog) w (k := .i64) a a Try.underlying69 isComp Try.underlying28
    simp only [beq_self_eq_true] at heq ⊢
    go_enter Try.func29, Try.ntmps29
    go_wp2
    refine wp_loop_rounds 1 ?_
    rw [rounds_succ]
    go_wp2
    go_ret
    exact ⟨rfl, rfl⟩
  · have heq := Go.Lib.run_eql_iface_int (P := Try.prog) w (k := .i64) a b Try.underlying69 isComp Try.underlying28
    have hb : (a == b) = false := by simpa using hab
    rw [hb] at heq ⊢
    go_enter Try.func29, Try.ntmps29
    go_wp2
    refine wp_loop_rounds 1 ?_
    rw [rounds_succ]
    go_wp2
    go_ret
    exact ⟨rfl, rfl⟩

theorem noIs_ticket_shut (v : Value) (xT : TypeId) (w : World) : (Instr.typeAssert (.iface 90 v) xT 114 true).run Try.prog w = .ok (.tuple #[.nilIface, .bool false]) w := run_typeAssert_lacksB Try.underlying114 (by kernel_rfl) (by kernel_rfl) v xT w
theorem hasUnwrap_ticket_shut (v : Value) (xT : TypeId) (w : World) : (Instr.typeAssert (.iface 90 v) xT 117 true).run Try.prog w = .ok (.tuple #[.iface 90 v, .bool true]) w := run_typeAssert_hasB Try.underlying117 (by kernel_rfl) v xT w
theorem methodUnwrap_ticket_shut (v : Value) (w : World) : (Go.method 260 90 v "Unwrap").run Try.prog w = .ok (78, v) w := by kernel_rfl

set_option maxRecDepth 100000 in
theorem is_ticket_shut (pb po : Nat) (a b : Int) (w : World) (h1 : w.cell? ⟨pb, po, none⟩ = some (.iface 28 (.int .i64 a))) :
    Calls Try.prog 29 #[.iface 90 (.pointer (some ⟨pb, po, none⟩)), .iface 28 (.int .i64 b)] w fun e w' => e = .returned (.bool (a == b)) ∧ w' = w := by
  have h8 := @run_callFunc_extern Try.prog 48 _ Extern.ReflectliteType.typeOf Try.func48 (by kernel_rfl) (by kernel_rfl) (by kernel_rfl) (by kernel_rfl)
  have h32 := @run_callFunc_extern Try.prog 82 _ cmpFn Try.func82 (by kernel_rfl) (by kernel_rfl) (by kernel_rfl) (by kernel_rfl)
  have tT := isTypeOf
  have cT := isComparable
  have mR := isMethodComparable
  have nE := noIsE
  have uE := noUnwrapE
  have vE := noUnwrapsE
  have nW := noIs_ticket_shut
  have uW := hasUnwrap_ticket_shut
  have mU := methodUnwrap_ticket_shut
  have hty := run_eql_iface_types (P := Try.prog) 90 28 (.pointer (some ⟨pb, po, none⟩)) (.int .i64 b) Try.underlying69 (by decide) w
  by_cases hab : a = b
  · subst hab
    have heq := Go.Lib.run_eql_iface_int (P := Try.prog) w (k := .i64) a a Try.underlying69 isComp Try.underlying28
    simp only [beq_self_eq_true] at heq ⊢
    go_enter Try.func29, Try.ntmps29
    go_wp2
    refine wp_loop_rounds 2 ?_
    rw [rounds_succ]
    go_wp2
    rw [rounds_succ]
    go_wp2
    go_ret
    exact ⟨rfl, rfl⟩
  · have heq := Go.Lib.run_eql_iface_int (P := Try.prog) w (k := .i64) a b Try.underlying69 isComp Try.underlying28
    have hb : (a == b) = false := by simpa using hab
    rw [hb] at heq ⊢
    go_enter Try.func29, Try.ntmps29
    go_wp2
    refine wp_loop_rounds 2 ?_
    rw [rounds_succ]
    go_wp2
    rw [rounds_succ]
    go_wp2
    go_ret
    exact ⟨rfl, rfl⟩

section
variable {A : Type} {R : Adts A}
theorem two_VRs {ρ : Pl} {a b : AVal} {vs : List Value} (hv : VRs ρ [a, b] vs) (ha : a ≠ .any) (hb : b ≠ .any) (ha2 : ∀ l, a ≠ .tup l) (hb2 : ∀ l, b ≠ .tup l) : vs = [conc ρ a, conc ρ b] := by
  obtain ⟨hl, hg⟩ := hv
  obtain ⟨v0, h0, r0⟩ := hg 0 _ rfl
  obtain ⟨v1, h1, r1⟩ := hg 1 _ rfl
  have e0 := r0.eq ha ha2
  have e1 := r1.eq hb hb2
  match vs, hl with
  | [x, y], _ =>
    simp at h0 h1
    rw [h0, h1, e0, e1]
theorem Is_nil_ok (b : Int) {h : AHeap A} {K : AVal → AHeap A → Prop} (hk : K (.bool false) h) : Tri Pr R n_errors_Is [.nili, .iface t_api_Errno (.int .i64 b)] h K := by
  intro ρ ow w vs hr hv hb
  have := two_VRs hv (by simp) (by simp) (by simp) (by simp)
  subst this
  refine Calls.mono (is_nil b w) ?_
  rintro e w' ⟨rfl, rfl⟩
  exact ⟨.bool false, _, ρ, ow, h, rfl, hk, VR.of_eq ρ (.bool false), trivial, hr, Fr.refl _ _ _ _⟩
theorem Is_errno_ok (a b : Int) {h : AHeap A} {K : AVal → AHeap A → Prop} (hk : K (.bool (a == b)) h) : Tri Pr R n_errors_Is [.iface t_api_Errno (.int .i64 a), .iface t_api_Errno (.int .i64 b)] h K := by
  intro ρ ow w vs hr hv hb
  have := two_VRs hv (by simp) (by simp) (by simp) (by simp)
  subst this
  refine Calls.mono (is_errno a b w) ?_
  rintro e w' ⟨rfl, rfl⟩
  exact ⟨.bool (a == b), _, ρ, ow, h, rfl, hk, VR.of_eq ρ (.bool (a == b)), trivial, hr, Fr.refl _ _ _ _⟩
theorem Is_ticket_shut_ok (a b : Int) {h : AHeap A} {j : Nat} {t : TypeId} {cs : List AVal} (hj : h[j]? = some (.cells t cs)) (hc : cs[0]? = some (.iface t_api_Errno (.int .i64 a))) {K : AVal → AHeap A → Prop} (hk : K (.bool (a == b)) h) :
    Tri Pr R n_errors_Is [.iface t_p_ticket_shut (.ptr j 0), .iface t_api_Errno (.int .i64 b)] h K := by
  intro ρ ow w vs hr hv hb
  have := two_VRs hv (by simp) (by simp) (by simp) (by simp)
  subst this
  have hcell := cell_at hr (show cellsAt h j = some cs by simp [cellsAt, hj, AObj.read]) hc
  refine Calls.mono (is_ticket_shut (ρ j).blk ((ρ j).base + 0) a b w (by simpa [conc] using hcell)) ?_
  rintro e w' ⟨rfl, rfl⟩
  exact ⟨.bool (a == b), _, ρ, ow, h, rfl, hk, VR.of_eq ρ (.bool (a == b)), trivial, hr, Fr.refl _ _ _ _⟩
end
end Go.AI
