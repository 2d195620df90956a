/- The functions as texts over the abstract heap. -/
import Derived.Test.YtmdlhohhimdkaaaNm
import Derived.KernelRfl
set_option linter.all false
namespace Go.AI
open Go.Proofs
set_option maxRecDepth 1000000
variable {A : Type}
/-- (*bastion/audit.refused).Unwrap -/
def p_audit_refused_Unwrap (S : FuncId → List AVal → AHeap A → (AVal → AHeap A → Prop) → Prop) (G : Nat → AHeap A → List AVal → (List AVal → AHeap A → Prop) → Prop) (a0 : AVal) (h : AHeap A) (K : AVal → AHeap A → Prop) : Prop :=
 nilP a0 fun v1 =>
 fadP 1 v1 fun v2 =>
 ldP 1 false v2 h fun v3 =>
 K v3 h
theorem q_audit_refused_Unwrap (S : FuncId → List AVal → AHeap A → (AVal → AHeap A → Prop) → Prop) (G : Nat → AHeap A → List AVal → (List AVal → AHeap A → Prop) → Prop) (a0 : AVal) (h : AHeap A) (K : AVal → AHeap A → Prop) : funP Try.prog S G Try.f100 .leaf [a0] h K = p_audit_refused_Unwrap S G a0 h K := by kernel_rfl
theorem c_audit_refused_Unwrap {R : Adts A} {h : AHeap A} {K : AVal → AHeap A → Prop} {a0 : AVal} (hk : p_audit_refused_Unwrap (Tri Pr R) (Gives Pr R) a0 h K) : Tri Pr R n_audit_refused_Unwrap [a0] h K :=
  tri_of_funP (by kernel_rfl) (fun _ _ _ _ h => h) (fun _ _ _ _ h => h) Try.func100 (by rw [q_audit_refused_Unwrap]; exact hk)
end Go.AI
