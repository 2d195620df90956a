/- The statements over keys of epochs. -/
import Derived.Test.YtkipdpamkchnoaaSpRing
set_option linter.all false
namespace Go.AI
variable {A : Type} {R : Adts A}
theorem num14_ok {v : AVal} {h : AHeap A} {K : AVal → AHeap A → Prop} (hk : K v h) : Tri Pr R n_law0_Num [v] h K := by
  apply c_law0_Num
  unfold p_law0_Num
  exact hk
theorem bOk_nil {m : Int} (h : 1 ≤ m ∧ m ≤ 65536) : bOk m [] := ⟨h, by simp; omega, by simp, by simp⟩
section
variable {bk rbk : Int → List Bs → A}
theorem rKey_at {m : Int} {ts : List Bs} {x : Int} {r : List Bs} {n e : Int} (hok : bOk m ts) (hw : rKey m ts x = (r, n, e)) : bOk m r := by
  have := rKey_ok (x := x) hok
  rwa [hw] at this
end
end Go.AI
