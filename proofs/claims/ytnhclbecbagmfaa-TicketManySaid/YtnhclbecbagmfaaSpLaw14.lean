/- The statements over keys of epochs. -/
import Derived.Test.YtnhclbecbagmfaaSpRing
set_option linter.all false
namespace Go.AI
variable {A : Type} {R : Adts A}
theorem num14_ok {v : AVal} {h : AHeap A} {K : AVal → AHeap A → Prop} (hk : K v h) : Tri Pr R n_law0_Num [v] h K := by
  apply c_law0_Num
  unfold p_law0_Num
  exact hk
theorem bOk_nil {m : Int} (h : 1 ≤ m ∧ m ≤ 65536) : bOk m [] := ⟨h, by simp; omega, by simp, by simp⟩
section
variable {bk rbk : Int → List Bs → A}
theorem key_at (hR : R.Ok) (hB : HasBook R bk) {m : Int} {ts : List Bs} (hok : bOk m ts) {x : Int} {r : List Bs} {n e : Int} (hw : rKey m ts x = (r, n, e)) {h : AHeap A} {b : Nat} (hb : h[b]? = some (.adt (bk m ts))) {K : AVal → AHeap A → Prop}
    (hk : K (.tup [.int .i64 n, .int .i64 e]) (h.set b (.adt (bk m r)))) : Tri Pr R n_ring_Key [.ptr b 0, .int .i64 x] h K := by
  refine ring_Key_ok hR hB hok x hb ?_
  rw [hw]; exact hk
theorem rKey_at {m : Int} {ts : List Bs} {x : Int} {r : List Bs} {n e : Int} (hok : bOk m ts) (hw : rKey m ts x = (r, n, e)) : bOk m r := by
  have := rKey_ok (x := x) hok
  rwa [hw] at this
theorem live_at (hR : R.Ok) {e now keep : Int} {c : Bool} (hw : rLive e now keep = c) {h : AHeap A} {K : AVal → AHeap A → Prop} (hk : K (.bool c) h) : Tri Pr R n_ring_Live [.int .i64 e, .int .i64 now, .int .i64 keep] h K := by
  refine ring_Live_ok hR e now keep ?_
  rw [hw]; exact hk
end
end Go.AI
