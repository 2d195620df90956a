/- The statements over windows: what their functions answer. -/
import Derived.Test.YtlhmikjjnndjcaaSpWin
import Derived.Test.YtlhmikjjnndjcaaFn0
import Derived.Test.YtlhmikjjnndjcaaFn1
import Derived.Test.YtlhmikjjnndjcaaFn2
import Derived.Test.YtlhmikjjnndjcaaFn4
import Derived.Test.YtlhmikjjnndjcaaFn6
set_option linter.all false
namespace Go.AI
variable {A : Type} {R : Adts A}
theorem num_ok {v : AVal} {h : AHeap A} {K : AVal → AHeap A → Prop} (hk : K v h) : Tri Pr R n_law0_Num [v] h K := by
  apply c_law0_Num
  unfold p_law0_Num
  exact hk
theorem add_at (hR : R.Ok) {hi b s x y e : Int} (hw : wAdd hi b s = (x, y, e)) {h : AHeap A} {K : AVal → AHeap A → Prop} (hk : K (.tup [.agg [.int .i64 x, .int .i64 y], .int .i64 e]) h) : Tri Pr R n_window_Add [.agg [.int .i64 hi, .int .i64 b], .int .i64 s] h K := by
  refine add_ok hR hi b s ?_
  rw [hw]; exact hk
theorem may_at (hR : R.Ok) {hi b : Int} {c : Bool} (hw : wMay hi b = c) {h : AHeap A} {K : AVal → AHeap A → Prop} (hk : K (.bool c) h) : Tri Pr R n_window_May [.agg [.int .i64 hi, .int .i64 b]] h K := by
  refine may_ok hR hi b ?_
  rw [hw]; exact hk
theorem awake17_ok (hR : R.Ok) {h : AHeap A} {K : AVal → AHeap A → Prop} (hk : K (.bool true) h) : Tri Pr R n_law17_awake [] h K := by
  refine Tri.fn1 hR _ rfl rfl ?_ hk
  apply c_law17_awake
  unfold p_law17_awake
  simp
  refine add_at hR (x := 5) (y := 1) (e := 0) (by decide +kernel) ?_
  simp
  refine add_at hR (x := 5) (y := 5) (e := 0) (by decide +kernel) ?_
  simp
  refine add_at hR (x := 0) (y := 0) (e := 1701) (by decide +kernel) ?_
  simp
  refine add_at hR (x := 40) (y := 1) (e := 0) (by decide +kernel) ?_
  simp
  refine add_at hR (x := 0) (y := 0) (e := 1701) (by decide +kernel) ?_
  simp
  refine add_at hR (x := 0) (y := 0) (e := 1700) (by decide +kernel) ?_
  simp
  simp [shEq, shEqs]
  repeat (refine num_ok ?_; simp [shEq, shEqs])
  refine may_at hR (c := true) (by decide +kernel) ?_
  simp
  refine may_at hR (c := false) (by decide +kernel) ?_
  simp
  exact Ans.of rfl

theorem rmay_at (hR : R.Ok) {hi b : Int} {c : Bool} (hw : wMay hi b = c) {h : AHeap A} {K : AVal → AHeap A → Prop} (hk : K (.bool c) h) : Tri Pr R n_ref12_WindowMay [.agg [.int .i64 hi, .int .i64 b]] h K := by
  refine rmay_ok hR hi b ?_
  rw [hw]; exact hk
/-- Windows. -/
theorem Windows_ok (hR : R.Ok) (hi b s : Int) : Tri Pr R n_law17_Windows [.agg [.int .i64 hi, .int .i64 b], .int .i64 s] [] fun u _ => u = .bool true := by
  apply c_law17_Windows
  unfold p_law17_Windows
  simp
  refine add_ok hR hi b s ?_
  obtain ⟨⟨x, y, e⟩, hw⟩ : ∃ r, wAdd hi b s = r := ⟨_, rfl⟩
  simp [wAns, hw]
  refine radd_ok hR hi b s ?_
  simp [wAns, hw, shEq, shEqs]
  refine joinP_go ?_
  refine num_ok ?_
  simp
  refine may_ok hR hi b ?_
  simp
  refine rmay_ok hR hi b ?_
  simp
  refine awake17_ok hR ?_
  simp
end Go.AI
