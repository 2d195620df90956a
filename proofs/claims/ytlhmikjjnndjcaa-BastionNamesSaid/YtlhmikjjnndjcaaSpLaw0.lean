/- The closed statement: names of errors, limits and kinds. -/
import Derived.Test.YtlhmikjjnndjcaaFn0
import Derived.Test.YtlhmikjjnndjcaaFn2
import Derived.Test.YtlhmikjjnndjcaaFn3
set_option linter.all false
namespace Go.AI
variable {A : Type} {R : Adts A}
theorem num0_ok {v : AVal} {h : AHeap A} {K : AVal → AHeap A → Prop} (hk : K v h) : Tri Pr R n_law0_Num [v] h K := by
  apply c_law0_Num
  unfold p_law0_Num
  exact hk
theorem errors1_ok (hR : R.Ok) {h : AHeap A} {K : AVal → AHeap A → Prop} (hk : K (.bool true) h) : Tri Pr R n_law0_errors1 [] h K := by
  refine Tri.fn1 hR _ rfl rfl ?_ hk
  apply c_law0_errors1
  unfold p_law0_errors1
  repeat (refine num0_ok ?_; simp)
  exact Ans.of rfl
theorem errors2_ok (hR : R.Ok) {h : AHeap A} {K : AVal → AHeap A → Prop} (hk : K (.bool true) h) : Tri Pr R n_law0_errors2 [] h K := by
  refine Tri.fn1 hR _ rfl rfl ?_ hk
  apply c_law0_errors2
  unfold p_law0_errors2
  repeat (refine num0_ok ?_; simp)
  exact Ans.of rfl
theorem errors3_ok (hR : R.Ok) {h : AHeap A} {K : AVal → AHeap A → Prop} (hk : K (.bool true) h) : Tri Pr R n_law0_errors3 [] h K := by
  refine Tri.fn1 hR _ rfl rfl ?_ hk
  apply c_law0_errors3
  unfold p_law0_errors3
  repeat (refine num0_ok ?_; simp)
  exact Ans.of rfl
theorem numbers1_ok {h : AHeap A} {K : AVal → AHeap A → Prop} (hk : K (.bool true) h) : Tri Pr R n_law0_numbers1 [] h K := by
  apply c_law0_numbers1
  unfold p_law0_numbers1
  simpa using hk
theorem numbers2_ok {h : AHeap A} {K : AVal → AHeap A → Prop} (hk : K (.bool true) h) : Tri Pr R n_law0_numbers2 [] h K := by
  apply c_law0_numbers2
  unfold p_law0_numbers2
  simpa using hk
theorem numbers3_ok {h : AHeap A} {K : AVal → AHeap A → Prop} (hk : K (.bool true) h) : Tri Pr R n_law0_numbers3 [] h K := by
  apply c_law0_numbers3
  unfold p_law0_numbers3
  simpa using hk
theorem numbers4_ok {h : AHeap A} {K : AVal → AHeap A → Prop} (hk : K (.bool true) h) : Tri Pr R n_law0_numbers4 [] h K := by
  apply c_law0_numbers4
  unfold p_law0_numbers4
  simpa using hk
theorem numbers5_ok {h : AHeap A} {K : AVal → AHeap A → Prop} (hk : K (.bool true) h) : Tri Pr R n_law0_numbers5 [] h K := by
  apply c_law0_numbers5
  unfold p_law0_numbers5
  simpa using hk
/-- BastionNames. -/
theorem BastionNames_ok (hR : R.Ok) : Tri Pr R n_law0_BastionNames [] [] fun u _ => u = .bool true := by
  apply c_law0_BastionNames
  unfold p_law0_BastionNames
  simp
  refine errors1_ok hR ?_
  simp
  refine errors2_ok hR ?_
  simp
  refine errors3_ok hR ?_
  simp
  refine numbers1_ok ?_
  simp
  refine numbers2_ok ?_
  simp
  refine numbers3_ok ?_
  simp
  refine numbers4_ok ?_
  simp
  refine numbers5_ok ?_
  simp
end Go.AI
