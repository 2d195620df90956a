/- The statements over keys of epochs. -/
import Derived.Test.YtlhmikjjnndjcaaSpRing
set_option linter.all false
namespace Go.AI
variable {A : Type} {R : Adts A}
theorem num14_ok {v : AVal} {h : AHeap A} {K : AVal → AHeap A → Prop} (hk : K v h) : Tri Pr R n_law0_Num [v] h K := by
  apply c_law0_Num
  unfold p_law0_Num
  exact hk
theorem bOk_nil {m : Int} (h : 1 ≤ m ∧ m ≤ 65536) : bOk m [] := ⟨h, by simp; omega, by simp, by simp⟩
section
variable {bk rbk : Int → List Bs → A}
theorem law14_twin_ok (hR : R.Ok) (hB : HasBook R bk) (hB' : HasRBook R rbk) (m : Int) {h : AHeap A} {K : AVal → AHeap A → Prop}
    (hk : if 1 ≤ m ∧ m ≤ 65536 then K (.tup [.ptr h.length 0, .ptr (h.length + 1) 0]) (h ++ [.adt (bk m []), .adt (rbk m [])]) else K (.tup [.nilp, .nilp]) h) : Tri Pr R n_law14_twin [.int .i64 m, .nils] h K := by
  apply c_law14_twin
  unfold p_law14_twin
  refine book_New_ok hR hB m ?_
  by_cases hm : 1 ≤ m ∧ m ≤ 65536
  · rw [if_pos hm] at hk ⊢
    simp
    refine rbook_New_ok hR hB' m ?_
    rw [if_pos hm]
    simp
    refine num14_ok ?_
    simp
    refine loopP_unr 1 ?_
    rw [unr]
    simpa using hk
  · rw [if_neg hm] at hk ⊢
    simp
    refine rbook_New_ok hR hB' m ?_
    rw [if_neg hm]
    simp
    refine num14_ok ?_
    simpa using hk
theorem key_at (hR : R.Ok) (hB : HasBook R bk) {m : Int} {ts : List Bs} (hok : bOk m ts) {x : Int} {r : List Bs} {n e : Int} (hw : rKey m ts x = (r, n, e)) {h : AHeap A} {b : Nat} (hb : h[b]? = some (.adt (bk m ts))) {K : AVal → AHeap A → Prop}
    (hk : K (.tup [.int .i64 n, .int .i64 e]) (h.set b (.adt (bk m r)))) : Tri Pr R n_ring_Key [.ptr b 0, .int .i64 x] h K := by
  refine ring_Key_ok hR hB hok x hb ?_
  rw [hw]; exact hk
theorem rKey_at {m : Int} {ts : List Bs} {x : Int} {r : List Bs} {n e : Int} (hok : bOk m ts) (hw : rKey m ts x = (r, n, e)) : bOk m r := by
  have := rKey_ok (x := x) hok
  rwa [hw] at this
theorem live_at (hR : R.Ok) {e now keep : Int} {c : Bool} (hw : rLive e now keep = c) {h : AHeap A} {K : AVal → AHeap A → Prop} (hk : K (.bool c) h) : Tri Pr R n_ring_Live [.int .i64 e, .int .i64 now, .int .i64 keep] h K := by
  refine ring_Live_ok hR e now keep ?_
  rw [hw]; exact hk
theorem awake14_ok (hR : R.Ok) (hB : HasBook R bk) (hB' : HasRBook R rbk) {h : AHeap A} {K : AVal → AHeap A → Prop} (hk : K (.bool true) h) : Tri Pr R n_law14_awake [] h K := by
  refine Tri.fn1 hR _ rfl rfl ?_ hk
  apply c_law14_awake
  unfold p_law14_awake
  refine law14_twin_ok hR hB hB' 9 ?_
  rw [if_pos (by omega)]
  simp
  have b0 : bOk 9 [] := bOk_nil (by omega)
  have k1 : rKey 9 [] 3 = ([65 :: eTerm 3], 0, 0) := by decide +kernel
  have b1 := rKey_at b0 k1
  have k2 : rKey 9 [65 :: eTerm 3] 3 = ([65 :: eTerm 3], 0, 0) := by decide +kernel
  have k3 : rKey 9 [65 :: eTerm 3] 4 = ([65 :: eTerm 3, 65 :: eTerm 4], 1, 0) := by decide +kernel
  have b3 := rKey_at b1 k3
  have k4 : rKey 9 [65 :: eTerm 3, 65 :: eTerm 4] (-1) = ([65 :: eTerm 3, 65 :: eTerm 4], 0, 1400) := by decide +kernel
  refine key_at hR hB b0 k1 rfl ?_
  simp only [extP_t, List.getElem?_cons_zero, List.getElem?_cons_succ, optP_some, List.set_cons_zero]
  refine key_at hR hB b1 k2 rfl ?_
  simp only [extP_t, List.getElem?_cons_zero, List.getElem?_cons_succ, optP_some, List.set_cons_zero]
  refine key_at hR hB b1 k3 rfl ?_
  simp only [extP_t, List.getElem?_cons_zero, List.getElem?_cons_succ, optP_some, List.set_cons_zero]
  refine key_at hR hB b3 k4 rfl ?_
  simp only [extP_t, List.getElem?_cons_zero, List.getElem?_cons_succ, optP_some, List.set_cons_zero]
  repeat (refine num14_ok ?_; simp)
  refine live_at hR (c := true) (by decide +kernel) ?_
  simp
  refine live_at hR (c := false) (by decide +kernel) ?_
  simp
  refine live_at hR (c := false) (by decide +kernel) ?_
  simp
  exact Ans.rfl' _
end
end Go.AI
