/- Disks: what every program answers that is one. -/
import Derived.Test.YtlhmikjjnndjcaaSpDiskAt
import Derived.Test.YtlhmikjjnndjcaaSpLaw14
import Derived.Test.YtlhmikjjnndjcaaFn0
set_option linter.all false
namespace Go.AI
variable {A : Type} {R : Adts A}
/-- A text, cut or filled. -/
def sec (s : Bs) : Bs := (s ++ zSec).take 64
theorem sec_len (s : Bs) : (sec s).length = 64 := by simp [sec, zSec]
theorem law8_sectorOf_ok (hR : R.Ok) (s : Bs) (hs : s.length + 64 < 9223372036854775808) {h : AHeap A} {K : AVal → AHeap A → Prop} (hk : K (.str (sec s)) h) : Tri Pr R n_law8_sectorOf [.str s] h K := by
  refine Tri.fn1 hR _ rfl rfl ?_ hk
  apply c_law8_sectorOf
  unfold p_law8_sectorOf
  simp [mkslP]
  refine z_read (by rfl) (by rfl) ?_
  have h1 : s.length + zSec.length < 9223372036854775808 := by simpa [zSec] using hs
  have h2 : zSec.length = 64 := rfl
  have h3 : (64 : Int) ≤ (s.length : Int) + 64 := by omega
  simp [h2, hs, h3]
  exact Ans.of (by simp [sec])
theorem sec_at (hR : R.Ok) {s t : Bs} (hs : s.length < 1000) (he : sec s = t) {h : AHeap A} {K : AVal → AHeap A → Prop} (hk : K (.str t) h) : Tri Pr R n_law8_sectorOf [.str s] h K := by
  refine law8_sectorOf_ok hR s (by omega) ?_
  rw [he]; exact hk
section
variable {mk : List Bs → Ws → Bool → A}
theorem awake8_ok (hR : R.Ok) (hB : HasDisk R mk) {h : AHeap A} {K : AVal → AHeap A → Prop} (hk : K (.bool true) h) : Tri Pr R n_law8_awake [] h K := by
  refine Tri.fn1 hR _ rfl rfl ?_ hk
  apply c_law8_awake
  unfold p_law8_awake
  obtain ⟨k0, ek0⟩ : ∃ k, List.replicate (2 : Int).toNat zSec = k := ⟨_, rfl⟩
  obtain ⟨s1, es1⟩ : ∃ s, sec [111, 110, 101] = s := ⟨_, rfl⟩
  obtain ⟨s2, es2⟩ : ∃ s, sec [116, 119, 111] = s := ⟨_, rfl⟩
  obtain ⟨s3, es3⟩ : ∃ s, sec [116, 104, 114, 101, 101] = s := ⟨_, rfl⟩
  obtain ⟨s4, es4⟩ : ∃ s, sec [] = s := ⟨_, rfl⟩
  obtain ⟨s5, es5⟩ : ∃ s, sec [116, 110, 101] = s := ⟨_, rfl⟩
  have l1 : s1.length = 64 := by rw [← es1]; exact sec_len _
  have l2 : s2.length = 64 := by rw [← es2]; exact sec_len _
  have l3 : s3.length = 64 := by rw [← es3]; exact sec_len _
  have l4 : s4.length = 64 := by rw [← es4]; exact sec_len _
  have kl : k0.length = 2 := by rw [← ek0]; rfl
  have o0 : dOk k0 [] := by rw [← ek0]; exact dOk_new (by omega)
  obtain ⟨w1, ew1⟩ : ∃ w, [((0 : Int), s1)] = w := ⟨_, rfl⟩
  have wr1 : dWrite k0 [] false 0 s1 = (w1, 0) := by rw [dWrite_good (by omega), ← ew1]; rfl
  have o1 : dOk k0 w1 := by rw [← ew1]; exact dOk_write (w := []) o0 (by omega)
  have wl1 : w1.length = 1 := by rw [← ew1]; rfl
  obtain ⟨k1, ek1⟩ : ∃ k, dPut k0 w1 = k := ⟨_, rfl⟩
  have ek1c := ek1
  have o2 : dOk k1 [] := by rw [← ek1]; exact dOk_put o1
  have kl1 : k1.length = 2 := by rw [← ek1, dPut_len, kl]
  obtain ⟨w2, ew2⟩ : ∃ w, [((0 : Int), s2)] = w := ⟨_, rfl⟩
  have wr2 : dWrite k1 [] false 0 s2 = (w2, 0) := by rw [dWrite_good (by omega), ← ew2]; rfl
  have o3 : dOk k1 w2 := by rw [← ew2]; exact dOk_write (w := []) o2 (by omega)
  have wl2 : w2.length = 1 := by rw [← ew2]; rfl
  obtain ⟨w3, ew3⟩ : ∃ w, w2 ++ [((1 : Int), s3)] = w := ⟨_, rfl⟩
  have wr3 : dWrite k1 w2 false 1 s3 = (w3, 0) := by rw [dWrite_good (by omega), ew3]
  have o4 : dOk k1 w3 := by rw [← ew3]; exact dOk_write o3 (by omega)
  have wl3 : w3.length = 2 := by rw [← ew3]; simp [wl2]
  have ek1' : k1 = [s1, zSec] := by rw [← ek1, ← ew1, ← ek0]; rfl
  have rd1 : dRead k1 w3 false 0 = (s2, 0) := by rw [← ew3, ← ew2, ek1']; rfl
  obtain ⟨k2, ek2⟩ : ∃ k, dLost 2 1 k1 w3 = k := ⟨_, rfl⟩
  have ek2c := ek2
  have o5 : dOk k2 [] := by rw [← ek2]; exact dOk_lost o4 (by omega)
  have ek2' : k2 = [s5, s3] := by
    rw [← ek2, ← ew3, ← ew2, ek1', ← es5, ← es1, ← es2, ← es3]
    decide +kernel
  have kl2 : k2.length = 2 := by rw [ek2']; rfl
  have rd2 : dRead k2 [] true 0 = ([], 801) := rfl
  have rd3 : dRead k2 [] false 0 = (s5, 0) := by rw [ek2']; rfl
  have rd4 : dRead k2 [] false 1 = (s3, 0) := by rw [ek2']; rfl
  have wr4 : dWrite k2 [] false 2 s4 = ([], 800) := dWrite_bad (by omega)
  have wr5 : dWrite k2 [] false 0 [120] = ([], 800) := dWrite_bad (by simp)
  clear ek1 ek2 ek1' ek2' ew1 ew2 ew3
  refine disk_New_at hR hB (k := k0) (by omega) ek0 ?_
  clear ek0
  simp only [extP_t, List.getElem?_cons_zero, List.getElem?_cons_succ, optP_some, List.nil_append, List.length_nil]
  refine disk_New_bad hR hB (by omega) ?_
  simp only [extP_t, List.getElem?_cons_zero, List.getElem?_cons_succ, optP_some, List.nil_append, List.length_nil]
  refine num14_ok ?_
  simp -implicitDefEqProofs
  refine sec_at hR (by decide) es1 ?_
  refine disk_Write_at hR hB o0 (by decide) wr1 rfl ?_
  simp only [List.set_cons_zero]
  refine disk_Flush_at hR hB o1 (by omega) ek1c rfl ?_
  simp only [List.set_cons_zero]
  refine sec_at hR (by decide) es2 ?_
  refine disk_Write_at hR hB o2 (by decide) wr2 rfl ?_
  simp only [List.set_cons_zero]
  refine sec_at hR (by decide) es3 ?_
  refine disk_Write_at hR hB o3 (by omega) wr3 rfl ?_
  simp only [List.set_cons_zero]
  refine disk_Read_at hR hB o4 (by omega) rd1 rfl ?_
  simp only [extP_t, List.getElem?_cons_zero, List.getElem?_cons_succ, optP_some]
  refine disk_Waits_at hR hB (n := 2) (by omega) rfl ?_
  refine disk_Crash_at hR hB o4 (by omega) (by omega) ek2c rfl ?_
  simp only [List.set_cons_zero]
  refine disk_Read_at hR hB o5 (by decide) rd2 rfl ?_
  simp only [extP_t, List.getElem?_cons_zero, List.getElem?_cons_succ, optP_some]
  refine disk_Restart_at hR hB rfl ?_
  simp only [List.set_cons_zero]
  refine disk_Read_at hR hB o5 (by decide) rd3 rfl ?_
  simp only [extP_t, List.getElem?_cons_zero, List.getElem?_cons_succ, optP_some]
  refine disk_Read_at hR hB o5 (by decide) rd4 rfl ?_
  simp only [extP_t, List.getElem?_cons_zero, List.getElem?_cons_succ, optP_some]
  refine sec_at hR (by decide) es4 ?_
  refine disk_Write_at hR hB o5 (by decide) wr4 rfl ?_
  simp only [List.set_cons_zero]
  refine disk_Write_at hR hB o5 (by decide) wr5 rfl ?_
  simp only [List.set_cons_zero]
  refine num14_ok ?_
  simp -implicitDefEqProofs
  repeat (refine num14_ok ?_; simp -implicitDefEqProofs)
  refine sec_at hR (by decide) es2 ?_
  simp -implicitDefEqProofs
  repeat (refine num14_ok ?_; simp -implicitDefEqProofs)
  refine sec_at hR (by decide) es5 ?_
  simp -implicitDefEqProofs
  repeat (refine num14_ok ?_; simp -implicitDefEqProofs)
  refine sec_at hR (by decide) es3 ?_
  simp -implicitDefEqProofs
  repeat (refine num14_ok ?_; simp -implicitDefEqProofs)
  refine disk_Waits_at hR hB (n := 0) rfl rfl ?_
  simp -implicitDefEqProofs
  exact Ans.rfl' _
end
end Go.AI
