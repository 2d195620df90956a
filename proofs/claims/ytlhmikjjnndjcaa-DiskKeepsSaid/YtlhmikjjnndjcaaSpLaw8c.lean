/- DiskForms. -/
import Derived.Test.YtlhmikjjnndjcaaSpLaw8b
import Derived.Test.YtlhmikjjnndjcaaFn1
set_option linter.all false
namespace Go.AI
variable {A : Type} {R : Adts A}
theorem dRead_bad {k : List Bs} {w : Ws} {x : Int} (h : x < 0 ∨ (k.length : Int) ≤ x) : dRead k w false x = ([], 800) := by
  unfold dRead; rw [if_neg (by simp), if_pos h]
theorem dRead_good {k : List Bs} {w : Ws} {x : Int} (h : 0 ≤ x ∧ x < (k.length : Int)) : dRead k w false x = ((dPut k w).getD x.toNat [], 0) := by
  unfold dRead; rw [if_neg (by simp), if_neg (by omega)]
section
variable {mk : List Bs → Ws → Bool → A}
def FormsJ (o : AHeap A) (vs : List AVal) (g : AHeap A) : Prop := vs = [.int .i64 800] ∧ g = o
theorem DiskForms_ok (hR : R.Ok) (hB : HasDisk R mk) (which x : Int) : Tri Pr R n_law8_DiskForms [.int .i64 which, .int .i64 x] [] fun u _ => u = .bool true := by
  apply c_law8_DiskForms
  unfold p_law8_DiskForms
  refine awake8_ok hR hB ?_
  simp -implicitDefEqProofs
  rw [bits_mask x 10 (by omega) 1023 (by decide)]
  obtain ⟨d0, hd, d1, d2⟩ : ∃ d, x % 2 ^ 10 = d ∧ 0 ≤ d ∧ d < 1024 := ⟨_, rfl, by omega, by omega⟩
  rw [hd]
  have e1 := w64 (n := 1 + d0) (by omega)
  have e2 := w64 (n := 1 - (1 + d0)) (by omega)
  have e3 := w64 (n := 256 + (1 + d0)) (by omega)
  have e4 := w64 (n := -(1 + d0)) (by omega)
  have e5 := w64 (n := 2 + (1 + d0)) (by omega)
  obtain ⟨k0, ek0⟩ : ∃ k, List.replicate (3 : Int).toNat zSec = k := ⟨_, rfl⟩
  obtain ⟨s1, es1⟩ : ∃ s, sec [107, 101, 112, 116] = s := ⟨_, rfl⟩
  obtain ⟨s2, es2⟩ : ∃ s, sec [] = s := ⟨_, rfl⟩
  have l1 : s1.length = 64 := by rw [← es1]; exact sec_len _
  have l2 : s2.length = 64 := by rw [← es2]; exact sec_len _
  have kl : k0.length = 3 := by rw [← ek0]; rfl
  have o0 : dOk k0 [] := by rw [← ek0]; exact dOk_new (by omega)
  obtain ⟨w1, ew1⟩ : ∃ w, [((1 : Int), s1)] = w := ⟨_, rfl⟩
  have wr1 : dWrite k0 [] false 1 s1 = (w1, 0) := by rw [dWrite_good (by omega), ← ew1]; rfl
  have o1 : dOk k0 w1 := by rw [← ew1]; exact dOk_write (w := []) o0 (by omega)
  have wl1 : w1.length = 1 := by rw [← ew1]; rfl
  obtain ⟨k1, ek1⟩ : ∃ k, dPut k0 w1 = k := ⟨_, rfl⟩
  have o2 : dOk k1 [] := by rw [← ek1]; exact dOk_put o1
  have kl1 : k1.length = 3 := by rw [← ek1, dPut_len, kl]
  have rd1 : dRead k1 [] false 1 = (s1, 0) := by rw [← ek1, ← ew1, ← ek0]; rfl
  have lo : dLost 0 0 k1 [] = k1 := rfl
  have o3 : dOk k1 [] := o2
  simp -implicitDefEqProofs [e1, e2, e3]
  refine disk_New_bad hR hB (by omega) ?_
  simp -implicitDefEqProofs
  refine disk_New_bad hR hB (by omega) ?_
  simp -implicitDefEqProofs
  refine disk_New_at hR hB (k := k0) (by omega) ek0 ?_
  clear ek0
  simp -implicitDefEqProofs
  refine num14_ok ?_
  simp -implicitDefEqProofs
  refine sec_at hR (by decide) es1 ?_
  refine disk_Write_at hR hB o0 (by decide) wr1 rfl ?_
  simp -implicitDefEqProofs
  refine disk_Flush_at hR hB o1 (by omega) ek1 rfl ?_
  simp -implicitDefEqProofs
  refine joinP_all (FormsJ [.adt (mk k1 [] false)]) ?_ ?_
  · obtain ⟨k, hk, k0', k9⟩ : ∃ k, (IntKind.u64.wrap which).tmod 9 = k ∧ 0 ≤ k ∧ k < 9 := by
      have h1 : 0 ≤ IntKind.u64.wrap which := by simp [IntKind.wrap, IntKind.signed, IntKind.bits]; omega
      exact ⟨_, rfl, Int.tmod_nonneg _ h1, Int.tmod_lt_of_pos _ (by omega)⟩
    have fin : FormsJ [.adt (mk k1 [] false)] [.int .i64 800] [.adt (mk k1 [] false)] := ⟨rfl, rfl⟩
    simp -implicitDefEqProofs [hk, e4, e5]
    refine iteP_of (fun _ => ?_) (fun _ => iteP_of (fun _ => ?_) (fun _ => iteP_of (fun _ => ?_) (fun _ => iteP_of (fun _ => ?_) (fun _ => iteP_of (fun _ => ?_) (fun _ => iteP_of (fun _ => ?_) (fun _ => iteP_of (fun _ => ?_) (fun _ => iteP_of (fun _ => ?_) (fun _ => ?_))))))))
    · refine sec_at hR (by decide) es2 ?_
      refine disk_Write_at hR hB o2 (by decide) (dWrite_bad (by omega)) rfl ?_
      simp -implicitDefEqProofs
      exact num14_ok fin
    · refine sec_at hR (by decide) es2 ?_
      refine disk_Write_at hR hB o2 (by decide) (dWrite_bad (by omega)) rfl ?_
      simp -implicitDefEqProofs
      exact num14_ok fin
    · refine disk_Write_at hR hB o2 (by decide) (dWrite_bad (by simp)) rfl ?_
      simp -implicitDefEqProofs
      exact num14_ok fin
    · refine sec_at hR (by decide) es2 ?_
      simp -implicitDefEqProofs [l2]
      refine disk_Write_at hR hB o2 (by decide) (dWrite_bad (by simp [l2])) rfl ?_
      simp -implicitDefEqProofs
      exact num14_ok fin
    · refine disk_Read_at hR hB o2 (by decide) (dRead_bad (by omega)) rfl ?_
      simp -implicitDefEqProofs
      exact num14_ok fin
    · refine disk_Read_at hR hB o2 (by decide) (dRead_bad (by omega)) rfl ?_
      simp -implicitDefEqProofs
      exact num14_ok fin
    · refine disk_Crash_bad hR hB o2 (by decide) (by omega) rfl ?_
      exact num14_ok fin
    · refine disk_Crash_bad hR hB o2 (by decide) (by omega) rfl ?_
      exact num14_ok fin
    · refine disk_Restart_up hR hB rfl ?_
      exact num14_ok fin
  rintro _ _ ⟨rfl, rfl⟩
  refine ⟨by simp, ?_⟩
  simp -implicitDefEqProofs
  refine disk_Read_at hR hB o2 (by decide) rd1 rfl ?_
  simp -implicitDefEqProofs
  refine disk_Crash_at hR hB o2 (by decide) (by omega) lo rfl ?_
  simp -implicitDefEqProofs
  refine sec_at hR (by decide) es2 ?_
  refine disk_Write_at hR hB o2 (by decide) (w' := []) (e := 801) rfl rfl ?_
  simp -implicitDefEqProofs
  refine disk_Flush_down hR hB o2 (by decide) rfl ?_
  refine disk_Crash_down hR hB o2 (by decide) rfl ?_
  refine disk_Restart_at hR hB rfl ?_
  simp -implicitDefEqProofs
  refine disk_Read_at hR hB o2 (by decide) rd1 rfl ?_
  simp -implicitDefEqProofs
  repeat (refine num14_ok ?_; simp -implicitDefEqProofs)
  refine sec_at hR (by decide) es1 ?_
  simp -implicitDefEqProofs
  repeat (refine num14_ok ?_; simp -implicitDefEqProofs)
end
end Go.AI
