/- DiskLast. -/
import Derived.Test.YtlhmikjjnndjcaaSpLaw8c
import Derived.Test.YtlhmikjjnndjcaaSpDec
set_option linter.all false
namespace Go.AI
variable {A : Type} {R : Adts A}
theorem strs_low {t : TypeId} {m : Nat} (l : List Bs) : AObj.low R m (.cells t (l.map .str) : AObj A) := low_cells (strs_ix _ _)
def FillI (t : TypeId) (n : Nat) (o : AHeap A) (m : Nat) (y : List AVal) (g : AHeap A) : Prop :=
  ∃ i : Nat, y = [.int .i64 i] ∧ g = o ++ [.cells t ((List.replicate i zSec ++ List.replicate (n - i) []).map .str)] ∧ i ≤ n ∧ m = n - i
theorem fill_set (i n : Nat) (h : i < n) : (List.replicate i zSec ++ List.replicate (n - i) ([] : Bs)).set i zSec = List.replicate (i + 1) zSec ++ List.replicate (n - (i + 1)) [] := by
  obtain ⟨c, hc⟩ : ∃ c, n - i = c + 1 := ⟨n - (i + 1), by omega⟩
  rw [hc, show n - (i + 1) = c by omega, List.set_append_right _ _ (by simp), show List.replicate (c + 1) ([] : Bs) = [] :: List.replicate c [] from rfl, show List.replicate (i + 1) zSec = List.replicate i zSec ++ [zSec] from List.replicate_succ']
  simp
section
variable {mk : List Bs → Ws → Bool → A}
def LastI (mk : List Bs → Ws → Bool → A) (m : Nat) (y : List AVal) (g : AHeap A) : Prop :=
  ∃ (i : Int) (k : List Bs) (w : Ws), y = [.int .i64 w.length, .int .i64 i] ∧ g = [.adt (mk k w false), .cells t_arr8_string ((dPut k w).map .str)] ∧ dOk k w ∧ k.length = 8 ∧ w.length ≤ i ∧ 0 ≤ i ∧ i ≤ 50 ∧ m = (50 - i).toNat
def LastJ (mk : List Bs → Ws → Bool → A) (n : Nat) (vs : List AVal) (g : AHeap A) : Prop :=
  ∃ (k : List Bs) (w : Ws), vs = [.int .i64 w.length] ∧ g = [.adt (mk k w false), .cells t_arr8_string ((dPut k w).map .str)] ∧ dOk k w ∧ k.length = 8 ∧ w.length ≤ n + 1
def LastR (mk : List Bs → Ws → Bool → A) (k : List Bs) (w : Ws) (m : Nat) (y : List AVal) (g : AHeap A) : Prop :=
  ∃ j : Nat, y = [.int .i64 j] ∧ g = [.adt (mk k w false), .cells t_arr8_string ((dPut k w).map .str)] ∧ j ≤ 8 ∧ m = 8 - j
theorem DiskLast_ok (hR : R.Ok) (hB : HasDisk R mk) (a : AVal) (l : List Int) (ha : IsInts a l) : Tri Pr R n_law8_DiskLast [a] [] fun u _ => u = .bool true := by
  apply c_law8_DiskLast
  unfold p_law8_DiskLast
  refine awake8_ok hR hB ?_
  simp -implicitDefEqProofs
  obtain ⟨k0, ek0⟩ : ∃ k, List.replicate (8 : Int).toNat zSec = k := ⟨_, rfl⟩
  have es : sec [] = zSec := by simp [sec, zSec]
  have kl : k0.length = 8 := by rw [← ek0]; rfl
  have o0 : dOk k0 [] := by rw [← ek0]; exact dOk_new (by omega)
  refine disk_New_at hR hB (k := k0) (by omega) ek0 ?_
  simp -implicitDefEqProofs
  refine num14_ok ?_
  simp -implicitDefEqProofs
  refine loopP_go (FillI t_arr8_string 8 [.adt (mk k0 [] false)]) 8 (Gives.done (by simp) ⟨0, rfl, rfl, by omega, rfl⟩) ?_
  rintro m y g ⟨i, rfl, rfl, hi, rfl⟩
  have e1 := w64 (n := (i : Int) + 1) (by omega)
  simp -implicitDefEqProofs
  refine iteP_of (fun h1 => ?_) (fun h1 => ?_)
  · simp at h1
    have h1' : i < 8 := by omega
    refine sec_at hR (by decide) es ?_
    have hso := fun g : AHeap A => setO_one g 1 i (.str zSec) t_arr8_string ((List.replicate i zSec ++ List.replicate (8 - i) []).map .str) rfl (by simp; omega)
    simp at hso
    simp -implicitDefEqProofs [h1, hso, e1]
    refine Gives.done (by simp) ⟨8 - (i + 1), by omega, i + 1, rfl, ?_, by omega, rfl⟩
    have := congrArg (List.map AVal.str) (fill_set i 8 h1')
    simp at this
    simp [this]
  · simp at h1
    obtain rfl : i = 8 := by omega
    have hd : (dPut k0 []).map AVal.str = List.replicate 8 (AVal.str zSec) := by rw [← ek0]; rfl
    clear ek0
    simp -implicitDefEqProofs
    refine loopP_go (LastI mk) 50 (Gives.done (by simp) ⟨0, k0, [], rfl, by rw [hd]; rfl, o0, kl, by simp, by omega, by omega, rfl⟩) ?_
    rintro m y g ⟨i, k, w, rfl, rfl, ok, kl', wl, i0, i1, rfl⟩
    have e2 := w64 (n := i + 1) (by omega)
    simp -implicitDefEqProofs [ha.len]
    refine iteP_of (fun h1 => iteP_of (fun h2 => ?_) (fun h2 => trivial)) (fun h1 => trivial)
    simp at h1 h2
    obtain ⟨bb, oo, cs, hg⟩ := ha.get i0 h1
    generalize l.getD i.toNat 0 = s0 at hg
    simp -implicitDefEqProofs [hg]
    rw [bits_mask s0 3 (by omega) 7 (by decide)]
    obtain ⟨q, hq, q0, q1⟩ : ∃ q, s0 % 2 ^ 3 = q ∧ 0 ≤ q ∧ q < 8 := ⟨_, rfl, by omega, by omega⟩
    rw [hq]
    refine joinP_all (LastJ mk w.length) ?_ ?_
    · refine iteP_of (fun h3 => ?_) (fun h3 => ?_)
      · refine disk_Flush_at hR hB ok (by omega) rfl rfl ?_
        simp -implicitDefEqProofs
        refine num14_ok ?_
        simp -implicitDefEqProofs
        exact ⟨_, [], rfl, by simp [dPut], dOk_put ok, by rw [dPut_len, kl'], by simp⟩
      · refine Decimal_some hR i i0 (by omega) fun s hs => ?_
        have h4 : 1 + s.length < 9223372036854775808 := by omega
        simp -implicitDefEqProofs [h4]
        refine law8_sectorOf_ok hR _ (by simp; omega) ?_
        generalize hss : sec (118 :: s) = s1
        have l1 : s1.length = 64 := by rw [← hss]; exact sec_len _
        have hdl := dPut_len k w
        have hso := fun g : AHeap A => setO_one g 1 q.toNat (.str s1) t_arr8_string ((dPut k w).map .str) rfl (by simp; omega)
        have e3 := w64 (n := (w.length : Int) + 1) (by omega)
        have hlt : q.toNat < (dPut k w).length := by omega
        simp -implicitDefEqProofs [q0, q1, hso, hlt]
        refine disk_Write_at hR hB ok (by omega) (dWrite_good (by omega)) rfl ?_
        simp -implicitDefEqProofs [e3]
        refine num14_ok ?_
        simp -implicitDefEqProofs
        exact ⟨k, w ++ [(q, s1)], by simp, by rw [dPut_snoc]; simp, dOk_write ok (by omega), kl', by simp⟩
    rintro _ _ ⟨k', w', rfl, rfl, ok', kl2, wl'⟩
    refine ⟨by simp, ?_⟩
    simp -implicitDefEqProofs
    refine loopP_go (LastR mk k' w') 8 (Gives.done (by simp) ⟨0, rfl, rfl, by omega, rfl⟩) ?_
    rintro m y g ⟨j, rfl, rfl, hj, rfl⟩
    have e3 := w64 (n := (j : Int) + 1) (by omega)
    simp -implicitDefEqProofs
    refine iteP_of (fun h3 => ?_) (fun h3 => ?_)
    · simp at h3
      have hdl := dPut_len k' w'
      have hlt : j < (dPut k' w').length := by omega
      refine disk_Read_at hR hB ok' (by omega) (dRead_good (by omega)) rfl ?_
      simp -implicitDefEqProofs
      refine num14_ok ?_
      simp -implicitDefEqProofs [h3, hlt, e3]
      exact Gives.done (by simp) ⟨8 - (j + 1), by omega, j + 1, rfl, rfl, by omega, rfl⟩
    · refine disk_Waits_ok hR hB rfl ?_
      simp -implicitDefEqProofs [e2]
      exact Gives.done (by simp) ⟨(50 - (i + 1)).toNat, by omega, i + 1, k', w', rfl, rfl, ok', kl2, by omega, by omega, by omega, rfl⟩
end
end Go.AI
