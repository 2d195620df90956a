/- WindowOnce. -/
import Derived.Test.YtlhmikjjnndjcaaSpLaw17
import Derived.Test.YtlhmikjjnndjcaaSpWinLaw
import Derived.Test.YtlhmikjjnndjcaaSpUse
set_option linter.all false
namespace Go.AI
variable {A : Type} {R : Adts A}
/-- A table of bools. -/
def IsTab (L : List AVal) (n : Nat) (S : Int → Prop) : Prop := ∃ B : List Bool, L = B.map .bool ∧ B.length = n ∧ ∀ t : Nat, t < n → (B.getD t false = true ↔ S t)
theorem IsTab.none (n : Nat) : IsTab (reps n (.bool false)) n fun _ => False :=
  ⟨List.replicate n false, by simp [reps], by simp, fun t ht => by simp [List.getD_eq_getElem?_getD, List.getElem?_replicate, ht]⟩
theorem IsTab.get {L : List AVal} {n : Nat} {S : Int → Prop} (h : IsTab L n S) {t : Nat} (ht : t < n) : ∃ c, L[t]? = some (.bool c) ∧ (c = true ↔ S t) := by
  obtain ⟨B, rfl, hl, hb⟩ := h
  refine ⟨B.getD t false, ?_, hb t ht⟩
  simp [List.getD_eq_getElem?_getD, show t < B.length by omega]
theorem IsTab.set {L : List AVal} {n : Nat} {S : Int → Prop} (h : IsTab L n S) {t : Nat} (ht : t < n) : IsTab (L.set t (.bool true)) n fun u => S u ∨ u = t := by
  obtain ⟨B, rfl, hl, hb⟩ := h
  refine ⟨B.set t true, by simp, by simpa using hl, fun u hu => ?_⟩
  have := hb u hu
  simp only [List.getD_eq_getElem?_getD, List.getElem?_set] at this ⊢
  by_cases h1 : t = u
  · subst h1; simp [show t < B.length by omega]
  · have h2 : ¬ (u : Int) = t := by omega
    simp only [h1, if_false, h2, or_false]; exact this
theorem IsTab.len {L : List AVal} {n : Nat} {S : Int → Prop} (h : IsTab L n S) : L.length = n := by obtain ⟨B, rfl, hl, _⟩ := h; simpa using hl
theorem IsTab.ix {L : List AVal} {n m : Nat} {S : Int → Prop} (h : IsTab L n S) : ixs m L = true := by
  obtain ⟨B, rfl, _, _⟩ := h; simp [ixs_all, AVal.ix]
def OnceI (m : Nat) (y : List AVal) (g : AHeap A) : Prop :=
  ∃ (hi : Int) (b : Nat) (S : Int → Prop) (i : Int) (L : List AVal), y = [.int .i64 hi, .int .i64 i] ∧ g = [.cells t_api_Window [.int .i64 hi, .int .i64 b], .cells t_arr256_bool L] ∧ Win hi b S ∧ IsTab L 256 S ∧ (∀ t, S t → t < 256) ∧ 0 ≤ i ∧ i ≤ 60 ∧ m = (60 - i).toNat ∧ hi < 256
set_option maxHeartbeats 1000000 in
theorem WindowOnce_ok (hR : R.Ok) (a : AVal) (l : List Int) (ha : IsInts a l) : Tri Pr R n_law17_WindowOnce [a] [] fun u _ => u = .bool true := by
  apply c_law17_WindowOnce
  unfold p_law17_WindowOnce
  refine awake17_ok hR ?_
  simp
  refine loopP_go OnceI 60 ?_ ?_
  · refine Gives.done (by simp) ⟨-1, 0, _, 0, _, rfl, rfl, Win.none, IsTab.none 256, fun _ h => h.elim, by omega, by omega, rfl, by omega⟩
  rintro m y g ⟨hi, b, S, i, L, rfl, rfl, hw, hL, hS, i0, i1, rfl, hhi⟩
  simp [ha.len]
  refine iteP_of (fun h1 => iteP_of (fun h2 => joinP_go ?_) (fun h2 => trivial)) (fun h1 => trivial)
  simp at h1 h2
  obtain ⟨bb, oo, cs, hg⟩ := ha.get i0 h1
  generalize l.getD i.toNat 0 = s0 at hg
  simp [hg]
  rw [bits_mask s0 8 (by omega) 255 (by decide)]
  obtain ⟨s, hs, s1, s2⟩ : ∃ s, s0 % 2 ^ 8 = s ∧ 0 ≤ s ∧ s < 256 := ⟨_, rfl, by omega, by omega⟩
  rw [hs]
  obtain ⟨c, hc, hcS⟩ := hL.get (show s.toNat < 256 by omega)
  have hst : ((s.toNat : Nat) : Int) = s := by omega
  rw [hst] at hcS
  have hhi2 : -1 ≤ hi := by have := wMay_spec hw.may; omega
  have e1 := w64 (n := hi - 32) (by omega)
  have e2 := w64 (n := i + 1) (by omega)
  have e3 : (if hi < s then s else hi) = max hi s := by split <;> omega
  by_cases hf : s ≤ hi - 32
  · have f1 : ¬ hi - 32 < s := by omega
    refine add_at hR (hw.far s1 (by omega) hf) ?_
    simp [hc, e1, e2, s1, s2, f1]
    refine iteP_of (fun _ => ?_) (fun _ => ?_)
    all_goals
      refine num_ok ?_
      simp
      refine num_ok ?_
      simp
      refine Gives.cut hR (m := 2) (by omega) (by simp) rfl (by simp; exact ⟨low_cells rfl, low_cells hL.ix⟩) ?_
      exact ⟨_, by omega, hi, b, S, i + 1, L, rfl, rfl, hw, hL, hS, by omega, by omega, rfl, hhi⟩
  · have f1 : hi - 32 < s := by omega
    by_cases hS2 : S s
    · refine add_at hR (hw.old (by omega) hS2) ?_
      obtain rfl : c = true := hcS.2 hS2
      simp [hc, e1, e2, s1, s2, f1]
      refine num_ok ?_
      simp
      refine num_ok ?_
      simp
      refine Gives.cut hR (m := 2) (by omega) (by simp) rfl (by simp; exact ⟨low_cells rfl, low_cells hL.ix⟩) ?_
      exact ⟨_, by omega, hi, b, S, i + 1, L, rfl, rfl, hw, hL, hS, by omega, by omega, rfl, hhi⟩
    · obtain rfl : c = false := by cases c with | false => rfl | true => exact (hS2 (hcS.1 rfl)).elim
      obtain ⟨b', hb1, hb2⟩ := hw.fresh s1 (by omega) f1 hS2
      have hL2 := hL.set (show s.toNat < 256 by omega)
      rw [hst] at hL2
      have hlen := hL.len
      refine add_at hR hb1 ?_
      simp [hc, e1, e2, s1, s2, f1]
      refine num_ok ?_
      have hso := fun g : AHeap A => setO_one g 1 s.toNat (.bool true) t_arr256_bool L rfl (by omega)
      simp [e3, hso]
      refine may_at hR hb2.may ?_
      simp
      refine Gives.cut hR (m := 2) (by omega) (by simp) rfl (by simp; exact ⟨low_cells rfl, low_cells hL2.ix⟩) ?_
      exact ⟨_, by omega, max hi s, b', _, i + 1, _, rfl, rfl, hb2, hL2, fun t ht => by rcases ht with ht | rfl; exact hS t ht; exact s2, by omega, by omega, rfl, by omega⟩
end Go.AI
