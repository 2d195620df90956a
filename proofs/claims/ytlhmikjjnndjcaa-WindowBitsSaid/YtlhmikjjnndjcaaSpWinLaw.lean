/- A window and the set of the numbers that came: a plain law. -/
import Derived.Test.YtlhmikjjnndjcaaSpWin
set_option linter.all false
namespace Go.AI
structure Win (hi : Int) (b : Nat) (S : Int → Prop) : Prop where
  may : wMay hi b = true
  bit : ∀ t : Int, 0 ≤ t → t ≤ hi → hi - t < 32 → (b.testBit (hi - t).toNat = true ↔ S t)
  top : ∀ t, S t → 0 ≤ t ∧ t ≤ hi
theorem Win.none : Win (-1) 0 fun _ => False := ⟨by decide, fun t h1 h2 => by omega, fun _ h => h.elim⟩
theorem Win.cong {hi : Int} {b : Nat} {S S' : Int → Prop} (w : Win hi b S) (h : ∀ t, S t ↔ S' t) : Win hi b S' :=
  ⟨w.may, fun t h1 h2 h3 => (w.bit t h1 h2 h3).trans (h t), fun t ht => w.top t ((h t).2 ht)⟩
theorem Win.far {hi : Int} {b : Nat} {S : Int → Prop} (w : Win hi b S) {s : Int} (h0 : 0 ≤ s) (h1 : s ≤ 1048575) (h2 : s ≤ hi - 32) : wAdd hi b s = (0, 0, 1701) := by
  rw [wAdd_old w.may h0 h1 (by omega), if_pos (.inl (by omega))]
theorem Win.old {hi : Int} {b : Nat} {S : Int → Prop} (w : Win hi b S) {s : Int} (h1 : s ≤ 1048575) (h2 : S s) : wAdd hi b s = (0, 0, 1701) := by
  obtain ⟨h0, h3⟩ := w.top s h2
  by_cases h4 : 32 ≤ hi - s
  · exact w.far h0 h1 (by omega)
  · have h5 := (w.bit s h0 h3 (by omega)).2 h2
    rw [wAdd_old w.may h0 h1 (by omega), if_pos (.inr (by simpa using h5))]
theorem odd_or {b x : Nat} (h : b % 2 = 1) : (b ||| x) % 2 = 1 := by
  have h1 : (b ||| x).testBit 0 = true := by rw [Nat.testBit_or]; simp [Nat.testBit_zero, h]
  simpa [Nat.testBit_zero] using h1
theorem Win.fresh {hi : Int} {b : Nat} {S : Int → Prop} (w : Win hi b S) {s : Int} (h0 : 0 ≤ s) (h1 : s ≤ 1048575) (h2 : hi - 32 < s) (h3 : ¬ S s) :
    ∃ b' : Nat, wAdd hi b s = (max hi s, (b' : Int), 0) ∧ Win (max hi s) b' fun t => S t ∨ t = s := by
  have hm := wMay_spec w.may
  by_cases h4 : hi < s
  · have h5 : max hi s = s := by omega
    rw [wAdd_new w.may h0 h1 h4, h5]
    simp only [Int.toNat_natCast]
    refine ⟨_, rfl, ?_, ?_, ?_⟩
    · generalize hx : (if s - hi < 32 then b * 2 ^ (s - hi).toNat % 4294967296 else 0) = x
      have hlt : x < 4294967296 := by subst hx; split <;> omega
      have hlt2 : x < 2 ^ (s.toNat + 1) := by
        have hp := Nat.two_pow_pos (s.toNat + 1)
        subst hx; split
        · rename_i h6
          refine Nat.lt_of_le_of_lt (Nat.mod_le _ _) ?_
          rcases hm with ⟨h7, h8⟩ | ⟨h7, h8, h9, h10, h11, h12⟩
          · have : b = 0 := by omega
            subst this; simpa using hp
          · have h13 : b < 2 ^ (hi.toNat + 1) := by rw [← pow2_cast] at h12; exact_mod_cast h12
            calc b * 2 ^ (s - hi).toNat < 2 ^ (hi.toNat + 1) * 2 ^ (s - hi).toNat := Nat.mul_lt_mul_of_pos_right h13 (Nat.two_pow_pos _)
              _ = 2 ^ (s.toNat + 1) := by rw [← Nat.pow_add]; congr 1; omega
        · exact hp
      have h14 : x ||| 1 < 2 ^ 32 := Nat.or_lt_two_pow hlt (by omega)
      have h15 : x ||| 1 < 2 ^ (s.toNat + 1) := Nat.or_lt_two_pow hlt2 (Nat.one_lt_two_pow (by omega))
      have h16 : (x ||| 1) % 2 = 1 := by rw [Nat.or_comm]; exact odd_or rfl
      simp only [wMay, Bool.or_eq_true, decide_eq_true_eq]
      refine .inr ⟨h0, h1, by omega, by omega, by omega, ?_⟩
      rw [← pow2_cast]; exact_mod_cast h15
    · intro t t0 t1 t2
      rw [Nat.testBit_or]
      by_cases h6 : t = s
      · subst h6; simp
      · have h7 : (s - t).toNat = (s - t).toNat - 1 + 1 := by omega
        have h8 : (1 : Nat).testBit (s - t).toNat = false := by rw [h7]; simp [Nat.testBit_succ]
        rw [h8, Bool.or_false]
        simp only [h6, or_false]
        split
        · rename_i h9
          rw [show 4294967296 = 2 ^ 32 from rfl, Nat.testBit_mod_two_pow, Nat.testBit_mul_two_pow]
          have h10 : (s - t).toNat < 32 := by omega
          simp only [h10, decide_true, Bool.true_and]
          by_cases h11 : t ≤ hi
          · have h12 : (s - hi).toNat ≤ (s - t).toNat := by omega
            simp only [h12, decide_true, Bool.true_and]
            rw [show (s - t).toNat - (s - hi).toNat = (hi - t).toNat by omega]
            exact w.bit t t0 h11 (by omega)
          · have h12 : ¬ (s - hi).toNat ≤ (s - t).toNat := by omega
            simp only [h12, decide_false, Bool.false_and, Bool.false_eq_true, false_iff]
            intro h; have := (w.top t h).2; omega
        · simp only [Nat.zero_testBit, Bool.false_eq_true, false_iff]
          intro h; have := (w.top t h).2; omega
    · rintro t (h | rfl)
      · have := w.top t h; omega
      · omega
  · have h5 : max hi s = hi := by omega
    have h6 : ¬ b.testBit (hi - s).toNat = true := fun h => h3 ((w.bit s h0 (by omega) (by omega)).1 h)
    rcases hm with ⟨h7, h8⟩ | ⟨h7, h8, h9, h10, h11, h12⟩
    · omega
    rw [wAdd_old w.may h0 h1 h4, if_neg (by rintro (h | h); omega; exact h6 (by simpa using h)), h5]
    simp only [Int.toNat_natCast]
    refine ⟨_, rfl, ?_, ?_, ?_⟩
    · have h13 : b < 2 ^ (hi.toNat + 1) := by rw [← pow2_cast] at h12; exact_mod_cast h12
      have h14 : b ||| 2 ^ (hi - s).toNat < 2 ^ 32 := Nat.or_lt_two_pow (by omega) (Nat.pow_lt_pow_right (by omega) (by omega))
      have h15 : b ||| 2 ^ (hi - s).toNat < 2 ^ (hi.toNat + 1) := Nat.or_lt_two_pow h13 (Nat.pow_lt_pow_right (by omega) (by omega))
      have h16 : (b ||| 2 ^ (hi - s).toNat) % 2 = 1 := odd_or (by omega)
      simp only [wMay, Bool.or_eq_true, decide_eq_true_eq]
      refine .inr ⟨h7, h8, by omega, by omega, by omega, ?_⟩
      rw [← pow2_cast]; exact_mod_cast h15
    · intro t t0 t1 t2
      rw [Nat.testBit_or, Nat.testBit_two_pow]
      by_cases h16 : t = s
      · subst h16; simp
      · have h17 : ¬ (hi - s).toNat = (hi - t).toNat := by omega
        simp only [h17, decide_false, Bool.or_false, h16, or_false]
        exact w.bit t t0 t1 t2
    · rintro t (h | rfl)
      · have := w.top t h; omega
      · omega
theorem Win.ext {hi : Int} {b b' : Nat} {S : Int → Prop} (w : Win hi b S) (w' : Win hi b' S) : b = b' := by
  have hm := wMay_spec w.may
  have hm' := wMay_spec w'.may
  rcases hm with ⟨h7, h8⟩ | ⟨h7, h8, h9, h10, h11, h12⟩
  · rcases hm' with ⟨k7, k8⟩ | ⟨k7, k8, k9, k10, k11, k12⟩ <;> omega
  · rcases hm' with ⟨k7, k8⟩ | ⟨k7, k8, k9, k10, k11, k12⟩
    · omega
    · apply Nat.eq_of_testBit_eq
      intro i
      have e1 : b < 2 ^ (hi.toNat + 1) := by rw [← pow2_cast] at h12; exact_mod_cast h12
      have e2 : b' < 2 ^ (hi.toNat + 1) := by rw [← pow2_cast] at k12; exact_mod_cast k12
      by_cases h1 : i < 32
      · by_cases h2 : (i : Int) ≤ hi
        · have a := w.bit (hi - i) (by omega) (by omega) (by omega)
          have a' := w'.bit (hi - i) (by omega) (by omega) (by omega)
          rw [show (hi - (hi - (i : Int))).toNat = i by omega] at a a'
          rw [Bool.eq_iff_iff, a, a']
        · rw [Nat.testBit_lt_two_pow (Nat.lt_of_lt_of_le e1 (Nat.pow_le_pow_right (by omega) (by omega))), Nat.testBit_lt_two_pow (Nat.lt_of_lt_of_le e2 (Nat.pow_le_pow_right (by omega) (by omega)))]
      · rw [Nat.testBit_lt_two_pow (Nat.lt_of_lt_of_le (show b < 2 ^ 32 by omega) (Nat.pow_le_pow_right (by omega) (by omega))), Nat.testBit_lt_two_pow (Nat.lt_of_lt_of_le (show b' < 2 ^ 32 by omega) (Nat.pow_le_pow_right (by omega) (by omega)))]
theorem Win.mem {hi : Int} {b : Nat} {S : Int → Prop} (w : Win hi b S) (h : hi ≠ -1) : S hi := by
  rcases wMay_spec w.may with ⟨h7, h8⟩ | ⟨h7, h8, h9, h10, h11, h12⟩
  · exact (h h7).elim
  · refine (w.bit hi h7 (by omega) (by omega)).1 ?_
    rw [show (hi - hi).toNat = 0 by omega, Nat.testBit_zero]
    simp; omega
theorem Win.ext2 {hi hi' : Int} {b b' : Nat} {S : Int → Prop} (w : Win hi b S) (w' : Win hi' b' S) : hi = hi' ∧ b = b' := by
  have h1 : hi = hi' := by
    have k : -1 ≤ hi := by have := wMay_spec w.may; omega
    have k' : -1 ≤ hi' := by have := wMay_spec w'.may; omega
    by_cases h : hi = -1
    · by_cases h' : hi' = -1
      · omega
      · have := w.top _ (w'.mem h'); omega
    · have a := w'.top _ (w.mem h)
      by_cases h' : hi' = -1
      · omega
      · have := w.top _ (w'.mem h'); omega
  subst h1
  exact ⟨rfl, w.ext w'⟩
end Go.AI
