/- What package window, and the document's window, compute. -/
import Derived.Test.YtlhmikjjnndjcaaSpBits
import Derived.Test.YtlhmikjjnndjcaaFn3
import Derived.Test.YtlhmikjjnndjcaaFn5
set_option linter.all false
namespace Go.AI
variable {A : Type} {R : Adts A}

/-- May a window be? -/
def wMay (hi b : Int) : Bool := decide (hi = -1 ∧ b = 0) || decide (0 ≤ hi ∧ hi ≤ 1048575 ∧ b % 2 = 1 ∧ 0 ≤ b ∧ b < 4294967296 ∧ b < 2 ^ (hi.toNat + 1))

theorem within_ok (hi : Int) (h0 : 0 ≤ hi) (h1 : hi ≤ 1048575) {h : AHeap A} {K : AVal → AHeap A → Prop} (hk : K (.int .i64 (if 32 ≤ hi then 4294967295 else 2 ^ (hi.toNat + 1) - 1)) h) : Tri Pr R n_window_within [.int .i64 hi] h K := by
  apply c_window_within
  unfold p_window_within
  simp (disch := omega)
  refine iteP_of (fun hc => ?_) (fun hc => ?_)
  · simp at hc
    rwa [if_pos hc] at hk
  · simp at hc
    rw [if_neg (by omega)] at hk
    have h2 : min (hi + 1).toNat 64 = hi.toNat + 1 := by omega
    have h3 := pow2_le (show hi.toNat + 1 ≤ 32 by omega)
    have h4 := pow2_pos (hi.toNat + 1)
    rw [show IntKind.i64.bits = 64 from rfl, h2]
    simp (disch := omega) only [w64]
    exact hk
theorem may_ok (hR : R.Ok) (hi b : Int) {h : AHeap A} {K : AVal → AHeap A → Prop} (hk : K (.bool (wMay hi b)) h) : Tri Pr R n_window_May [.agg [.int .i64 hi, .int .i64 b]] h K := by
  refine Tri.fn1 hR _ rfl rfl ?_ hk
  apply c_window_May
  unfold p_window_May
  simp
  refine iteP_of (fun hc => ?_) (fun hc => joinP_go ?_)
  · simp at hc; subst hc; refine Ans.bool ?_; simp [wMay]
  · simp at hc
    refine iteP_of (fun h0 => iteP_of (fun h1 => iteP_of (fun h2 => iteP_of (fun h3 => within_ok hi (by simpa using h0) (by simpa using h1) ?_) (fun h3 => ⟨by simp, ?_⟩)) (fun h2 => ⟨by simp, ?_⟩)) (fun h1 => ⟨by simp, ?_⟩)) (fun h0 => ⟨by simp, ?_⟩)
    · simp [bits_and1] at h0 h1 h2 h3
      simp
      rw [bits_mask b 32 (by omega) 4294967295 (by decide)]
      refine Ans.bool ?_
      by_cases h5 : 32 ≤ hi
      · rw [if_pos h5, bits_mask _ 32 (by omega) 4294967295 (by decide)]
        have := pow2_le (show 32 ≤ hi.toNat + 1 by omega)
        simp [wMay]; omega
      · rw [if_neg h5, bits_mask _ (hi.toNat + 1) (by omega) _ rfl]
        have h6 := pow2_le (show hi.toNat + 1 ≤ 32 by omega)
        have h7 := pow2_pos (hi.toNat + 1)
        have h8 := Int.emod_lt_of_pos (b % 2 ^ 32) h7
        have h9 := Int.emod_nonneg (b % 2 ^ 32) (show (2 : Int) ^ (hi.toNat + 1) ≠ 0 by omega)
        have h10 : b < 2 ^ (hi.toNat + 1) → b % 2 ^ 32 % 2 ^ (hi.toNat + 1) = b := fun h => by
          rw [Int.emod_eq_of_lt h3 (by omega), Int.emod_eq_of_lt h3 h]
        simp only [beq_iff_eq, wMay, Bool.or_eq_true, decide_eq_true_eq]
        omega
    all_goals (simp [bits_and1] at h0; try simp [bits_and1] at h1; try simp [bits_and1] at h2; try simp [bits_and1] at h3)
    all_goals (refine Ans.bool ?_; simp only [wMay, Bool.or_eq_true, decide_eq_true_eq, Bool.false_eq_true, false_iff]; omega)

theorem shr_eq {b : Int} {k : Nat} (hb : 0 ≤ b) : b.fdiv (2 ^ k) = b / 2 ^ k := Int.fdiv_eq_ediv_of_nonneg _ (Int.le_of_lt (pow2_pos k))
theorem rmay_ok (hR : R.Ok) (hi b : Int) {h : AHeap A} {K : AVal → AHeap A → Prop} (hk : K (.bool (wMay hi b)) h) : Tri Pr R n_ref12_WindowMay [.agg [.int .i64 hi, .int .i64 b]] h K := by
  refine Tri.fn1 hR _ rfl rfl ?_ hk
  apply c_ref12_WindowMay
  unfold p_ref12_WindowMay
  simp
  refine iteP_of (fun hc => ?_) (fun hc => ?_)
  · simp at hc; subst hc; refine Ans.bool ?_; simp [wMay]
  · simp at hc
    refine iteP_of (fun h0 => iteP_of (fun h1 => iteP_of (fun h2 => iteP_of (fun h3 => iteP_of (fun h4 => ?_) (fun h4 => iteP_of (fun h5 => ?_) (fun h5 => ?_))) (fun h3 => ?_)) (fun h2 => ?_)) (fun h1 => ?_)) (fun h0 => ?_)
    · simp [bits_and1] at h0 h1 h2 h3 h4
      refine Ans.bool ?_; simp only [wMay, Bool.or_eq_true, decide_eq_true_eq, Bool.false_eq_true, false_iff]; omega
    · simp [bits_and1] at h0 h1 h2 h3 h4 h5
      simp (disch := omega)
      have h6 : min (hi + 1).toNat 64 = hi.toNat + 1 := by omega
      rw [show IntKind.i64.bits = 64 from rfl, h6, shr_eq (by omega)]
      refine Ans.bool ?_
      have h7 := pow2_pos (hi.toNat + 1)
      have h8 : b / 2 ^ (hi.toNat + 1) = 0 ↔ b < 2 ^ (hi.toNat + 1) := by
        exact ⟨fun h => by have := Int.lt_mul_ediv_self_add (x := b) h7; rw [h] at this; omega, fun h => Int.ediv_eq_zero_of_lt (by omega) h⟩
      simp only [beq_iff_eq, wMay, Bool.or_eq_true, decide_eq_true_eq, h8]
      omega
    · simp [bits_and1] at h0 h1 h2 h3 h4 h5
      have := pow2_le (show 32 ≤ hi.toNat + 1 by omega)
      refine Ans.bool ?_; simp only [wMay, Bool.or_eq_true, decide_eq_true_eq, true_iff]; omega
    all_goals (simp [bits_and1] at h0; try simp [bits_and1] at h1; try simp [bits_and1] at h2; try simp [bits_and1] at h3)
    all_goals (refine Ans.bool ?_; simp only [wMay, Bool.or_eq_true, decide_eq_true_eq, Bool.false_eq_true, false_iff]; omega)

/-- A number comes: the window behind it, the error. -/
def wAdd (hi b s : Int) : Int × Int × Int :=
  if wMay hi b = false ∨ s < 0 ∨ 1048575 < s then (0, 0, 1700)
  else if hi < s then (s, (((if s - hi < 32 then b.toNat * 2 ^ (s - hi).toNat % 4294967296 else 0) ||| 1 : Nat) : Int), 0)
  else if 32 ≤ hi - s ∨ b.toNat.testBit (hi - s).toNat = true then (0, 0, 1701)
  else (hi, ((b.toNat ||| 2 ^ (hi - s).toNat : Nat) : Int), 0)
def wAns (r : Int × Int × Int) : AVal := .tup [.agg [.int .i64 r.1, .int .i64 r.2.1], .int .i64 r.2.2]
theorem wMay_spec {hi b : Int} (h : wMay hi b = true) : hi = -1 ∧ b = 0 ∨ 0 ≤ hi ∧ hi ≤ 1048575 ∧ b % 2 = 1 ∧ 0 ≤ b ∧ b < 4294967296 ∧ b < 2 ^ (hi.toNat + 1) := by
  simp only [wMay, Bool.or_eq_true, decide_eq_true_eq] at h; exact h
theorem shl_mask {b : Int} {k : Nat} (hb : 0 ≤ b) (hb2 : b < 4294967296) (hk : k < 32) : bits .i64 (· &&& ·) (IntKind.i64.wrap (b * 2 ^ k)) 4294967295 = ((b.toNat * 2 ^ k % 4294967296 : Nat) : Int) := by
  have h1 : (2 : Int) ^ k ≤ 2 ^ 31 := pow2_le (by omega)
  have h2 := pow2_pos k
  have h3 : b * 2 ^ k ≤ 4294967295 * 2 ^ 31 := Int.mul_le_mul (by omega) h1 (by omega) (by omega)
  have h4 : 0 ≤ b * 2 ^ k := Int.mul_nonneg hb (by omega)
  rw [w64 (by omega), bits_mask _ 32 (by omega) 4294967295 (by decide)]
  have h5 : ((b.toNat : Nat) : Int) = b := by omega
  rw [Int.natCast_emod, Int.natCast_mul, h5, pow2_cast]
  rfl
theorem bit_at {b : Int} {k : Nat} (hb : 0 ≤ b) : (bits .i64 (· &&& ·) (b / 2 ^ k) 1 == 1) = b.toNat.testBit k := by
  rw [bits_and1]
  have h5 : ((b.toNat : Nat) : Int) = b := by omega
  rw [← h5, ← pow2_cast, Nat.testBit_eq_decide_div_mod_eq, Bool.eq_iff_iff]
  simp only [beq_iff_eq, decide_eq_true_eq]
  rw [← Int.natCast_ediv]
  simp only [Int.toNat_natCast]
  omega
theorem or_pow {b : Int} {k : Nat} (hb : 0 ≤ b) (hb2 : b < 4294967296) (hk : k < 32) : bits .i64 (· ||| ·) b (2 ^ k) = ((b.toNat ||| 2 ^ k : Nat) : Int) := by
  have h1 : 2 ^ k ≤ 2 ^ 31 := Nat.pow_le_pow_right (by omega) (by omega)
  have := bits_or b.toNat (2 ^ k) (by omega) (by omega)
  rwa [pow2_cast, show ((b.toNat : Nat) : Int) = b by omega] at this
theorem or_one (n : Nat) (h : n < 4294967296) : bits .i64 (· ||| ·) (n : Int) 1 = ((n ||| 1 : Nat) : Int) := bits_or n 1 (by omega) (by omega)

theorem wAdd_new {hi b s : Int} (hm : wMay hi b = true) (h0 : 0 ≤ s) (h1 : s ≤ 1048575) (h2 : hi < s) : wAdd hi b s = (s, (((if s - hi < 32 then b.toNat * 2 ^ (s - hi).toNat % 4294967296 else 0) ||| 1 : Nat) : Int), 0) := by
  unfold wAdd
  rw [if_neg (by simp [hm]; omega), if_pos h2]
theorem wAdd_old {hi b s : Int} (hm : wMay hi b = true) (h0 : 0 ≤ s) (h1 : s ≤ 1048575) (h2 : ¬ hi < s) : wAdd hi b s = if 32 ≤ hi - s ∨ b.toNat.testBit (hi - s).toNat = true then (0, 0, 1701) else (hi, ((b.toNat ||| 2 ^ (hi - s).toNat : Nat) : Int), 0) := by
  unfold wAdd
  rw [if_neg (by simp [hm]; omega), if_neg h2]
theorem wAdd_bad {hi b s : Int} (h : wMay hi b = false ∨ s < 0 ∨ 1048575 < s) : wAdd hi b s = (0, 0, 1700) := by
  unfold wAdd
  rw [if_pos h]

theorem add_ok (hR : R.Ok) (hi b s : Int) {h : AHeap A} {K : AVal → AHeap A → Prop} (hk : K (wAns (wAdd hi b s)) h) : Tri Pr R n_window_Add [.agg [.int .i64 hi, .int .i64 b], .int .i64 s] h K := by
  refine Tri.fn1 hR _ rfl rfl ?_ hk
  apply c_window_Add
  unfold p_window_Add
  simp
  refine may_ok hR hi b ?_
  simp
  refine iteP_of (fun hm => iteP_of (fun h0 => iteP_of (fun h1 => ?_) (fun h1 => iteP_of (fun h2 => joinP_go ?_) (fun h2 => ?_))) (fun h0 => ?_)) (fun hm => ?_)
  · simp at h1; exact Ans.of (by simp [wAdd_bad, h1, wAns])
  · simp at h0 h1 h2
    have hw := wMay_spec hm
    simp (disch := omega)
    refine iteP_of (fun h3 => ?_) (fun h3 => ?_)
    · simp at h3
      simp
      rw [show min (s - hi).toNat IntKind.i64.bits = (s - hi).toNat by show min _ 64 = _; omega, shl_mask (by omega) (by omega) (by omega), or_one _ (by omega)]
      exact Ans.of (by rw [wAdd_new hm h0 h1 h2, if_pos h3]; rfl)
    · simp at h3
      simp
      have := or_one 0 (by omega)
      simp only [Int.natCast_zero] at this
      rw [show bits .i64 (· ||| ·) 0 1 = ((0 ||| 1 : Nat) : Int) from this]
      exact Ans.of (by rw [wAdd_new hm h0 h1 h2, if_neg (by omega)]; rfl)
  · simp at h0 h1 h2
    have hw := wMay_spec hm
    simp (disch := omega)
    refine iteP_of (fun h3 => iteP_of (fun h4 => ?_) (fun h4 => ?_)) (fun h3 => ?_)
    · simp at h3
      rw [show min (hi - s).toNat IntKind.i64.bits = (hi - s).toNat by show min _ 64 = _; omega, shr_eq (by omega), bit_at (by omega)] at h4
      exact Ans.of (by rw [wAdd_old hm h0 h1 (by omega), if_pos (.inr h4)]; rfl)
    · simp at h3
      rw [show min (hi - s).toNat IntKind.i64.bits = (hi - s).toNat by show min _ 64 = _; omega] at h4 ⊢
      rw [shr_eq (by omega), bit_at (by omega)] at h4
      have h5 := pow2_le (show (hi - s).toNat ≤ 32 by omega)
      have h6 := pow2_pos (hi - s).toNat
      rw [w64 (by omega), or_pow (by omega) (by omega) (by omega)]
      simp
      exact Ans.of (by rw [wAdd_old hm h0 h1 (by omega), if_neg (by rintro (h | h); omega; rw [h] at h4; cases h4)]; rfl)
    · simp at h3
      exact Ans.of (by rw [wAdd_old hm h0 h1 (by omega), if_pos (.inl h3)]; rfl)
  · simp at h0; exact Ans.of (by simp [wAdd_bad, h0, wAns])
  · exact Ans.of (by simp [wAdd_bad, hm, wAns])

theorem radd_ok (hR : R.Ok) (hi b s : Int) {h : AHeap A} {K : AVal → AHeap A → Prop} (hk : K (wAns (wAdd hi b s)) h) : Tri Pr R n_ref12_AddSeq [.agg [.int .i64 hi, .int .i64 b], .int .i64 s] h K := by
  refine Tri.fn1 hR _ rfl rfl ?_ hk
  apply c_ref12_AddSeq
  unfold p_ref12_AddSeq
  simp
  refine rmay_ok hR hi b ?_
  simp
  refine iteP_of (fun hm => iteP_of (fun h0 => iteP_of (fun h1 => ?_) (fun h1 => iteP_of (fun h2 => joinP_go ?_) (fun h2 => ?_))) (fun h0 => ?_)) (fun hm => ?_)
  · simp at h1; exact Ans.of (by simp [wAdd_bad, h1, wAns])
  · simp at h0 h1 h2
    have hw := wMay_spec hm
    have h10 := or_one 0 (by omega)
    simp only [Int.natCast_zero] at h10
    refine iteP_of (fun h7 => ?_) (fun h7 => ?_)
    · simp (disch := omega)
      refine iteP_of (fun h3 => ?_) (fun h3 => ?_)
      · simp at h3
        simp
        rw [show min (s - hi).toNat IntKind.i64.bits = (s - hi).toNat by show min _ 64 = _; omega, shl_mask (by omega) (by omega) (by omega), or_one _ (by omega)]
        exact Ans.of (by rw [wAdd_new hm h0 h1 h2, if_pos h3]; rfl)
      · simp at h3
        simp
        rw [show bits .i64 (· ||| ·) 0 1 = ((0 ||| 1 : Nat) : Int) from h10]
        exact Ans.of (by rw [wAdd_new hm h0 h1 h2, if_neg (by omega)]; rfl)
    · simp at h7
      simp
      rw [show bits .i64 (· ||| ·) 0 1 = ((0 ||| 1 : Nat) : Int) from h10]
      have h8 : b.toNat = 0 := by omega
      exact Ans.of (by rw [wAdd_new hm h0 h1 h2, h8]; simp [wAns])
  · simp at h0 h1 h2
    have hw := wMay_spec hm
    simp (disch := omega)
    refine iteP_of (fun h3 => iteP_of (fun h4 => ?_) (fun h4 => ?_)) (fun h3 => ?_)
    · simp at h3
      rw [show min (hi - s).toNat IntKind.i64.bits = (hi - s).toNat by show min _ 64 = _; omega, shr_eq (by omega), bit_at (by omega)] at h4
      exact Ans.of (by rw [wAdd_old hm h0 h1 (by omega), if_pos (.inr h4)]; rfl)
    · simp at h3
      rw [show min (hi - s).toNat IntKind.i64.bits = (hi - s).toNat by show min _ 64 = _; omega] at h4 ⊢
      rw [shr_eq (by omega), bit_at (by omega)] at h4
      have h5 := pow2_le (show (hi - s).toNat ≤ 32 by omega)
      have h6 := pow2_pos (hi - s).toNat
      rw [w64 (by omega), or_pow (by omega) (by omega) (by omega)]
      simp
      exact Ans.of (by rw [wAdd_old hm h0 h1 (by omega), if_neg (by rintro (h | h); omega; rw [h] at h4; cases h4)]; rfl)
    · simp at h3
      exact Ans.of (by rw [wAdd_old hm h0 h1 (by omega), if_pos (.inl h3)]; rfl)
  · simp at h0; exact Ans.of (by simp [wAdd_bad, h0, wAns])
  · exact Ans.of (by simp [wAdd_bad, hm, wAns])
end Go.AI
