/- Numbers as bytes. -/
import Derived.Test.YtnhclbecbagmfaaSpUse
import Derived.Test.YtnhclbecbagmfaaFns
set_option linter.all false
namespace Go.AI
variable {A : Type} {R : Adts A}
abbrev Bs0 := List UInt8
/-- May it be a number? -/
def nMay (x : Int) : Bool := decide (0 ≤ x ∧ x ≤ 1073741823)
theorem field_NumMay_ok (x : Int) {h : AHeap A} {K : AVal → AHeap A → Prop} (hk : K (.bool (nMay x)) h) : Tri Pr R n_field_NumMay [.int .i64 x] h K := by
  apply c_field_NumMay
  unfold p_field_NumMay
  simp
  refine iteP_of (fun h1 => ?_) (fun h1 => ?_)
  · simp at h1
    rwa [show nMay x = decide (x ≤ 1073741823) by simp [nMay, h1]] at hk
  · simp at h1
    rwa [show nMay x = false by simp [nMay]; omega] at hk
theorem ref1_num_ok (x : Int) {h : AHeap A} {K : AVal → AHeap A → Prop} (hk : K (.bool (nMay x)) h) : Tri Pr R n_ref1_num [.int .i64 x] h K := by
  apply c_ref1_num
  unfold p_ref1_num
  simp
  refine iteP_of (fun h1 => ?_) (fun h1 => ?_)
  · simp at h1
    rwa [show nMay x = decide (x ≤ 1073741823) by simp [nMay, h1]] at hk
  · simp at h1
    rwa [show nMay x = false by simp [nMay]; omega] at hk
theorem ref12_num_ok (x : Int) {h : AHeap A} {K : AVal → AHeap A → Prop} (hk : K (.bool (nMay x)) h) : Tri Pr R n_ref12_num [.int .i64 x] h K := by
  apply c_ref12_num
  unfold p_ref12_num
  simp
  refine iteP_of (fun h1 => ?_) (fun h1 => ?_)
  · simp at h1
    rwa [show nMay x = decide (x ≤ 1073741823) by simp [nMay, h1]] at hk
  · simp at h1
    rwa [show nMay x = false by simp [nMay]; omega] at hk
/-- How many bytes follow? -/
def nW (x : Int) : Int := if x < 1 then 0 else if x < 256 then 1 else if x < 65536 then 2 else if x < 16777216 then 3 else 4
theorem field_width_ok (hR : R.Ok) (x : Int) (h0 : 0 ≤ x) (h1 : x ≤ 4294967295) {h : AHeap A} {K : AVal → AHeap A → Prop} (hk : K (.int .i64 (nW x)) h) : Tri Pr R n_field_width [.int .i64 x] h K := by
  refine Tri.fn1 hR _ rfl rfl ?_ hk
  apply c_field_width
  unfold p_field_width
  refine loopP_go (fun m y g => ∃ k z : Int, y = [.int .i64 z, .int .i64 k] ∧ ((k = 0 ∧ z = x ∧ m = 5) ∨ (k = 1 ∧ z = x / 256 ∧ 1 ≤ x ∧ m = 4) ∨ (k = 2 ∧ z = x / 65536 ∧ 256 ≤ x ∧ m = 3) ∨ (k = 3 ∧ z = x / 16777216 ∧ 65536 ≤ x ∧ m = 2) ∨ (k = 4 ∧ z = x / 4294967296 ∧ 16777216 ≤ x ∧ m = 1))) 5 (Gives.done (by simp) ⟨0, x, rfl, .inl ⟨rfl, rfl, rfl⟩⟩) ?_
  rintro m y g ⟨k, z, rfl, hz⟩
  have e2 : z.fdiv (2 ^ min 8 IntKind.i64.bits) = z / 256 := Int.fdiv_eq_ediv_of_nonneg _ (by decide)
  rcases hz with ⟨rfl, rfl, rfl⟩ | ⟨rfl, rfl, h3, rfl⟩ | ⟨rfl, rfl, h3, rfl⟩ | ⟨rfl, rfl, h3, rfl⟩ | ⟨rfl, rfl, h3, rfl⟩
  · simp [e2]
    refine iteP_of (fun h2 => ?_) (fun h2 => ?_)
    · simp at h2
      exact Gives.done (by simp) ⟨4, by omega, 1, _, rfl, .inr (.inl ⟨rfl, rfl, by omega, rfl⟩)⟩
    · simp at h2
      exact Ans.of (by rw [nW, if_pos (by omega)])
  · simp [e2]
    refine iteP_of (fun h2 => ?_) (fun h2 => ?_)
    · simp at h2
      exact Gives.done (by simp) ⟨3, by omega, 2, _, rfl, .inr (.inr (.inl ⟨rfl, by omega, by omega, rfl⟩))⟩
    · simp at h2
      exact Ans.of (by rw [nW, if_neg (by omega), if_pos (by omega)])
  · simp [e2]
    refine iteP_of (fun h2 => ?_) (fun h2 => ?_)
    · simp at h2
      exact Gives.done (by simp) ⟨2, by omega, 3, _, rfl, .inr (.inr (.inr (.inl ⟨rfl, by omega, by omega, rfl⟩)))⟩
    · simp at h2
      exact Ans.of (by rw [nW, if_neg (by omega), if_neg (by omega), if_pos (by omega)])
  · simp [e2]
    refine iteP_of (fun h2 => ?_) (fun h2 => ?_)
    · simp at h2
      exact Gives.done (by simp) ⟨1, by omega, 4, _, rfl, .inr (.inr (.inr (.inr ⟨rfl, by omega, by omega, rfl⟩)))⟩
    · simp at h2
      exact Ans.of (by rw [nW, if_neg (by omega), if_neg (by omega), if_neg (by omega), if_pos (by omega)])
  · have h4 : ¬ 0 < x / 4294967296 := by omega
    simp [e2, h4]
    exact Ans.of (by rw [nW, if_neg (by omega), if_neg (by omega), if_neg (by omega), if_neg (by omega)])
/-- The bytes of a number. -/
def bb (x : Int) : UInt8 := UInt8.ofNat (x % 256).toNat
def nE (x : Int) : Bs0 :=
  if x < 1 then [0] else if x < 256 then [1, bb x] else if x < 65536 then [2, bb (x / 256), bb x] else if x < 16777216 then [3, bb (x / 65536), bb (x / 256), bb x] else [4, bb (x / 16777216), bb (x / 65536), bb (x / 256), bb x]
theorem shr24 (x : Int) : x.fdiv (2 ^ min 24 IntKind.i64.bits) = x / 16777216 := Int.fdiv_eq_ediv_of_nonneg _ (by decide)
theorem shr16 (x : Int) : x.fdiv (2 ^ min 16 IntKind.i64.bits) = x / 65536 := Int.fdiv_eq_ediv_of_nonneg _ (by decide)
theorem shr8 (x : Int) : x.fdiv (2 ^ min 8 IntKind.i64.bits) = x / 256 := Int.fdiv_eq_ediv_of_nonneg _ (by decide)
theorem shr0 (x : Int) : x.fdiv (2 ^ min 0 IntKind.i64.bits) = x := by simp
theorem field_Num_bad (hR : R.Ok) (x : Int) (h1 : nMay x = false) {h : AHeap A} {K : AVal → AHeap A → Prop} (hk : K (.tup [.str [], .int .i64 100]) h) : Tri Pr R n_field_Num [.int .i64 x] h K := by
  refine Tri.fn1 hR _ rfl rfl ?_ hk
  apply c_field_Num
  unfold p_field_Num
  refine field_NumMay_ok x ?_
  simp [h1]
  exact Ans.rfl' _
theorem field_Num_ok (hR : R.Ok) (x : Int) (h1 : nMay x = true) {h : AHeap A} {K : AVal → AHeap A → Prop} (hk : K (.tup [.str (nE x), .int .i64 0]) h) : Tri Pr R n_field_Num [.int .i64 x] h K := by
  refine Tri.fn1 hR _ rfl rfl ?_ hk
  apply c_field_Num
  unfold p_field_Num
  refine field_NumMay_ok x ?_
  simp [h1]
  have hm : 0 ≤ x ∧ x ≤ 1073741823 := by simpa [nMay] using h1
  refine field_width_ok hR x hm.1 (by omega) ?_
  simp only [nE]
  have hb : ∀ z : Int, byteOf (.int .u8 (z % 256)) = some (bb z) := fun z => rfl
  have hb0 : byteOf (.int .u8 0) = some 0 := rfl
  have hb1 : byteOf (.int .u8 1) = some 1 := rfl
  have hb2 : byteOf (.int .u8 2) = some 2 := rfl
  have hb3 : byteOf (.int .u8 3) = some 3 := rfl
  have hb4 : byteOf (.int .u8 4) = some 4 := rfl
  by_cases c0 : x < 1
  · simp [nW, c0]
    refine joinP_go (joinP_go (joinP_go (joinP_go ?_)))
    simp [b2sP, hb0]
    exact Ans.rfl' _
  by_cases c1 : x < 256
  · simp [nW, c0, c1]
    refine joinP_go (joinP_go (joinP_go (joinP_go ?_)))
    simp [shr8, shr16, shr24, w8m, appP, appV, srcOf, cellsAt, b2sP, hb, hb1]
    exact Ans.rfl' _
  by_cases c2 : x < 65536
  · simp [nW, c0, c1, c2]
    refine joinP_go (joinP_go (joinP_go (joinP_go ?_)))
    simp [shr8, shr16, shr24, w8m, appP, appV, srcOf, cellsAt, b2sP, hb, hb2]
    exact Ans.rfl' _
  by_cases c3 : x < 16777216
  · simp [nW, c0, c1, c2, c3]
    refine joinP_go (joinP_go (joinP_go (joinP_go ?_)))
    simp [shr8, shr16, shr24, w8m, appP, appV, srcOf, cellsAt, b2sP, hb, hb3]
    exact Ans.rfl' _
  · simp [nW, c0, c1, c2, c3]
    refine joinP_go (joinP_go (joinP_go (joinP_go ?_)))
    simp [shr8, shr16, shr24, w8m, appP, appV, srcOf, cellsAt, b2sP, hb, hb4]
    exact Ans.rfl' _
theorem iteP_both {c : Bool} {a : Prop} (h : a) : iteP (.bool c) a a := iteP_of (fun _ => h) (fun _ => h)
theorem bb_zero (z : Int) : (z % 256 = 0) ↔ (IntKind.u8.wrap z = 0) := by rw [w8m]
theorem ref1_Num_bad (hR : R.Ok) (x : Int) (h1 : nMay x = false) {h : AHeap A} {K : AVal → AHeap A → Prop} (hk : K (.tup [.str [], .int .i64 100]) h) : Tri Pr R n_ref1_Num [.int .i64 x] h K := by
  refine Tri.fn1 hR _ rfl rfl ?_ hk
  apply c_ref1_Num
  unfold p_ref1_Num
  refine ref1_num_ok x ?_
  simp [h1]
  exact Ans.rfl' _
theorem ref1_Num_ok (hR : R.Ok) (x : Int) (h1 : nMay x = true) {h : AHeap A} {K : AVal → AHeap A → Prop} (hk : K (.tup [.str (nE x), .int .i64 0]) h) : Tri Pr R n_ref1_Num [.int .i64 x] h K := by
  refine Tri.fn1 hR _ rfl rfl ?_ hk
  apply c_ref1_Num
  unfold p_ref1_Num
  refine ref1_num_ok x ?_
  simp [h1]
  have hm : 0 ≤ x ∧ x ≤ 1073741823 := by simpa [nMay] using h1
  have hb : ∀ z : Int, byteOf (.int .u8 (z % 256)) = some (bb z) := fun z => rfl
  have hb0 : byteOf (.int .u8 0) = some 0 := rfl
  have hb1 : byteOf (.int .u8 1) = some 1 := rfl
  have hb2 : byteOf (.int .u8 2) = some 2 := rfl
  have hb3 : byteOf (.int .u8 3) = some 3 := rfl
  have hb4 : byteOf (.int .u8 4) = some 4 := rfl
  by_cases c0 : x < 1
  · rw [nE]
    rw [if_pos c0]
    have t3 : x / 16777216 % 256 = 0 := by omega
    have t2 : x / 65536 % 256 = 0 := by omega
    have t1 : x / 256 % 256 = 0 := by omega
    have t0 : x % 256 = 0 := by omega
    refine loopP_unr 5 ?_
    rw [unr]
    simp [shr24, shr16, shr8, w8m, appP, appV, srcOf, cellsAt, b2sP, hb, hb0, hb1, hb2, hb3, hb4, t3, t2, t1, t0]
    refine joinP_go ?_
    simp [shr24, shr16, shr8, w8m, appP, appV, srcOf, cellsAt, b2sP, hb, hb0, hb1, hb2, hb3, hb4, t3, t2, t1, t0]
    refine Gives.done (Nat.zero_le _) ?_
    rw [unr]
    simp [shr24, shr16, shr8, w8m, appP, appV, srcOf, cellsAt, b2sP, hb, hb0, hb1, hb2, hb3, hb4, t3, t2, t1, t0]
    refine joinP_go ?_
    simp [shr24, shr16, shr8, w8m, appP, appV, srcOf, cellsAt, b2sP, hb, hb0, hb1, hb2, hb3, hb4, t3, t2, t1, t0]
    refine Gives.done (Nat.zero_le _) ?_
    rw [unr]
    simp [shr24, shr16, shr8, w8m, appP, appV, srcOf, cellsAt, b2sP, hb, hb0, hb1, hb2, hb3, hb4, t3, t2, t1, t0]
    refine joinP_go ?_
    simp [shr24, shr16, shr8, w8m, appP, appV, srcOf, cellsAt, b2sP, hb, hb0, hb1, hb2, hb3, hb4, t3, t2, t1, t0]
    refine Gives.done (Nat.zero_le _) ?_
    rw [unr]
    simp [shr24, shr16, shr8, w8m, appP, appV, srcOf, cellsAt, b2sP, hb, hb0, hb1, hb2, hb3, hb4, t3, t2, t1, t0]
    refine joinP_go ?_
    simp [shr24, shr16, shr8, w8m, appP, appV, srcOf, cellsAt, b2sP, hb, hb0, hb1, hb2, hb3, hb4, t3, t2, t1, t0]
    refine Gives.done (Nat.zero_le _) ?_
    rw [unr]
    simp [shr24, shr16, shr8, w8m, appP, appV, srcOf, cellsAt, b2sP, hb, hb0, hb1, hb2, hb3, hb4, t3, t2, t1, t0]
    exact Ans.rfl' _
  by_cases c1 : x < 256
  · rw [nE]
    rw [if_neg c0]
    rw [if_pos c1]
    have t3 : x / 16777216 % 256 = 0 := by omega
    have t2 : x / 65536 % 256 = 0 := by omega
    have t1 : x / 256 % 256 = 0 := by omega
    have t0 : (x % 256 != 0) = true := by simp; omega
    refine loopP_unr 5 ?_
    rw [unr]
    simp [shr24, shr16, shr8, w8m, appP, appV, srcOf, cellsAt, b2sP, hb, hb0, hb1, hb2, hb3, hb4, t3, t2, t1, t0]
    refine joinP_go ?_
    simp [shr24, shr16, shr8, w8m, appP, appV, srcOf, cellsAt, b2sP, hb, hb0, hb1, hb2, hb3, hb4, t3, t2, t1, t0]
    refine Gives.done (Nat.zero_le _) ?_
    rw [unr]
    simp [shr24, shr16, shr8, w8m, appP, appV, srcOf, cellsAt, b2sP, hb, hb0, hb1, hb2, hb3, hb4, t3, t2, t1, t0]
    refine joinP_go ?_
    simp [shr24, shr16, shr8, w8m, appP, appV, srcOf, cellsAt, b2sP, hb, hb0, hb1, hb2, hb3, hb4, t3, t2, t1, t0]
    refine Gives.done (Nat.zero_le _) ?_
    rw [unr]
    simp [shr24, shr16, shr8, w8m, appP, appV, srcOf, cellsAt, b2sP, hb, hb0, hb1, hb2, hb3, hb4, t3, t2, t1, t0]
    refine joinP_go ?_
    simp [shr24, shr16, shr8, w8m, appP, appV, srcOf, cellsAt, b2sP, hb, hb0, hb1, hb2, hb3, hb4, t3, t2, t1, t0]
    refine Gives.done (Nat.zero_le _) ?_
    rw [unr]
    simp [shr24, shr16, shr8, w8m, appP, appV, srcOf, cellsAt, b2sP, hb, hb0, hb1, hb2, hb3, hb4, t3, t2, t1, t0]
    refine joinP_go ?_
    simp [shr24, shr16, shr8, w8m, appP, appV, srcOf, cellsAt, b2sP, hb, hb0, hb1, hb2, hb3, hb4, t3, t2, t1, t0]
    refine Gives.done (Nat.zero_le _) ?_
    rw [unr]
    simp [shr24, shr16, shr8, w8m, appP, appV, srcOf, cellsAt, b2sP, hb, hb0, hb1, hb2, hb3, hb4, t3, t2, t1, t0]
    exact Ans.rfl' _
  by_cases c2 : x < 65536
  · rw [nE]
    rw [if_neg c0]
    rw [if_neg c1]
    rw [if_pos c2]
    have t3 : x / 16777216 % 256 = 0 := by omega
    have t2 : x / 65536 % 256 = 0 := by omega
    have t1 : (x / 256 % 256 != 0) = true := by simp; omega
    refine loopP_unr 5 ?_
    rw [unr]
    simp [shr24, shr16, shr8, w8m, appP, appV, srcOf, cellsAt, b2sP, hb, hb0, hb1, hb2, hb3, hb4, t3, t2, t1]
    refine joinP_go ?_
    simp [shr24, shr16, shr8, w8m, appP, appV, srcOf, cellsAt, b2sP, hb, hb0, hb1, hb2, hb3, hb4, t3, t2, t1]
    refine Gives.done (Nat.zero_le _) ?_
    rw [unr]
    simp [shr24, shr16, shr8, w8m, appP, appV, srcOf, cellsAt, b2sP, hb, hb0, hb1, hb2, hb3, hb4, t3, t2, t1]
    refine joinP_go ?_
    simp [shr24, shr16, shr8, w8m, appP, appV, srcOf, cellsAt, b2sP, hb, hb0, hb1, hb2, hb3, hb4, t3, t2, t1]
    refine Gives.done (Nat.zero_le _) ?_
    rw [unr]
    simp [shr24, shr16, shr8, w8m, appP, appV, srcOf, cellsAt, b2sP, hb, hb0, hb1, hb2, hb3, hb4, t3, t2, t1]
    refine joinP_go ?_
    simp [shr24, shr16, shr8, w8m, appP, appV, srcOf, cellsAt, b2sP, hb, hb0, hb1, hb2, hb3, hb4, t3, t2, t1]
    refine Gives.done (Nat.zero_le _) ?_
    rw [unr]
    simp [shr24, shr16, shr8, w8m, appP, appV, srcOf, cellsAt, b2sP, hb, hb0, hb1, hb2, hb3, hb4, t3, t2, t1]
    refine joinP_go ?_
    simp [shr24, shr16, shr8, w8m, appP, appV, srcOf, cellsAt, b2sP, hb, hb0, hb1, hb2, hb3, hb4, t3, t2, t1]
    refine iteP_both ?_
    refine Gives.done (Nat.zero_le _) ?_
    rw [unr]
    simp [shr24, shr16, shr8, w8m, appP, appV, srcOf, cellsAt, b2sP, hb, hb0, hb1, hb2, hb3, hb4, t3, t2, t1]
    exact Ans.rfl' _
  by_cases c3 : x < 16777216
  · rw [nE]
    rw [if_neg c0]
    rw [if_neg c1]
    rw [if_neg c2]
    rw [if_pos c3]
    have t3 : x / 16777216 % 256 = 0 := by omega
    have t2 : (x / 65536 % 256 != 0) = true := by simp; omega
    refine loopP_unr 5 ?_
    rw [unr]
    simp [shr24, shr16, shr8, w8m, appP, appV, srcOf, cellsAt, b2sP, hb, hb0, hb1, hb2, hb3, hb4, t3, t2]
    refine joinP_go ?_
    simp [shr24, shr16, shr8, w8m, appP, appV, srcOf, cellsAt, b2sP, hb, hb0, hb1, hb2, hb3, hb4, t3, t2]
    refine Gives.done (Nat.zero_le _) ?_
    rw [unr]
    simp [shr24, shr16, shr8, w8m, appP, appV, srcOf, cellsAt, b2sP, hb, hb0, hb1, hb2, hb3, hb4, t3, t2]
    refine joinP_go ?_
    simp [shr24, shr16, shr8, w8m, appP, appV, srcOf, cellsAt, b2sP, hb, hb0, hb1, hb2, hb3, hb4, t3, t2]
    refine Gives.done (Nat.zero_le _) ?_
    rw [unr]
    simp [shr24, shr16, shr8, w8m, appP, appV, srcOf, cellsAt, b2sP, hb, hb0, hb1, hb2, hb3, hb4, t3, t2]
    refine joinP_go ?_
    simp [shr24, shr16, shr8, w8m, appP, appV, srcOf, cellsAt, b2sP, hb, hb0, hb1, hb2, hb3, hb4, t3, t2]
    refine iteP_both ?_
    refine Gives.done (Nat.zero_le _) ?_
    rw [unr]
    simp [shr24, shr16, shr8, w8m, appP, appV, srcOf, cellsAt, b2sP, hb, hb0, hb1, hb2, hb3, hb4, t3, t2]
    refine joinP_go ?_
    simp [shr24, shr16, shr8, w8m, appP, appV, srcOf, cellsAt, b2sP, hb, hb0, hb1, hb2, hb3, hb4, t3, t2]
    refine iteP_both ?_
    refine Gives.done (Nat.zero_le _) ?_
    rw [unr]
    simp [shr24, shr16, shr8, w8m, appP, appV, srcOf, cellsAt, b2sP, hb, hb0, hb1, hb2, hb3, hb4, t3, t2]
    exact Ans.rfl' _
  · rw [nE]
    rw [if_neg c0]
    rw [if_neg c1]
    rw [if_neg c2]
    rw [if_neg c3]
    have t3 : (x / 16777216 % 256 != 0) = true := by simp; omega
    refine loopP_unr 5 ?_
    rw [unr]
    simp [shr24, shr16, shr8, w8m, appP, appV, srcOf, cellsAt, b2sP, hb, hb0, hb1, hb2, hb3, hb4, t3]
    refine joinP_go ?_
    simp [shr24, shr16, shr8, w8m, appP, appV, srcOf, cellsAt, b2sP, hb, hb0, hb1, hb2, hb3, hb4, t3]
    refine Gives.done (Nat.zero_le _) ?_
    rw [unr]
    simp [shr24, shr16, shr8, w8m, appP, appV, srcOf, cellsAt, b2sP, hb, hb0, hb1, hb2, hb3, hb4, t3]
    refine joinP_go ?_
    simp [shr24, shr16, shr8, w8m, appP, appV, srcOf, cellsAt, b2sP, hb, hb0, hb1, hb2, hb3, hb4, t3]
    refine iteP_both ?_
    refine Gives.done (Nat.zero_le _) ?_
    rw [unr]
    simp [shr24, shr16, shr8, w8m, appP, appV, srcOf, cellsAt, b2sP, hb, hb0, hb1, hb2, hb3, hb4, t3]
    refine joinP_go ?_
    simp [shr24, shr16, shr8, w8m, appP, appV, srcOf, cellsAt, b2sP, hb, hb0, hb1, hb2, hb3, hb4, t3]
    refine iteP_both ?_
    refine Gives.done (Nat.zero_le _) ?_
    rw [unr]
    simp [shr24, shr16, shr8, w8m, appP, appV, srcOf, cellsAt, b2sP, hb, hb0, hb1, hb2, hb3, hb4, t3]
    refine joinP_go ?_
    simp [shr24, shr16, shr8, w8m, appP, appV, srcOf, cellsAt, b2sP, hb, hb0, hb1, hb2, hb3, hb4, t3]
    refine iteP_both ?_
    refine Gives.done (Nat.zero_le _) ?_
    rw [unr]
    simp [shr24, shr16, shr8, w8m, appP, appV, srcOf, cellsAt, b2sP, hb, hb0, hb1, hb2, hb3, hb4, t3]
    exact Ans.rfl' _
end Go.AI
