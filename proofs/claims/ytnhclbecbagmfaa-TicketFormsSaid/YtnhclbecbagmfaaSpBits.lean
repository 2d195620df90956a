/- Plain laws of whole numbers and their bits. -/
import Derived.Test.YtnhclbecbagmfaaNm
import Derived.IntWalk
set_option linter.all false
namespace Go.AI
@[simp] theorem w64 {n : Int} (h : -9223372036854775808 ≤ n ∧ n ≤ 9223372036854775807) : IntKind.i64.wrap n = n := IntWalk.i64_in n h
@[simp] theorem w8 {n : Int} (h : 0 ≤ n ∧ n ≤ 255) : IntKind.u8.wrap n = n := IntWalk.u8_in n h
theorem w8m (n : Int) : IntKind.u8.wrap n = n % 256 := IntKind.wrap_u8 n
@[simp] theorem wu64 {n : Int} (h : 0 ≤ n ∧ n ≤ 18446744073709551615) : IntKind.u64.wrap n = n := IntWalk.u64_in n h
@[simp] theorem wuint {n : Int} (h : 0 ≤ n ∧ n ≤ 18446744073709551615) : IntKind.u64.wrap n = n := IntWalk.u64_in n h
theorem ofInt_nat (x : Nat) : BitVec.ofInt 64 (x : Int) = BitVec.ofNat 64 x := by
  apply BitVec.eq_of_toNat_eq; simp [BitVec.toNat_ofInt]
theorem bits_and (x y : Nat) (hx : x < 9223372036854775808) (hy : y < 9223372036854775808) : bits .i64 (· &&& ·) (x : Int) (y : Int) = ((x &&& y : Nat) : Int) := by
  unfold bits
  show IntKind.i64.wrap ((BitVec.ofInt 64 (x : Int) &&& BitVec.ofInt 64 (y : Int)).toNat : Int) = _
  rw [ofInt_nat, ofInt_nat, BitVec.toNat_and, BitVec.toNat_ofNat, BitVec.toNat_ofNat, Nat.mod_eq_of_lt (by omega), Nat.mod_eq_of_lt (by omega)]
  have : x &&& y ≤ x := Nat.and_le_left
  exact w64 (by omega)
theorem bits_or (x y : Nat) (hx : x < 9223372036854775808) (hy : y < 9223372036854775808) : bits .i64 (· ||| ·) (x : Int) (y : Int) = ((x ||| y : Nat) : Int) := by
  unfold bits
  show IntKind.i64.wrap ((BitVec.ofInt 64 (x : Int) ||| BitVec.ofInt 64 (y : Int)).toNat : Int) = _
  rw [ofInt_nat, ofInt_nat, BitVec.toNat_or, BitVec.toNat_ofNat, BitVec.toNat_ofNat, Nat.mod_eq_of_lt (by omega), Nat.mod_eq_of_lt (by omega)]
  have : x ||| y < 2 ^ 63 := Nat.or_lt_two_pow (by omega) (by omega)
  exact w64 (by omega)
theorem bits_xor (x y : Nat) (hx : x < 9223372036854775808) (hy : y < 9223372036854775808) : bits .i64 (· ^^^ ·) (x : Int) (y : Int) = ((x ^^^ y : Nat) : Int) := by
  unfold bits
  show IntKind.i64.wrap ((BitVec.ofInt 64 (x : Int) ^^^ BitVec.ofInt 64 (y : Int)).toNat : Int) = _
  rw [ofInt_nat, ofInt_nat, BitVec.toNat_xor, BitVec.toNat_ofNat, BitVec.toNat_ofNat, Nat.mod_eq_of_lt (by omega), Nat.mod_eq_of_lt (by omega)]
  have : x ^^^ y < 2 ^ 63 := Nat.xor_lt_two_pow (by omega) (by omega)
  exact w64 (by omega)
/-- A mask of low bits, of whatever number. -/
theorem bits_mask (x : Int) (n : Nat) (hn : n < 63) (m : Int) (hm : m = 2 ^ n - 1) : bits .i64 (· &&& ·) x m = x % 2 ^ n := by
  unfold bits
  show IntKind.i64.wrap ((BitVec.ofInt 64 x &&& BitVec.ofInt 64 m).toNat : Int) = _
  have hm2 : m = ((2 ^ n - 1 : Nat) : Int) := by
    have : 0 < 2 ^ n := Nat.two_pow_pos n
    rw [hm, Int.ofNat_sub (by omega)]; push_cast; rfl
  have hlt : 2 ^ n - 1 < 2 ^ 64 := by have := Nat.pow_lt_pow_right (a := 2) (by omega) (show n < 64 by omega); omega
  have hle : (2 : Int) ^ n ≤ 2 ^ 62 := by exact_mod_cast Nat.pow_le_pow_right (n := 2) (by omega) (show n ≤ 62 by omega)
  rw [hm2, ofInt_nat, BitVec.toNat_and, BitVec.toNat_ofNat, Nat.mod_eq_of_lt hlt, Nat.and_two_pow_sub_one_eq_mod, BitVec.toNat_ofInt]
  have hd : (2 : Int) ^ n ∣ ((2 ^ 64 : Nat) : Int) := by
    have := Int.ofNat_dvd.2 (Nat.pow_dvd_pow 2 (show n ≤ 64 by omega))
    rwa [Int.natCast_pow] at this
  have hpos : (0 : Int) < 2 ^ n := Int.pow_pos (by omega)
  have h1 : (((x % ((2 ^ 64 : Nat) : Int)).toNat % 2 ^ n : Nat) : Int) = x % 2 ^ n := by
    rw [Int.natCast_emod, Int.toNat_of_nonneg (Int.emod_nonneg _ (by omega)), Int.natCast_pow]
    exact Int.emod_emod_of_dvd x hd
  rw [h1]
  have h2 := Int.emod_nonneg x (show (2 : Int) ^ n ≠ 0 by omega)
  have h3 := Int.emod_lt_of_pos x hpos
  exact w64 (by omega)
theorem bits_and1 (x : Int) : bits .i64 (· &&& ·) x 1 = x % 2 := bits_mask x 1 (by omega) 1 (by omega)
theorem pow2_le {k n : Nat} (h : k ≤ n) : (2 : Int) ^ k ≤ 2 ^ n := by exact_mod_cast Nat.pow_le_pow_right (n := 2) (by omega) h
theorem pow2_pos (k : Nat) : (0 : Int) < 2 ^ k := Int.pow_pos (by omega)
theorem pow2_cast (k : Nat) : ((2 ^ k : Nat) : Int) = (2 : Int) ^ k := Int.natCast_pow 2 k
end Go.AI
