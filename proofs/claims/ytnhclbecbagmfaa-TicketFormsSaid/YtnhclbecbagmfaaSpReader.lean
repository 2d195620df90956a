/- Numbers are read. -/
import Derived.Test.YtnhclbecbagmfaaSpField0
import Derived.Test.YtnhclbecbagmfaaSpBook2
import Derived.Test.YtnhclbecbagmfaaFns
set_option linter.all false
namespace Go.AI
variable {A : Type} {R : Adts A}
theorem shl8_or (x : Nat) (b : UInt8) (h : x < 4294967296) : bits .i64 (· ||| ·) (IntKind.i64.wrap ((x : Int) * 2 ^ (min 8 IntKind.i64.bits))) (b.toNat : Int) = ((x * 256 + b.toNat : Nat) : Int) := by
  have h1 : (2 : Int) ^ (min 8 IntKind.i64.bits) = 256 := rfl
  have hb : b.toNat < 256 := UInt8.toNat_lt b
  rw [h1, w64 (by omega)]
  have h2 : ((x : Int) * 256) = ((x * 256 : Nat) : Int) := by omega
  rw [h2, bits_or _ _ (by omega) (by omega)]
  have h3 : x * 256 ||| b.toNat = x * 256 + b.toNat := by
    have := Nat.two_pow_add_eq_or_of_lt (i := 8) (b := b.toNat) hb x
    rw [Nat.mul_comm x 256]
    exact this.symm
  rw [h3]
theorem bAcc_small {l : Bs0} (h : l.length ≤ 4) : bAcc l < 4294967296 := by
  have h1 := bAcc_lt l
  have h2 : 256 ^ l.length ≤ 256 ^ 4 := Nat.pow_le_pow_right (by omega) h
  omega
theorem bAcc_small3 {l : Bs0} (h : l.length ≤ 3) : bAcc l < 16777216 := by
  have h1 := bAcc_lt l
  have h2 : 256 ^ l.length ≤ 256 ^ 3 := Nat.pow_le_pow_right (by omega) h
  omega
theorem ref1_GetNum_ok (hR : R.Ok) (s : Bs0) (hs : s.length < 9000000000000000000) (at_ : Int) (ha : -9000000000000000000 ≤ at_ ∧ at_ < 9000000000000000000) {h : AHeap A} {K : AVal → AHeap A → Prop}
    (hk : K (.tup [.int .i64 (gNum s at_).1, .int .i64 (gNum s at_).2.1, .int .i64 (gNum s at_).2.2]) h) : Tri Pr R n_ref1_GetNum [.str s, .int .i64 at_] h K := by
  refine Tri.fn1 hR _ rfl rfl ?_ hk
  apply c_ref1_GetNum
  unfold p_ref1_GetNum
  obtain ⟨r, hr⟩ : ∃ r, gNum s at_ = r := ⟨_, rfl⟩
  rw [hr]
  unfold gNum at hr
  by_cases c1 : at_ < 0
  · rw [if_pos (.inl c1)] at hr; subst hr
    simp -implicitDefEqProofs [c1]; exact Ans.rfl' _
  by_cases c2 : (s.length : Int) < at_
  · rw [if_pos (.inr c2)] at hr; subst hr
    simp -implicitDefEqProofs [c1, c2]; exact Ans.rfl' _
  rw [if_neg (by omega)] at hr
  by_cases c3 : at_ = s.length
  · rw [if_pos c3] at hr; subst hr
    have c3' : (at_ == (s.length : Int)) = true := by simpa using c3
    simp -implicitDefEqProofs [c1, c2, c3']; exact Ans.rfl' _
  rw [if_neg c3] at hr
  have c3' : (at_ == (s.length : Int)) = false := by simpa using c3
  have a0 : 0 ≤ at_ := by omega
  have a1 : at_ < s.length := by omega
  have hlt : at_.toNat < s.length := by omega
  have hg : s.getD at_.toNat 0 = s[at_.toNat] := by simp [List.getD_eq_getElem?_getD, hlt]
  rw [hg] at hr
  obtain ⟨n, hn⟩ : ∃ n, (s[at_.toNat]).toNat = n := ⟨_, rfl⟩
  rw [hn] at hr
  have hn256 : n < 256 := by rw [← hn]; exact UInt8.toNat_lt _
  have e0 := w64 (n := (n : Int)) (by omega)
  dsimp only at hr
  by_cases c4 : 4 < n
  · rw [if_pos c4] at hr; subst hr
    have c4' : (4 : Int) < n := by omega
    simp -implicitDefEqProofs [c1, c2, c3', a0, a1, hlt, hn, e0, c4, c4']; exact Ans.rfl' _
  rw [if_neg c4] at hr
  have c4' : ¬ (4 : Int) < n := by omega
  have e1 := w64 (n := (s.length : Int) - at_) (by omega)
  have e2 := w64 (n := (s.length : Int) - at_ - 1) (by omega)
  by_cases c5 : s.length < at_.toNat + 1 + n
  · rw [if_pos c5] at hr; subst hr
    have c5' : (s.length : Int) - at_ - 1 < n := by omega
    simp -implicitDefEqProofs [c1, c2, c3', a0, a1, hlt, hn, e0, e1, e2, c4, c4', c5']; exact Ans.rfl' _
  rw [if_neg c5] at hr
  have c5' : ¬ (s.length : Int) - at_ - 1 < n := by omega
  simp -implicitDefEqProofs [c1, c2, c3', a0, a1, hlt, hn, e0, e1, e2, c4, c4', c5']
  obtain ⟨l, hl⟩ : ∃ l, (s.drop (at_.toNat + 1)).take n = l := ⟨_, rfl⟩
  rw [hl] at hr
  have hll : l.length = n := by rw [← hl]; simp; omega
  have hget : ∀ i (hi : i < n), s[at_.toNat + 1 + i]? = some (l[i]'(by omega)) := by
    intro i hi
    have : l[i]? = s[at_.toNat + 1 + i]? := by rw [← hl, List.getElem?_take, if_pos hi, List.getElem?_drop]
    rw [← this]; exact List.getElem?_eq_getElem _
  refine loopP_go (fun m y g => ∃ i : Nat, y = [.int .i64 (bAcc (l.take i) : Nat), .int .i64 ((i : Int) + 1)] ∧ g = [] ∧ i ≤ n ∧ m = n - i) n (Gives.done (by simp) ⟨0, rfl, rfl, by omega, rfl⟩) ?_
  rintro m y g ⟨i, rfl, rfl, hi, rfl⟩
  by_cases c6 : i < n
  · have c6' : (i : Int) + 1 ≤ n := by omega
    have e3 := w64 (n := at_ + ((i : Int) + 1)) (by omega)
    have e4 := w64 (n := (i : Int) + 1 + 1) (by omega)
    have f1 : 0 ≤ at_ + ((i : Int) + 1) := by omega
    have f2 : at_ + ((i : Int) + 1) < s.length := by omega
    have f3 : (at_ + ((i : Int) + 1)).toNat = at_.toNat + 1 + i := by omega
    have f4 := hget i c6
    have hsm := bAcc_small (l := l.take i) (by simp; omega)
    have f5 := shl8_or (bAcc (l.take i)) (l[i]'(by omega)) hsm
    have f6 : bAcc (l.take (i + 1)) = bAcc (l.take i) * 256 + (l[i]'(by omega)).toNat := by rw [← List.take_append_getElem (by omega : i < l.length), bAcc_snoc]
    have e5 := w64 (n := ((l[i]'(by omega)).toNat : Int)) (by have := UInt8.toNat_lt (l[i]'(by omega)); omega)
    simp -implicitDefEqProofs [c6, c6', e3, f1, f2, f3, f4, e4, e5]
    rw [f5, ← f6]
    exact Gives.done (by simp) ⟨n - (i + 1), by omega, i + 1, by simp, rfl, by omega, rfl⟩
  · obtain rfl : i = n := by omega
    have c6' : ¬ (i : Int) + 1 ≤ i := by omega
    have hti : l.take i = l := List.take_of_length_le (by omega)
    rw [hti]
    have hwh := nW_head (l := l) (by omega)
    rw [hll] at hwh
    have e6 := w64 (n := at_ + 1) (by omega)
    have e7 := w64 (n := at_ + i) (by omega)
    have e8 := w64 (n := at_ + i + 1) (by omega)
    have hsum : at_ + 1 + (i : Int) = at_ + i + 1 := by omega
    have hbig : (1073741823 < bAcc l) ↔ ((1073741823 : Int) < (bAcc l : Int)) := by omega
    have tail : ∀ (b : Bool), (b = true ↔ (0 < i ∧ l.getD 0 0 = 0)) → iteP (.bool b) (Ans (AVal.tup [.int .i64 r.1, .int .i64 r.2.1, .int .i64 r.2.2]) (AVal.tup [.int .i64 0, .int .i64 0, .int .i64 100])) (iteP (.bool (decide ((1073741823 : Int) < (bAcc l : Int)))) (Ans (AVal.tup [.int .i64 r.1, .int .i64 r.2.1, .int .i64 r.2.2]) (AVal.tup [.int .i64 0, .int .i64 0, .int .i64 100]))
        (Ans (AVal.tup [.int .i64 r.1, .int .i64 r.2.1, .int .i64 r.2.2]) (AVal.tup [.int .i64 (bAcc l : Nat), .int .i64 (at_ + i + 1), .int .i64 0]))) := by
      intro b hb
      cases b with
      | true =>
        have h1 : nW (bAcc l) ≠ i := fun h => (hwh.1 h) (hb.1 rfl)
        rw [if_pos (.inl h1)] at hr; subst hr
        exact Ans.rfl' _
      | false =>
        have h1 : nW (bAcc l) = i := hwh.2 (fun h => by simpa using hb.2 h)
        by_cases h2 : 1073741823 < bAcc l
        · rw [if_pos (.inr h2)] at hr; subst hr
          have h3 : decide ((1073741823 : Int) < (bAcc l : Int)) = true := by simpa using hbig.1 h2
          rw [h3]; exact Ans.rfl' _
        · rw [if_neg (by rintro (h | h); exact h h1; exact h2 h)] at hr; subst hr
          have h3 : decide ((1073741823 : Int) < (bAcc l : Int)) = false := by rw [decide_eq_false_iff_not]; omega
          rw [h3]
          show Ans _ _
          rw [hsum]; exact Ans.rfl' _
    simp -implicitDefEqProofs [c6']
    by_cases c7 : 0 < i
    · have f4 := hget 0 c7
      have f1 : 0 ≤ at_ + 1 := by omega
      have f2 : at_ + 1 < s.length := by omega
      have f3 : (at_ + 1).toNat = at_.toNat + 1 := by omega
      have f5 : s[at_.toNat + 1]? = some (l[0]'(by omega)) := f4
      have hl0 : l.getD 0 0 = l[0]'(by omega) := by simp [List.getD_eq_getElem?_getD, List.getElem?_eq_getElem (show 0 < l.length by omega)]
      have ht := tail (((l[0]'(by omega)).toNat : Int) == 0) (by
        rw [hl0]
        constructor
        · intro h; refine ⟨c7, UInt8.toNat_inj.1 ?_⟩; simp at h; simpa using h
        · rintro ⟨_, h⟩; rw [h]; rfl)
      simp -implicitDefEqProofs [c7, e6, f1, f2, f3, f5, e7, e8]
      cases hc : (((l[0]'(by omega)).toNat : Int) == 0) with
      | true => rw [hc] at ht; simp -implicitDefEqProofs; exact ht
      | false => rw [hc] at ht; simp -implicitDefEqProofs; exact ht
    · have ht := tail false (by simp [c7])
      simp -implicitDefEqProofs [c7, e7, e8]
      exact ht
end Go.AI
