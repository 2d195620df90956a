/- The program reads numbers. -/
import Derived.Test.YtnhclbecbagmfaaSpReader
set_option linter.all false
namespace Go.AI
variable {A : Type} {R : Adts A}
def faultO (a e : Int) : AObj A := .cells t_field_Fault [.int .i64 a, .iface t_api_Errno (.int .i64 e)]
theorem faultO_low {m : Nat} (a e : Int) : AObj.low R m (faultO a e : AObj A) := low_cells rfl
theorem field_num_ok (hR : R.Ok) (s : Bs0) (hs : s.length < 9000000000000000000) (at_ : Int) (ha : -9000000000000000000 ≤ at_ ∧ at_ < 9000000000000000000) {h : AHeap A} {K : AVal → AHeap A → Prop}
    (hk : if (gNum s at_).2.2 = 0 then K (.tup [.int .i64 (gNum s at_).1, .int .i64 (gNum s at_).2.1, .nili]) h else ∀ a e, K (.tup [.int .i64 0, .int .i64 0, .iface t_p_field_Fault (.ptr h.length 0)]) (h ++ [faultO a e])) : Tri Pr R n_field_num [.str s, .int .i64 at_] h K := by
  have bad : ∀ (a e : Int), (gNum s at_).2.2 ≠ 0 → (Tri Pr R n_field_num [.str s, .int .i64 at_] [] fun u g => Gives Pr R 0 g [u] fun vs h => ∃ v, vs = [v] ∧ v = .tup [.int .i64 0, .int .i64 0, .iface t_p_field_Fault (.ptr 0 0)] ∧ h = [faultO a e]) → Tri Pr R n_field_num [.str s, .int .i64 at_] h K := by
    intro a e he t
    rw [if_neg he] at hk
    refine Tri.make hR rfl (v0 := .tup [.int .i64 0, .int .i64 0, .iface t_p_field_Fault (.ptr 0 0)]) (h0 := [faultO a e]) (Tri.post t) ?_
    simpa [AVal.ren, rens, AObj.ren, faultO] using hk a e
  have hG : ∀ r, gNum s at_ = r → (gNum s at_).2.2 = r.2.2 := fun r h => by rw [h]
  obtain ⟨r, hr⟩ : ∃ r, gNum s at_ = r := ⟨_, rfl⟩
  rw [hr] at hk bad
  unfold gNum at hr
  by_cases c1 : at_ < 0
  · rw [if_pos (.inl c1)] at hr; subst hr
    refine bad at_ 100 (by simp) ?_
    apply c_field_num
    unfold p_field_num
    simp -implicitDefEqProofs [c1, mkiP]
    exact Gives.done (by simp) ⟨_, rfl, rfl, rfl⟩
  by_cases c2 : (s.length : Int) < at_
  · rw [if_pos (.inr c2)] at hr; subst hr
    refine bad at_ 100 (by simp) ?_
    apply c_field_num
    unfold p_field_num
    simp -implicitDefEqProofs [c1, c2, mkiP]
    exact Gives.done (by simp) ⟨_, rfl, rfl, rfl⟩
  rw [if_neg (by omega)] at hr
  by_cases c3 : at_ = s.length
  · rw [if_pos c3] at hr; subst hr
    have c3' : (at_ == (s.length : Int)) = true := by simpa using c3
    refine bad at_ 101 (by simp) ?_
    apply c_field_num
    unfold p_field_num
    simp -implicitDefEqProofs [c1, c2, c3', mkiP]
    exact Gives.done (by simp) ⟨_, rfl, rfl, rfl⟩
  rw [if_neg c3] at hr
  have c3' : (at_ == (s.length : Int)) = false := by simpa using c3
  have a0 : 0 ≤ at_ := by omega
  have a1 : at_ < s.length := by omega
  have hlt : at_.toNat < s.length := by omega
  have hg : s.getD at_.toNat 0 = s[at_.toNat] := by simp [List.getD_eq_getElem?_getD, hlt]
  rw [hg] at hr
  obtain ⟨n, hn⟩ : ∃ n, (s[at_.toNat]).toNat = n := ⟨_, rfl⟩
  rw [hn] at hr
  have hn256 : n < 256 := by rw [← hn]; exact UInt8.toNat_lt _
  have e0 := w64 (n := (n : Int)) (by omega)
  have e1 := w64 (n := at_ + 1) (by omega)
  have a2 : 0 ≤ at_ + 1 := by omega
  have a3 : at_ + 1 ≤ s.length := by omega
  have a4 : (at_ + 1).toNat = at_.toNat + 1 := by omega
  dsimp only at hr
  by_cases c4 : 4 < n
  · rw [if_pos c4] at hr; subst hr
    have c4' : (4 : Int) < n := by omega
    refine bad at_ 100 (by simp) ?_
    apply c_field_num
    unfold p_field_num
    simp -implicitDefEqProofs [c1, c2, c3', a0, a1, a2, a3, a4, hlt, hn, e0, e1, c4, c4', mkiP]
    exact Gives.done (by simp) ⟨_, rfl, rfl, rfl⟩
  rw [if_neg c4] at hr
  have c4' : ¬ (4 : Int) < n := by omega
  by_cases c5 : s.length < at_.toNat + 1 + n
  · rw [if_pos c5] at hr; subst hr
    have c5' : s.length - (at_.toNat + 1) < n := by omega
    refine bad (at_ + 1) 101 (by simp) ?_
    apply c_field_num
    unfold p_field_num
    simp -implicitDefEqProofs [c1, c2, c3', a0, a1, a2, a3, a4, hlt, hn, e0, e1, c4, c4', c5', mkiP]
    exact Gives.done (by simp) ⟨_, rfl, rfl, rfl⟩
  rw [if_neg c5] at hr
  have c5' : ¬ s.length - (at_.toNat + 1) < n := by omega
  have c5'' : n ≤ s.length - (at_.toNat + 1) := by omega
  obtain ⟨l, hl⟩ : ∃ l, (s.drop (at_.toNat + 1)).take n = l := ⟨_, rfl⟩
  rw [hl] at hr
  have hll : l.length = n := by rw [← hl]; simp; omega
  have hsm := bAcc_small (l := l) (by omega)
  have e2 := w64 (n := at_ + 1 + n) (by omega)
  -- the walk to the loop's end
  have walk : ∀ (Q : AVal → AHeap A → Prop), (if nW (bAcc l) ≠ n ∨ 1073741823 < bAcc l then Q (.tup [.int .i64 0, .int .i64 0, .iface t_p_field_Fault (.ptr 1 0)]) [.cells t_uint8 (l.map fun b => .int .u8 b.toNat), faultO (at_ + 1) 100]
      else Q (.tup [.int .i64 (bAcc l : Nat), .int .i64 (at_ + 1 + n), .nili]) [.cells t_uint8 (l.map fun b => .int .u8 b.toNat)]) → Tri Pr R n_field_num [.str s, .int .i64 at_] [] Q := by
    intro Q hQ
    apply c_field_num
    unfold p_field_num
    simp -implicitDefEqProofs [c1, c2, c3', a0, a1, a2, a3, a4, hlt, hn, e0, e1, c4, c4', c5', c5'', hl, hll]
    simp -implicitDefEqProofs [s2bP, hll]
    refine loopP_go (fun m y g => ∃ i : Nat, y = [.int .i64 (bAcc (l.take i) : Nat), .int .i64 i] ∧ g = [.cells t_uint8 (l.map fun b => .int .u8 b.toNat)] ∧ i ≤ n ∧ m = n - i) n (Gives.done (by simp) ⟨0, rfl, rfl, by omega, rfl⟩) ?_
    rintro m y g ⟨i, rfl, rfl, hi, rfl⟩
    by_cases c6 : i < n
    · have c6' : (i : Int) < n := by omega
      have c6l : i < l.length := by omega
      have e4 := w64 (n := (i : Int) + 1) (by omega)
      have hsi := bAcc_small (l := l.take i) (by simp; omega)
      have f5 := shl8_or (bAcc (l.take i)) l[i] hsi
      have f6 : bAcc (l.take (i + 1)) = bAcc (l.take i) * 256 + l[i].toNat := by rw [← List.take_append_getElem c6l, bAcc_snoc]
      have e5 := w64 (n := (l[i].toNat : Int)) (by have := UInt8.toNat_lt l[i]; omega)
      simp -implicitDefEqProofs [c6, c6', c6l, e4, e5]
      rw [f5, ← f6]
      exact Gives.done (by simp) ⟨n - (i + 1), by omega, i + 1, by simp, rfl, by omega, rfl⟩
    · obtain rfl : i = n := by omega
      have hti : l.take i = l := List.take_of_length_le (by omega)
      rw [hti]
      simp -implicitDefEqProofs
      refine field_width_ok hR _ (by omega) (by omega) ?_
      by_cases h1 : nW (bAcc l) = i
      · have h1' : (nW (bAcc l) != (i : Int)) = false := by simp [h1]
        by_cases h2 : 1073741823 < bAcc l
        · rw [if_pos (.inr h2)] at hQ
          have h2' : (1073741823 : Int) < (bAcc l : Int) := by omega
          simp -implicitDefEqProofs [h1', h2', mkiP, e1]
          exact hQ
        · rw [if_neg (by rintro (h | h); exact h h1; exact h2 h)] at hQ
          have h2' : ¬ (1073741823 : Int) < (bAcc l : Int) := by omega
          simp -implicitDefEqProofs [h1', h2', e1, e2]
          exact hQ
      · rw [if_pos (.inl h1)] at hQ
        have h1' : (nW (bAcc l) != (i : Int)) = true := by simp [h1]
        simp -implicitDefEqProofs [h1', mkiP, e1]
        exact hQ
  by_cases c7 : nW (bAcc l) ≠ n ∨ 1073741823 < bAcc l
  · rw [if_pos c7] at hr; subst hr
    refine bad (at_ + 1) 100 (by simp) (walk _ ?_)
    rw [if_pos c7]
    refine Gives.pick hR [] [.cells t_uint8 (l.map fun b => .int .u8 b.toNat)] (faultO (at_ + 1) 100) _ [.tup [.int .i64 0, .int .i64 0, .iface t_p_field_Fault (.ptr 0 0)]] rfl (by simp) (by simp) ⟨rfl, fun _ => rfl⟩ (by simp [rens, AVal.ren]) rfl ?_
    exact ⟨_, rfl, rfl, rfl⟩
  · rw [if_neg c7] at hr; subst hr
    simp only [if_true] at hk
    refine Tri.fn1 hR _ rfl rfl (walk _ ?_) hk
    rw [if_neg c7]
    exact Ans.rfl' _
end Go.AI
