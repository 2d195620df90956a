/- SuperForms, SuperSlots. -/
import Derived.Test.YtkpoknhlecgbnaaSpLaw10
set_option linter.all false
namespace Go.AI
variable {A : Type} {R : Adts A}
theorem tmod_u64 (x m : Int) (hm : 0 < m) : ∃ k, (IntKind.u64.wrap x).tmod m = k ∧ 0 ≤ k ∧ k < m := by
  have h1 : 0 ≤ IntKind.u64.wrap x := by simp [IntKind.wrap, IntKind.signed, IntKind.bits]; omega
  exact ⟨_, rfl, Int.tmod_nonneg _ h1, Int.tmod_lt_of_pos _ hm⟩
section
variable {bk rbk : Int → List Bs → A}
theorem SuperForms_ok (hR : R.Ok) (hB : HasBook R bk) (hB' : HasRBook R rbk) (which x : Int) : Tri Pr R n_law10_SuperForms [.int .i64 which, .int .i64 x] [] fun u _ => u = .bool true := by
  apply c_law10_SuperForms
  unfold p_law10_SuperForms
  refine awake10_ok hR hB hB' ?_
  simp -implicitDefEqProofs
  rw [bits_mask x 10 (by omega) 1023 (by decide)]
  obtain ⟨d0, hd, d1, d2⟩ : ∃ d, x % 2 ^ 10 = d ∧ 0 ≤ d ∧ d < 1024 := ⟨_, rfl, by omega, by omega⟩
  rw [hd]
  have e1 := w64 (n := 1 + d0) (by omega)
  have e2 := w64 (n := 1 - (1 + d0)) (by omega)
  have e3 := w64 (n := 1023 + (1 + d0)) (by omega)
  refine book_New_ok hR hB 1 ?_
  rw [if_pos (by omega)]
  simp -implicitDefEqProofs
  refine num14_ok ?_
  simp -implicitDefEqProofs [e1]
  have b0 : bOk 1 [] := bOk_nil (by omega)
  obtain ⟨t1, f1⟩ : ∃ t : List Bs, t = [supT 1023] := ⟨_, rfl⟩
  obtain ⟨s, f2⟩ : ∃ t : Bs, t = pad [2, 3, 255, 0] := ⟨_, rfl⟩
  obtain ⟨z, f3⟩ : ∃ t : Bs, t = List.replicate (64 : Int).toNat 0 := ⟨_, rfl⟩
  have k1 : sPut 1 [] 1023 = (t1, s, 0) := by rw [f1, f2]; decide +kernel
  have b1 := bOk_put b0 k1
  have k2 : sPut 1 t1 (1023 + (1 + d0)) = (t1, [], 1000) := sPut_bad (by simp [bootMay]; omega)
  have k3 : sPut 1 t1 (1 - (1 + d0)) = (t1, [], 1000) := sPut_bad (by simp [bootMay]; omega)
  have k4 : sPut 1 t1 1 = (t1, [], 1000) := by rw [f1]; decide +kernel
  have k5 : sGet t1 s = (1023, 0) := by rw [f1, f2]; decide +kernel
  have l1 : s.length = 64 := by rw [f2]; rfl
  have l2 : z.length = 64 := by rw [f3]; rfl
  have k6 : (t1.length : Int) = 1 := by rw [f1]; rfl
  have bad : ∀ u ∈ [([] : Bs), s.tail, s ++ [0], 1 :: s.tail, s.take 2 ++ 1 :: s.drop 3, s.take 63 ++ [1], z], sGet t1 u = (0, 1000) ∧ u.length < 1000 := by
    rw [f1, f2, f3]; decide +kernel
  have hpick : ∀ u, sGet t1 u = (0, 1000) → sPick t1 u s = (1023, 0, 0) := by
    intro u hu
    unfold sPick
    rw [hu, k5]
    simp
  simp only [List.forall_mem_cons] at bad
  obtain ⟨⟨q0, r0⟩, ⟨q1, r1⟩, ⟨q2, r2⟩, ⟨q3, r3⟩, ⟨q4, r4⟩, ⟨q5, r5⟩, ⟨q6, r6⟩, -⟩ := bad
  clear f1 f2
  refine SPut_at hR hB b0 k1 rfl ?_
  simp -implicitDefEqProofs [e3]
  refine SPut_at hR hB b1 k2 rfl ?_
  simp -implicitDefEqProofs [e2]
  refine SPut_at hR hB b1 k3 rfl ?_
  simp -implicitDefEqProofs
  refine SPut_at hR hB b1 k4 rfl ?_
  simp -implicitDefEqProofs
  refine num14_ok ?_
  simp -implicitDefEqProofs [l1]
  have h9 : (0 : Int) ≤ 64 ∧ (64 : Int) ≤ 140737488355328 := by omega
  refine mkz_ok h9 ?_
  rw [← f3]
  clear f3
  obtain ⟨o, ho⟩ : ∃ o : AObj A, .cells t_uint8 (zCells (64 : Int).toNat) = o := ⟨_, rfl⟩
  rw [ho]
  clear ho
  obtain ⟨k, hk, k0', k9⟩ := tmod_u64 which 7 (by omega)
  have e4 := w64 (n := k) (by omega)
  simp -implicitDefEqProofs [hk, e4]
  have hk7 : k = 0 ∨ k = 1 ∨ k = 2 ∨ k = 3 ∨ k = 4 ∨ k = 5 ∨ k = 6 := by omega
  rcases hk7 with rfl | rfl | rfl | rfl | rfl | rfl | rfl
  · simp -implicitDefEqProofs
    refine SGet_at hR hB r0 q0 rfl ?_
    simp -implicitDefEqProofs
    refine SGet_at hR hB (by omega) k5 rfl ?_
    simp -implicitDefEqProofs
    refine SPick_at hR hB r0 (by omega) (hpick _ q0) rfl ?_
    simp -implicitDefEqProofs
    refine super_Pick_nil hR _ _ ?_
    simp -implicitDefEqProofs
    refine super_Put_nil hR _ ?_
    simp -implicitDefEqProofs
    repeat (refine num14_ok ?_; simp -implicitDefEqProofs)
    refine Len_at hR hB k6 rfl ?_
    simp -implicitDefEqProofs
  · simp -implicitDefEqProofs
    refine SGet_at hR hB r1 q1 rfl ?_
    simp -implicitDefEqProofs
    refine SGet_at hR hB (by omega) k5 rfl ?_
    simp -implicitDefEqProofs
    refine SPick_at hR hB r1 (by omega) (hpick _ q1) rfl ?_
    simp -implicitDefEqProofs
    refine super_Pick_nil hR _ _ ?_
    simp -implicitDefEqProofs
    refine super_Put_nil hR _ ?_
    simp -implicitDefEqProofs
    repeat (refine num14_ok ?_; simp -implicitDefEqProofs)
    refine Len_at hR hB k6 rfl ?_
    simp -implicitDefEqProofs
  · simp -implicitDefEqProofs
    refine SGet_at hR hB r2 q2 rfl ?_
    simp -implicitDefEqProofs
    refine SGet_at hR hB (by omega) k5 rfl ?_
    simp -implicitDefEqProofs
    refine SPick_at hR hB r2 (by omega) (hpick _ q2) rfl ?_
    simp -implicitDefEqProofs
    refine super_Pick_nil hR _ _ ?_
    simp -implicitDefEqProofs
    refine super_Put_nil hR _ ?_
    simp -implicitDefEqProofs
    repeat (refine num14_ok ?_; simp -implicitDefEqProofs)
    refine Len_at hR hB k6 rfl ?_
    simp -implicitDefEqProofs
  · simp -implicitDefEqProofs
    refine SGet_at hR hB r3 q3 rfl ?_
    simp -implicitDefEqProofs
    refine SGet_at hR hB (by omega) k5 rfl ?_
    simp -implicitDefEqProofs
    refine SPick_at hR hB r3 (by omega) (hpick _ q3) rfl ?_
    simp -implicitDefEqProofs
    refine super_Pick_nil hR _ _ ?_
    simp -implicitDefEqProofs
    refine super_Put_nil hR _ ?_
    simp -implicitDefEqProofs
    repeat (refine num14_ok ?_; simp -implicitDefEqProofs)
    refine Len_at hR hB k6 rfl ?_
    simp -implicitDefEqProofs
  · simp -implicitDefEqProofs
    refine SGet_at hR hB r4 q4 rfl ?_
    simp -implicitDefEqProofs
    refine SGet_at hR hB (by omega) k5 rfl ?_
    simp -implicitDefEqProofs
    refine SPick_at hR hB r4 (by omega) (hpick _ q4) rfl ?_
    simp -implicitDefEqProofs
    refine super_Pick_nil hR _ _ ?_
    simp -implicitDefEqProofs
    refine super_Put_nil hR _ ?_
    simp -implicitDefEqProofs
    repeat (refine num14_ok ?_; simp -implicitDefEqProofs)
    refine Len_at hR hB k6 rfl ?_
    simp -implicitDefEqProofs
  · simp -implicitDefEqProofs
    refine SGet_at hR hB r5 q5 rfl ?_
    simp -implicitDefEqProofs
    refine SGet_at hR hB (by omega) k5 rfl ?_
    simp -implicitDefEqProofs
    refine SPick_at hR hB r5 (by omega) (hpick _ q5) rfl ?_
    simp -implicitDefEqProofs
    refine super_Pick_nil hR _ _ ?_
    simp -implicitDefEqProofs
    refine super_Put_nil hR _ ?_
    simp -implicitDefEqProofs
    repeat (refine num14_ok ?_; simp -implicitDefEqProofs)
    refine Len_at hR hB k6 rfl ?_
    simp -implicitDefEqProofs
  · simp -implicitDefEqProofs
    refine SGet_at hR hB r6 q6 rfl ?_
    simp -implicitDefEqProofs
    refine SGet_at hR hB (by omega) k5 rfl ?_
    simp -implicitDefEqProofs
    refine SPick_at hR hB r6 (by omega) (hpick _ q6) rfl ?_
    simp -implicitDefEqProofs
    refine super_Pick_nil hR _ _ ?_
    simp -implicitDefEqProofs
    refine super_Put_nil hR _ ?_
    simp -implicitDefEqProofs
    repeat (refine num14_ok ?_; simp -implicitDefEqProofs)
    refine Len_at hR hB k6 rfl ?_
    simp -implicitDefEqProofs
theorem SuperSlots_ok (hR : R.Ok) (hB : HasBook R bk) (hB' : HasRBook R rbk) (x y torn which : Int) : Tri Pr R n_law10_SuperSlots [.int .i64 x, .int .i64 y, .int .i64 torn, .int .i64 which] [] fun u _ => u = .bool true := by
  apply c_law10_SuperSlots
  unfold p_law10_SuperSlots
  refine awake10_ok hR hB hB' ?_
  simp -implicitDefEqProofs
  refine law10_twin_ok hR hB hB' 9 ?_
  rw [if_pos (by omega)]
  simp -implicitDefEqProofs
  obtain ⟨p0, hp, hp1, hp2⟩ := tmod_u64 x 1023 (by omega)
  obtain ⟨q0, hq, hq1, hq2⟩ := tmod_u64 y 1023 (by omega)
  obtain ⟨p, hpp⟩ : ∃ p, 1 + p0 = p := ⟨_, rfl⟩
  obtain ⟨q, hqq⟩ : ∃ p, 1 + q0 = p := ⟨_, rfl⟩
  have e1 := w64 (n := p0) (by omega)
  have e2 := w64 (n := q0) (by omega)
  have e3 := w64 (n := p) (by omega)
  have e4 := w64 (n := q) (by omega)
  have mp : bootMay p = true := by simp [bootMay]; omega
  have mq : bootMay q = true := by simp [bootMay]; omega
  have b0 : bOk 9 [] := bOk_nil (by omega)
  obtain ⟨ts1, n1, k1, kn1, kt1, kl1, _⟩ := sPut_at (boot := p) b0 mp (by simp)
  have b1 := bOk_put b0 k1
  have hl1 : ts1.length ≤ 1 := by simpa using kl1
  obtain ⟨ts2, n2, k2, kn2, kt2, kl2, kk2⟩ := sPut_at (boot := q) b1 mq (by omega)
  have b2 := bOk_put b1 k2
  have gS := sGet_sec b2.nd mp kn1 (kk2 _ _ kt1)
  have gT := sGet_sec b2.nd mq kn2 kt2
  have lp := nS_len p
  have lq := nS_len q
  have ln1 := nS_len n1
  have ln2 := nS_len n2
  have lS : (pad (nS p ++ nS n1)).length = 64 := pad_len (by simp; omega)
  have lT : (pad (nS q ++ nS n2)).length = 64 := pad_len (by simp; omega)
  have hbad : ∀ k : Nat, k ≤ 1 → ∀ S : Bs, sGet ts2 ((pad (nS q ++ nS n2)).take k ++ List.replicate (64 - k) 0) = (0, 1000) := by
    intro k hk S
    have hz : ∀ (r : Int × Int × Int) (u : Bs), gNum u 0 = r → r.2.2 ≠ 0 → sGet ts2 u = (0, 1000) := by
      intro r u h1 h2
      unfold sGet
      rw [h1, if_pos h2]
    rcases (by omega : k = 0 ∨ k = 1) with rfl | rfl
    · have h1 : gNum (List.replicate 64 0) 0 = (0, 1, 0) := by decide +kernel
      have h2 : gNum (List.replicate 64 0) 1 = (0, 2, 0) := by decide +kernel
      simp only [List.take_zero, List.nil_append, Nat.sub_zero]
      unfold sGet
      rw [h1]
      dsimp only
      rw [h2, if_neg (by simp), if_neg (by simp), if_pos (.inr (.inl rfl))]
    · have hq' : 1 ≤ q ∧ q ≤ 1023 := by omega
      have hmq : nMay q = true := bootMay_num mq
      have hh : (pad (nS q ++ nS n2)).take 1 = [1] ∨ (pad (nS q ++ nS n2)).take 1 = [2] := by
        rw [nS, if_pos hmq, nE, if_neg (by omega)]
        by_cases hc : q < 256
        · rw [if_pos hc]; exact .inl rfl
        · rw [if_neg hc, if_pos (by omega)]; exact .inr rfl
      rcases hh with hh | hh
      · rw [hh]; exact hz (0, 0, 100) _ (by decide +kernel) (by decide)
      · rw [hh]; exact hz (0, 0, 100) _ (by decide +kernel) (by decide)
  generalize pad (nS p ++ nS n1) = S at *
  generalize pad (nS q ++ nS n2) = T at *
  have kp : sPick ts2 S T = if q ≤ p then (p, 1, 0) else (q, 0, 0) := by
    unfold sPick; rw [gS, gT]; simp
  have hp3 : (1 : Int) ≤ p := by omega
  have kb1 : ∀ u, sGet ts2 u = (0, 1000) → sPick ts2 u S = (p, 0, 0) := by
    intro u hu; unfold sPick; rw [hu, gS]; simp
  have kb2 : ∀ u, sGet ts2 u = (0, 1000) → sPick ts2 S u = (p, 1, 0) := by
    intro u hu; unfold sPick; rw [hu, gS]; simp; omega
  simp -implicitDefEqProofs [hp, hq, e1, e2, hpp, hqq, e3, e4]
  refine SPut_at hR hB b0 k1 rfl ?_
  simp -implicitDefEqProofs
  refine SPut_at hR hB b1 k2 rfl ?_
  simp -implicitDefEqProofs
  refine num14_ok ?_
  simp -implicitDefEqProofs
  refine num14_ok ?_
  simp -implicitDefEqProofs [lS, lT]
  rw [bits_and1, bits_and1]
  obtain ⟨k, hk, hk1⟩ : ∃ k : Nat, torn % 2 = k ∧ k ≤ 1 := ⟨(torn % 2).toNat, by omega, by omega⟩
  have hu := hbad k hk1 []
  obtain ⟨u, huu⟩ : ∃ u, T.take k ++ List.replicate (64 - k) 0 = u := ⟨_, rfl⟩
  rw [huu] at hu
  have ul : u.length = 64 := by rw [← huu]; simp [lT]; omega
  rw [hk]
  have e5 := w64 (n := 64 - (k : Int)) (by omega)
  have g1 : (k : Int) ≤ 64 := by omega
  have g2 : k ≤ 64 := by omega
  have h9 : (0 : Int) ≤ 64 - k ∧ 64 - (k : Int) ≤ 140737488355328 := by omega
  have e6 : (64 - (k : Int)).toNat = 64 - k := by omega
  have hadd : min k 64 + (64 - k) < 9223372036854775808 := by omega
  have tail : True := trivial
  by_cases c : q ≤ p
  · rw [if_pos c] at kp
    have c2 : ¬ p < q := by omega
    have c3 : (if p < q then q else p) = p := if_neg c2
    refine SPick_at hR hB (by omega) (by omega) kp rfl ?_
    simp -implicitDefEqProofs
    refine num14_ok ?_
    simp -implicitDefEqProofs [c, c2, c3, g1, g2, lT, e5]
    refine mkz_ok h9 ?_
    rw [e6]
    simp -implicitDefEqProofs [lT, hadd, huu]
    cases hw : (which % 2 == 1) with
    | true =>
      simp -implicitDefEqProofs
      refine SPick_at hR hB (by omega) (by omega) (kb1 u hu) rfl ?_
      cases hb : (u != T) with
      | true =>
        simp -implicitDefEqProofs
        refine num14_ok ?_
        simp -implicitDefEqProofs
      | false => simp -implicitDefEqProofs
    | false =>
      simp -implicitDefEqProofs
      refine SPick_at hR hB (by omega) (by omega) (kb2 u hu) rfl ?_
      cases hb : (u != T) with
      | true =>
        simp -implicitDefEqProofs
        refine num14_ok ?_
        simp -implicitDefEqProofs
      | false => simp -implicitDefEqProofs
  · rw [if_neg c] at kp
    have c2 : p < q := by omega
    have c3 : (if p < q then q else p) = q := if_pos c2
    refine SPick_at hR hB (by omega) (by omega) kp rfl ?_
    simp -implicitDefEqProofs
    refine num14_ok ?_
    simp -implicitDefEqProofs [c, c2, c3, g1, g2, lT, e5]
    refine mkz_ok h9 ?_
    rw [e6]
    simp -implicitDefEqProofs [lT, hadd, huu]
    cases hw : (which % 2 == 1) with
    | true =>
      simp -implicitDefEqProofs
      refine SPick_at hR hB (by omega) (by omega) (kb1 u hu) rfl ?_
      cases hb : (u != T) with
      | true =>
        simp -implicitDefEqProofs
        refine num14_ok ?_
        simp -implicitDefEqProofs
      | false => simp -implicitDefEqProofs
    | false =>
      simp -implicitDefEqProofs
      refine SPick_at hR hB (by omega) (by omega) (kb2 u hu) rfl ?_
      cases hb : (u != T) with
      | true =>
        simp -implicitDefEqProofs
        refine num14_ok ?_
        simp -implicitDefEqProofs
      | false => simp -implicitDefEqProofs
end
end Go.AI
