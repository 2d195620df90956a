/- The document's codes by time; Totps. -/
import Derived.Test.YtkpoknhlecgbnaaSpTotp
set_option linter.all false
namespace Go.AI
variable {A : Type} {R : Adts A}
theorem ref12_tickMay_ok (x : Int) {h : AHeap A} {K : AVal → AHeap A → Prop} (hk : K (.bool (tMay x)) h) : Tri Pr R n_ref12_tickMay [.int .i64 x] h K := by
  apply c_ref12_tickMay
  unfold p_ref12_tickMay
  by_cases h1 : 0 ≤ x
  · by_cases h2 : x ≤ 1048575
    · simp [tMay, h1, h2] at hk; simp -implicitDefEqProofs [h1, h2]; exact hk
    · simp [tMay, h1, h2] at hk; simp -implicitDefEqProofs [h1, h2]; exact hk
  · simp [tMay, h1] at hk; simp -implicitDefEqProofs [h1]; exact hk
theorem ref12_Step_ok (x : Int) {h : AHeap A} {K : AVal → AHeap A → Prop} (hk : K (.int .i64 (tStep x)) h) : Tri Pr R n_ref12_Step [.int .i64 x] h K := by
  apply c_ref12_Step
  unfold p_ref12_Step
  refine ref12_tickMay_ok x ?_
  by_cases h1 : 0 ≤ x ∧ x ≤ 1048575
  · have e1 : x.tdiv 30 = x / 30 := Int.tdiv_eq_ediv_of_nonneg h1.1
    have e2 := w64 (n := x / 30) (by omega)
    have e3 := w64 (n := x / 30 + 1) (by omega)
    have e4 : tMay x = true := by simp [tMay, h1]
    rw [tStep, if_pos h1] at hk
    simp -implicitDefEqProofs [e4, e1, e2, e3]; exact hk
  · have e4 : tMay x = false := by simp [tMay]; omega
    rw [tStep, if_neg h1] at hk
    simp -implicitDefEqProofs [e4]; exact hk
section
variable {mk : Int → List Bs → A}
theorem ref12_Code_ok (hR : R.Ok) (hB : HasRBook R mk) {m : Int} {ts : List Bs} (hok : bOk m ts) (secret step : Int) {h : AHeap A} {b : Nat} (hb : h[b]? = some (.adt (mk m ts))) {K : AVal → AHeap A → Prop}
    (hk : K (.tup [.int .i64 (tCode m ts secret step).2.1, .int .i64 (tCode m ts secret step).2.2]) (h.set b (.adt (mk m (tCode m ts secret step).1)))) : Tri Pr R n_ref12_Code [.ptr b 0, .int .i64 secret, .int .i64 step] h K := by
  refine rbook_own hR hB rfl rfl ?_ hb hk
  apply c_ref12_Code
  unfold p_ref12_Code
  by_cases h1 : 1 ≤ step ∧ step ≤ 1048575
  · have h2 : ¬ step < 1 := by omega
    have h3 : ¬ 1048575 < step := by omega
    simp -implicitDefEqProofs [h2, h3]
    refine ref1_Nums_ok hR [step] (by simp) true (t := t_int) (by simp) ?_
    rw [nAll_one]
    have h4 : 4 + (nS step).length < 9223372036854775808 := by have := nS_len step; omega
    simp -implicitDefEqProofs [h4]
    have hc : 99 :: 111 :: 100 :: 101 :: nS step = cTerm step := rfl
    rw [hc]
    refine ref1_Mac_ok hR hB hok secret (cTerm step) (by have := cTerm_len step; omega) (by simp) ?_
    simp only [tCode, h1, and_self, if_true]
    by_cases h5 : (cKey m ts 77 secret (cTerm step)).2.2 = 0
    · simp -implicitDefEqProofs [h5]
    · have h6 : ((cKey m ts 77 secret (cTerm step)).2.2 != 0) = true := by simpa using h5
      simp -implicitDefEqProofs [h5, h6]
  · by_cases h2 : step < 1
    · simp -implicitDefEqProofs [h2, tCode, h1]
    · have h3 : 1048575 < step := by omega
      simp -implicitDefEqProofs [h2, h3, tCode, h1]
theorem ref12_Accept_ok (hR : R.Ok) (hB : HasRBook R mk) {m : Int} {ts : List Bs} (hok : bOk m ts) (secret last tick code : Int) {h : AHeap A} {b : Nat} (hb : h[b]? = some (.adt (mk m ts))) {K : AVal → AHeap A → Prop}
    (hk : K (.tup [.int .i64 (tAccept (fun s => cIsMac ts secret (cTerm s) code) last tick).1, .bool (tAccept (fun s => cIsMac ts secret (cTerm s) code) last tick).2]) h) : Tri Pr R n_ref12_Accept [.ptr b 0, .int .i64 secret, .int .i64 last, .int .i64 tick, .int .i64 code] h K := by
  refine rbook_own hR hB (ts' := ts) rfl rfl ?_ hb (by rw [set_same hb]; exact hk)
  obtain ⟨f, hf⟩ : ∃ f : Int → Bool, f = fun s => cIsMac ts secret (cTerm s) code := ⟨_, rfl⟩
  rw [← hf]
  apply c_ref12_Accept
  unfold p_ref12_Accept
  refine ref12_Step_ok tick ?_
  have hst := tStep_le tick
  obtain ⟨r, hr⟩ : ∃ r, tAccept f last tick = r := ⟨_, rfl⟩
  rw [hr]
  rw [tAccept] at hr
  obtain ⟨st, hs⟩ : ∃ st, tStep tick = st := ⟨_, rfl⟩
  rw [hs] at hr hst ⊢
  have e1 := w64 (n := st - 1) (by omega)
  have e2 := w64 (n := st + 1) (by omega)
  by_cases h0 : st = 0
  · rw [if_pos h0] at hr
    subst h0 hr
    simp -implicitDefEqProofs
  · rw [if_neg h0] at hr
    have h0' : (st == 0) = false := by simpa using h0
    obtain ⟨s0, g0, g1⟩ : ∃ s0, (if 1 < st - 1 then st - 1 else 1) = s0 ∧ s0 = max 1 (st - 1) := ⟨_, rfl, by split <;> omega⟩
    rw [← g1] at hr
    simp -implicitDefEqProofs [h0', e1, g0]
    refine loopP_go (fun m' y g => ∃ (n : Nat) (s : Int), y = [.int .i64 s] ∧ g = [.adt (mk m ts)] ∧ (n : Int) = st + 2 - s ∧ s0 ≤ s ∧ m' = n ∧ tTry f last (st + 1) n s = r) (st + 2 - s0).toNat
      (Gives.done (by simp) ⟨_, s0, rfl, rfl, by omega, by omega, rfl, hr⟩) ?_
    rintro m' y g ⟨n, s, rfl, rfl, hn, hs0, rfl, ht⟩
    by_cases h2 : s ≤ st + 1
    · obtain ⟨n, rfl⟩ : ∃ k, m' = k + 1 := ⟨m' - 1, by omega⟩
      rw [tTry] at ht
      have e3 := w64 (n := s + 1) (by omega)
      by_cases h3 : last < s
      · simp -implicitDefEqProofs [e2, h2, h3]
        refine ref1_Nums_ok hR [s] (by simp) true (t := t_int) (by simp) ?_
        rw [nAll_one]
        have h4 : 4 + (nS s).length < 9223372036854775808 := by have := nS_len s; omega
        simp -implicitDefEqProofs [h4]
        have hc : 99 :: 111 :: 100 :: 101 :: nS s = cTerm s := rfl
        rw [hc]
        refine ref1_IsMac_ok hR hB hok secret (cTerm s) (by have := cTerm_len s; omega) code (by simp) ?_
        have hfs : cIsMac ts secret (cTerm s) code = f s := by rw [hf]
        rw [hfs]
        cases hc : f s with
        | true =>
          rw [if_pos ⟨h3, hc⟩] at ht
          subst ht
          simp -implicitDefEqProofs
        | false =>
          rw [if_neg (by simp [hc])] at ht
          simp -implicitDefEqProofs [e3]
          refine Gives.cut hR (m := 1) (by omega) (by simp) rfl (by simp; exact ⟨rbook_ix hB _ _ _, fun τ _ => rbook_ren hB _ _ _⟩) ?_
          exact ⟨n, by omega, n, s + 1, rfl, rfl, by omega, by omega, rfl, ht⟩
      · rw [if_neg (by simp [h3])] at ht
        simp -implicitDefEqProofs [e2, h2, h3, e3]
        exact Gives.done (by simp) ⟨n, by omega, n, s + 1, rfl, rfl, by omega, by omega, rfl, ht⟩
    · obtain rfl : m' = 0 := by omega
      rw [tTry] at ht
      subst ht
      simp -implicitDefEqProofs [e2, h2]
end
end Go.AI
