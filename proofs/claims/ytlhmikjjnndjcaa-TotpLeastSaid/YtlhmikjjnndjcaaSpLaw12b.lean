/- TotpOnce, TotpLeast. -/
import Derived.Test.YtlhmikjjnndjcaaSpLaw12
set_option linter.all false
namespace Go.AI
variable {A : Type} {R : Adts A}
/-- A code that stands for a step. -/
theorem tAccept_code {ts : List Bs} (hn : ts.Nodup) {secret s code last tick : Int} (hsec : nMay secret = true) (h1 : 1 ≤ s) (h2 : s ≤ 40000) (hb : bTerm ts code = (77 :: (nS secret ++ cTerm s), 0)) :
    tAccept (fun x => cIsMac ts secret (cTerm x) code) last tick = if 0 < tStep tick ∧ tStep tick - 1 ≤ s ∧ s ≤ tStep tick + 1 ∧ last < s then (s, true) else (0, false) := by
  have hst := tStep_le tick
  unfold tAccept
  by_cases h0 : tStep tick = 0
  · rw [if_pos h0, if_neg (by omega)]
  · rw [if_neg h0, tTry_one (s := s) _ _ (by omega) (fun x hx1 hx2 => ?_)]
    · by_cases h3 : 0 < tStep tick ∧ tStep tick - 1 ≤ s ∧ s ≤ tStep tick + 1 ∧ last < s
      · rw [if_pos h3, if_pos (by omega)]
      · rw [if_neg h3, if_neg (by omega)]
    · have hm : nMay x = true := by simp [nMay]; omega
      have hm2 : nMay s = true := by simp [nMay]; omega
      show (nMay secret && cIs ts (77 :: (nS secret ++ cTerm x)) code) = true ↔ x = s
      rw [hsec, Bool.true_and, cIs_iff hn, hb]
      constructor
      · intro h
        simp at h
        exact (cTerm_inj hm2 hm h).symm
      · rintro rfl; rfl
theorem tCode_step {m : Int} {ts : List Bs} {secret s : Int} (hsec : nMay secret = true) (h1 : 1 ≤ s) (h2 : s ≤ 40000) (hm : (ts.length : Int) < m) :
    ∃ (ts' : List Bs) (n : Int), tCode m ts secret s = (ts', n, 0) ∧ bTerm ts' n = (77 :: (nS secret ++ cTerm s), 0) ∧ ts'.length ≤ ts.length + 1 ∧ (∀ t r, bTerm ts t = (r, 0) → bTerm ts' t = (r, 0)) := by
  obtain ⟨ts', n, k1, k2, k3, k4, _⟩ := key_step (m := m) (ts := ts) (k := 77) (s := cTerm s) hsec (by have := cTerm_len s; omega) hm
  refine ⟨ts', n, ?_, k2, k3, k4⟩
  rw [tCode, if_pos (by omega), k1]
  rfl
section
variable {bk rbk : Int → List Bs → A}
def OnceTI (bk rbk : Int → List Bs → A) (ts : List Bs) (s : Int) (m : Nat) (y : List AVal) (g : AHeap A) : Prop :=
  ∃ (i : Int) (last : Int), y = [.int .i64 last, .int .i64 i] ∧ g = [.adt (bk 9 ts), .adt (rbk 9 [])] ∧ (last = 0 ∨ last = s) ∧ 0 ≤ i ∧ i ≤ 40 ∧ m = (40 - i).toNat
theorem TotpOnce_ok (hR : R.Ok) (hB : HasBook R bk) (hB' : HasRBook R rbk) (step : Int) (a : AVal) (l : List Int) (ha : IsInts a l) : Tri Pr R n_law12_TotpOnce [.int .i64 step, a] [] fun u _ => u = .bool true := by
  apply c_law12_TotpOnce
  unfold p_law12_TotpOnce
  refine awake12_ok hR hB hB' ?_
  simp -implicitDefEqProofs
  refine law12_twin_ok hR hB hB' 9 ?_
  rw [if_pos (by omega)]
  simp -implicitDefEqProofs
  rw [bits_mask step 5 (by omega) 31 (by decide)]
  obtain ⟨s, hs, s1, s2⟩ : ∃ s, 1 + step % 2 ^ 5 = s ∧ 1 ≤ s ∧ s ≤ 32 := ⟨_, rfl, by omega, by omega⟩
  rw [hs]
  have e1 := w64 (n := s) (by omega)
  have b0 : bOk 9 [] := bOk_nil (by omega)
  have hT : (77 :: (nS 77 ++ cTerm s)) ∉ ([] : List Bs) := by simp
  have k0 := cKey_new (m := 9) (ts := []) (k := 77) (x := 77) (s := cTerm s) rfl (by have := cTerm_len s; omega) hT (by simp)
  have k1 : tCode 9 [] 77 s = ([77 :: (nS 77 ++ cTerm s)], 0, 0) := by rw [tCode, if_pos (by omega), k0]; rfl
  have b1 := bOk_code b0 k1
  have hb : bTerm [77 :: (nS 77 ++ cTerm s)] 0 = (77 :: (nS 77 ++ cTerm s), 0) := rfl
  have hacc := fun last tick => tAccept_code b1.nd (secret := 77) (last := last) (tick := tick) rfl s1 (by omega) hb
  have hlen : ((([77 :: (nS 77 ++ cTerm s)] : List Bs).length : Nat) : Int) = 1 := rfl
  generalize [77 :: (nS 77 ++ cTerm s)] = t1 at *
  simp -implicitDefEqProofs [e1]
  refine Code_at hR hB b0 k1 rfl ?_
  simp -implicitDefEqProofs
  refine num14_ok ?_
  simp -implicitDefEqProofs
  refine loopP_go (OnceTI bk rbk t1 s) 40 (Gives.done (by simp) ⟨0, 0, rfl, rfl, .inl rfl, by omega, by omega, rfl⟩) ?_
  rintro m y g ⟨i, last, rfl, rfl, hl, i0, i1, rfl⟩
  have e2 := w64 (n := i + 1) (by omega)
  have e3 := w64 (n := s - 1) (by omega)
  have e4 := w64 (n := s + 1) (by omega)
  simp -implicitDefEqProofs [ha.len]
  refine iteP_of (fun h1 => iteP_of (fun h2 => ?_) (fun h2 => ?_)) (fun h1 => ?_)
  · simp at h1 h2
    obtain ⟨bb, oo, cs, hg⟩ := ha.get i0 h1
    generalize l.getD i.toNat 0 = s0 at hg
    refine joinP_go ?_
    simp -implicitDefEqProofs [hg]
    rw [bits_mask s0 10 (by omega) 1023 (by decide)]
    obtain ⟨t, ht, t0, t1'⟩ : ∃ t, s0 % 2 ^ 10 = t ∧ 0 ≤ t ∧ t < 1024 := ⟨_, rfl, by omega, by omega⟩
    rw [ht]
    have hq : t.tdiv 30 = t / 30 := Int.tdiv_eq_ediv_of_nonneg t0
    have e5 := w64 (n := t / 30) (by omega)
    have e6 := w64 (n := t / 30 + 1) (by omega)
    have hst : tStep t = t / 30 + 1 := by rw [tStep, if_pos (by omega)]
    have hac := hacc last t
    rw [hst] at hac
    have fin : ∀ last' : Int, (last' = 0 ∨ last' = s) → Gives Pr R 2 [.adt (bk 9 t1), .adt (rbk 9 [])] [.int .i64 last', .int .i64 (i + 1)] fun z k => ∃ m' : Nat, (m' : Int) < 40 - i ∧ OnceTI bk rbk t1 s m' z k := fun last' h =>
      Gives.done (by simp) ⟨(40 - (i + 1)).toNat, by omega, i + 1, last', rfl, rfl, h, by omega, by omega, rfl⟩
    by_cases c1 : s - 1 ≤ t / 30 + 1
    · by_cases c2 : t / 30 + 1 ≤ s + 1
      · by_cases c3 : last < s
        · rw [if_pos (by omega)] at hac
          simp -implicitDefEqProofs [hq, e3, e4, e5, e6, c1, c2, c3]
          refine Accept_at hR hB hac rfl ?_
          simp -implicitDefEqProofs [e2, c3]
          exact fin _ (.inr rfl)
        · rw [if_neg (by omega)] at hac
          simp -implicitDefEqProofs [hq, e3, e4, e5, e6, c1, c2, c3]
          refine Accept_at hR hB hac rfl ?_
          simp -implicitDefEqProofs [e2, c3]
          exact fin _ hl
      · rw [if_neg (by omega)] at hac
        simp -implicitDefEqProofs [hq, e3, e4, e5, e6, c1, c2]
        refine Accept_at hR hB hac rfl ?_
        simp -implicitDefEqProofs [e2]
        exact fin _ hl
    · rw [if_neg (by omega)] at hac
      simp -implicitDefEqProofs [hq, e3, e4, e5, e6, c1]
      refine Accept_at hR hB hac rfl ?_
      simp -implicitDefEqProofs [e2]
      exact fin _ hl
  · refine Len_at hR hB hlen rfl ?_
    simp -implicitDefEqProofs
  · refine Len_at hR hB hlen rfl ?_
    simp -implicitDefEqProofs
end
end Go.AI
