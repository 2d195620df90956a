/- RingForms. -/
import Derived.Test.YtlhmikjjnndjcaaSpLaw14
set_option linter.all false
namespace Go.AI
variable {A : Type} {R : Adts A}
theorem bb_eq (x y : Int) : bb x = bb y ↔ x % 256 = y % 256 := by
  constructor
  · intro h
    have h2 := congrArg UInt8.toNat h
    simp only [bb, UInt8.toNat_ofNat'] at h2
    omega
  · intro h; unfold bb; rw [h]
theorem nE_inj {x y : Int} (hx : nMay x = true) (hy : nMay y = true) (h : nE x = nE y) : x = y := by
  have h1 : 0 ≤ x ∧ x ≤ 1073741823 := by simpa [nMay] using hx
  have h2 : 0 ≤ y ∧ y ≤ 1073741823 := by simpa [nMay] using hy
  unfold nE at h
  repeat' split at h
  all_goals first | omega | (exfalso; simp at h; done) | (simp [bb_eq] at h; omega)
theorem eTerm_inj {x y : Int} (hx : nMay x = true) (hy : nMay y = true) (h : eTerm x = eTerm y) : x = y := by
  refine nE_inj hx hy ?_
  simpa [eTerm, nS, hx, hy] using h
theorem bName_new {m : Int} {ts : List Bs} {s : Bs} (h1 : s ≠ []) (h2 : s.length ≤ 512) (h3 : s ∉ ts) (h4 : (ts.length : Int) < m) : bName m ts s = (ts ++ [s], (ts.length : Int), 0) := by
  have hf : bFind ts s = none := by
    apply bFind_none
    intro j hj
    exact h3 (List.mem_of_getElem? hj)
  unfold bName
  rw [if_neg (by rintro (h | h); exact h1 h; omega), hf]
  simp; omega
theorem bName_old {m : Int} {ts : List Bs} {s : Bs} (h1 : s ≠ []) (h2 : s.length ≤ 512) {i : Nat} (h3 : bFind ts s = some i) : bName m ts s = (ts, (i : Int), 0) := by
  unfold bName
  rw [if_neg (by rintro (h | h); exact h1 h; omega), h3]
theorem rKey_new {m : Int} {ts : List Bs} {x : Int} (hx : nMay x = true) (h3 : (65 :: eTerm x) ∉ ts) (h4 : (ts.length : Int) < m) : rKey m ts x = (ts ++ [65 :: eTerm x], (ts.length : Int), 0) := by
  have := bName_new (m := m) (s := 65 :: eTerm x) (by simp) (by have := eTerm_len x; simp; omega) h3 h4
  simp [rKey, hx, cMade, this]
theorem rKey_old {m : Int} {ts : List Bs} {x : Int} (hx : nMay x = true) {i : Nat} (h3 : bFind ts (65 :: eTerm x) = some i) : rKey m ts x = (ts, (i : Int), 0) := by
  have := bName_old (m := m) (s := 65 :: eTerm x) (by simp) (by have := eTerm_len x; simp; omega) h3
  simp [rKey, hx, cMade, this]
theorem rKey_bad {m : Int} {ts : List Bs} {x : Int} (hx : nMay x = false) : rKey m ts x = (ts, 0, 1400) := by simp [rKey, hx]
section
variable {bk rbk : Int → List Bs → A}
theorem RingForms_ok (hR : R.Ok) (hB : HasBook R bk) (hB' : HasRBook R rbk) (x a c keep : Int) : Tri Pr R n_law14_RingForms [.int .i64 x, .int .i64 a, .int .i64 c, .int .i64 keep] [] fun u _ => u = .bool true := by
  apply c_law14_RingForms
  unfold p_law14_RingForms
  refine awake14_ok hR hB hB' ?_
  simp
  rw [bits_mask x 10 (by omega) 1023 (by decide), bits_mask a 10 (by omega) 1023 (by decide), bits_mask c 10 (by omega) 1023 (by decide), bits_mask keep 3 (by omega) 7 (by decide)]
  obtain ⟨d, hd, d0, d1⟩ : ∃ d, x % 2 ^ 10 = d ∧ 0 ≤ d ∧ d < 1024 := ⟨_, rfl, by omega, by omega⟩
  obtain ⟨p, hp, p0, p1⟩ : ∃ d, a % 2 ^ 10 = d ∧ 0 ≤ d ∧ d < 1024 := ⟨_, rfl, by omega, by omega⟩
  obtain ⟨q, hq, q0, q1⟩ : ∃ d, c % 2 ^ 10 = d ∧ 0 ≤ d ∧ d < 1024 := ⟨_, rfl, by omega, by omega⟩
  obtain ⟨o, ho, o0, o1⟩ : ∃ d, keep % 2 ^ 3 = d ∧ 0 ≤ d ∧ d < 8 := ⟨_, rfl, by omega, by omega⟩
  rw [hd, hp, hq, ho]
  have mp : nMay p = true := by simp [nMay]; omega
  have mq : nMay q = true := by simp [nMay]; omega
  have mo : nMay o = true := by simp [nMay]; omega
  have e1 := w64 (n := 1 + d) (by omega)
  have e2 := w64 (n := -(1 + d)) (by omega)
  have e3 := w64 (n := 1073741823 + (1 + d)) (by omega)
  have e4 := w64 (n := q - p) (by omega)
  have m1 : nMay (-(1 + d)) = false := by simp [nMay]; omega
  have m2 : nMay (1073741823 + (1 + d)) = false := by simp [nMay]; omega
  refine law14_twin_ok hR hB hB' 2 ?_
  rw [if_pos (by omega)]
  simp [e1, e2, e3, e4]
  have b0 : bOk 2 [] := bOk_nil (by omega)
  have k1 : rKey 2 [] p = ([65 :: eTerm p], 0, 0) := rKey_new mp (by simp) (by simp)
  have b1 := rKey_at b0 k1
  refine key_at hR hB b0 k1 rfl ?_
  simp only [extP_t, List.getElem?_cons_zero, List.getElem?_cons_succ, optP_some, List.set_cons_zero]
  obtain ⟨ts, n, k2, hn, b2⟩ : ∃ ts n, rKey 2 [65 :: eTerm p] q = (ts, n, 0) ∧ (n = 0 ↔ p = q) ∧ bOk 2 ts := by
    by_cases h : p = q
    · subst h
      have k2 : rKey 2 [65 :: eTerm p] p = ([65 :: eTerm p], ((0 : Nat) : Int), 0) := rKey_old mp (i := 0) (by simp [bFind, List.idxOf?, List.findIdx?_cons])
      exact ⟨_, _, k2, by simp, rKey_at b1 k2⟩
    · have k2 := rKey_new (m := 2) (ts := [65 :: eTerm p]) mq (by simp; exact fun he => h (eTerm_inj mq mp he).symm) (by simp)
      exact ⟨_, _, k2, by simp [h], rKey_at b1 k2⟩
  have k3 : rKey 2 ts (-(1 + d)) = (ts, 0, 1400) := rKey_bad m1
  have k4 : rKey 2 ts (1073741823 + (1 + d)) = (ts, 0, 1400) := rKey_bad m2
  refine key_at hR hB b1 k2 rfl ?_
  simp only [extP_t, List.getElem?_cons_zero, List.getElem?_cons_succ, optP_some, List.set_cons_zero]
  refine key_at hR hB b2 k3 rfl ?_
  simp only [extP_t, List.getElem?_cons_zero, List.getElem?_cons_succ, optP_some, List.set_cons_zero]
  refine key_at hR hB b2 k4 rfl ?_
  simp only [extP_t, List.getElem?_cons_zero, List.getElem?_cons_succ, optP_some, List.set_cons_zero]
  refine ring_Key_nil hR _ ?_
  simp only [extP_t, List.getElem?_cons_zero, List.getElem?_cons_succ, optP_some, List.set_cons_zero]
  refine num14_ok ?_
  simp
  refine num14_ok ?_
  simp
  have hpq : (0 == n) = (p == q) := by rw [Bool.eq_iff_iff]; simp; exact ⟨fun h => hn.1 h.symm, fun h => (hn.2 h).symm⟩
  simp [hpq]
  refine num14_ok ?_
  simp
  refine num14_ok ?_
  simp
  refine num14_ok ?_
  simp
  have l1 : rLive p q o = (decide (p ≤ q) && decide (q - p ≤ o)) := by simp [rLive, mp, mq, mo]
  have l2 : rLive (-(1 + d)) q o = false := by simp [rLive, m1]
  have l3 : rLive p (1073741823 + (1 + d)) o = false := by simp [rLive, m2]
  have l4 : rLive p q (-(1 + d)) = false := by simp [rLive, m1]
  refine live_at hR l1 ?_
  cases hc : decide (p ≤ q)
  · simp
    refine live_at hR l2 ?_
    simp
    refine live_at hR l3 ?_
    simp
    refine live_at hR l4 ?_
    simp
  · simp
    refine live_at hR l2 ?_
    simp
    refine live_at hR l3 ?_
    simp
    refine live_at hR l4 ?_
    simp
end
end Go.AI
