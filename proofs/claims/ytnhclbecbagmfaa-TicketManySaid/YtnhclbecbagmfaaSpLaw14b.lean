/- RingForms. -/
import Derived.Test.YtnhclbecbagmfaaSpLaw14
set_option linter.all false
namespace Go.AI
variable {A : Type} {R : Adts A}
theorem bb_eq (x y : Int) : bb x = bb y ↔ x % 256 = y % 256 := by
  constructor
  · intro h
    have h2 := congrArg UInt8.toNat h
    simp only [bb, UInt8.toNat_ofNat'] at h2
    omega
  · intro h; unfold bb; rw [h]
theorem nE_inj {x y : Int} (hx : nMay x = true) (hy : nMay y = true) (h : nE x = nE y) : x = y := by
  have h1 : 0 ≤ x ∧ x ≤ 1073741823 := by simpa [nMay] using hx
  have h2 : 0 ≤ y ∧ y ≤ 1073741823 := by simpa [nMay] using hy
  unfold nE at h
  repeat' split at h
  all_goals first | omega | (exfalso; simp at h; done) | (simp [bb_eq] at h; omega)
theorem eTerm_inj {x y : Int} (hx : nMay x = true) (hy : nMay y = true) (h : eTerm x = eTerm y) : x = y := by
  refine nE_inj hx hy ?_
  simpa [eTerm, nS, hx, hy] using h
theorem bName_new {m : Int} {ts : List Bs} {s : Bs} (h1 : s ≠ []) (h2 : s.length ≤ 512) (h3 : s ∉ ts) (h4 : (ts.length : Int) < m) : bName m ts s = (ts ++ [s], (ts.length : Int), 0) := by
  have hf : bFind ts s = none := by
    apply bFind_none
    intro j hj
    exact h3 (List.mem_of_getElem? hj)
  unfold bName
  rw [if_neg (by rintro (h | h); exact h1 h; omega), hf]
  simp; omega
theorem bName_old {m : Int} {ts : List Bs} {s : Bs} (h1 : s ≠ []) (h2 : s.length ≤ 512) {i : Nat} (h3 : bFind ts s = some i) : bName m ts s = (ts, (i : Int), 0) := by
  unfold bName
  rw [if_neg (by rintro (h | h); exact h1 h; omega), h3]
theorem rKey_new {m : Int} {ts : List Bs} {x : Int} (hx : nMay x = true) (h3 : (65 :: eTerm x) ∉ ts) (h4 : (ts.length : Int) < m) : rKey m ts x = (ts ++ [65 :: eTerm x], (ts.length : Int), 0) := by
  have := bName_new (m := m) (s := 65 :: eTerm x) (by simp) (by have := eTerm_len x; simp; omega) h3 h4
  simp [rKey, hx, cMade, this]
theorem rKey_old {m : Int} {ts : List Bs} {x : Int} (hx : nMay x = true) {i : Nat} (h3 : bFind ts (65 :: eTerm x) = some i) : rKey m ts x = (ts, (i : Int), 0) := by
  have := bName_old (m := m) (s := 65 :: eTerm x) (by simp) (by have := eTerm_len x; simp; omega) h3
  simp [rKey, hx, cMade, this]
theorem rKey_bad {m : Int} {ts : List Bs} {x : Int} (hx : nMay x = false) : rKey m ts x = (ts, 0, 1400) := by simp [rKey, hx]
section
variable {bk rbk : Int → List Bs → A}
end
end Go.AI
