/- Crafts, plainly: hashes, tags, seals; codes by time. -/
import Derived.Test.YtnhclbecbagmfaaSpLaw14b
set_option linter.all false
namespace Go.AI
/-- A term with a key ahead is made. -/
def cKey (m : Int) (ts : List Bs) (k : UInt8) (key : Int) (s : Bs) : List Bs × Int × Int := if nMay key = true then cMade m ts (k :: (nS key ++ s)) else (ts, 0, 300)
theorem cKey_ok {m : Int} {ts : List Bs} {k : UInt8} {key : Int} {s : Bs} (h : bOk m ts) : bOk m (cKey m ts k key s).1 := by
  unfold cKey; split
  · exact cMade_ok h
  · exact h
/-- Is a tag the name of a term? -/
def cIs (ts : List Bs) (s : Bs) (tag : Int) : Bool := (bFind ts s).isSome && (((bFind ts s).getD 0 : Nat) : Int) == tag
def cIsMac (ts : List Bs) (key : Int) (s : Bs) (tag : Int) : Bool := nMay key && cIs ts (77 :: (nS key ++ s)) tag
/-- What is within a seal of a key. -/
def cOpen (ts : List Bs) (key tag : Int) : Bs × Int :=
  if nMay key = true ∧ (bTerm ts tag).2 = 0 ∧ (83 :: nS key).length ≤ (bTerm ts tag).1.length ∧ (bTerm ts tag).1.take (83 :: nS key).length = 83 :: nS key then ((bTerm ts tag).1.drop (83 :: nS key).length, 0) else ([], 301)
theorem cMade_new {m : Int} {ts : List Bs} {s : Bs} (h1 : s ≠ []) (h2 : s.length ≤ 512) (h3 : s ∉ ts) (h4 : (ts.length : Int) < m) : cMade m ts s = (ts ++ [s], (ts.length : Int), 0) := by
  rw [cMade, bName_new h1 h2 h3 h4]; rfl
theorem cMade_old {m : Int} {ts : List Bs} {s : Bs} (h1 : s ≠ []) (h2 : s.length ≤ 512) {i : Nat} (h3 : bFind ts s = some i) : cMade m ts s = (ts, (i : Int), 0) := by
  rw [cMade, bName_old h1 h2 h3]; rfl
theorem cMade_long {m : Int} {ts : List Bs} {s : Bs} (h2 : 512 < s.length) : cMade m ts s = (ts, 0, 300) := by
  have : bName m ts s = (ts, 0, 200) := by unfold bName; rw [if_pos (.inr h2)]
  rw [cMade, this]; rfl
theorem cMade_full {m : Int} {ts : List Bs} {s : Bs} (h3 : s ∉ ts) (h4 : m ≤ (ts.length : Int)) : cMade m ts s = (ts, 0, 300) := by
  have hf : bFind ts s = none := by
    apply bFind_none
    intro j hj
    exact h3 (List.mem_of_getElem? hj)
  have : ∃ e, bName m ts s = (ts, 0, e) ∧ e ≠ 0 := by
    unfold bName; split
    · exact ⟨_, rfl, by omega⟩
    · rw [hf]; exact ⟨201, by simp [h4], by omega⟩
  obtain ⟨e, h5, h6⟩ := this
  rw [cMade, h5]; simp [h6]
/-- A term that is there is found. -/
theorem bFind_mem {ts : List Bs} {s : Bs} (h : s ∈ ts) : ∃ i, bFind ts s = some i ∧ i < ts.length ∧ ts[i]? = some s := by
  unfold bFind
  cases hf : ts.idxOf? s with
  | none => exact absurd h (by simpa [List.idxOf?_eq_none_iff] using hf)
  | some i =>
    have := List.idxOf?_eq_some_iff.1 hf
    obtain ⟨h1, h2, _⟩ := this
    exact ⟨i, rfl, h1, by rw [List.getElem?_eq_getElem h1]; simpa using h2⟩
theorem bb_small {n : Nat} : True := trivial
/-- Numbers' bytes: none is another's beginning. -/
theorem nE_head {x y : Int} (hx : nMay x = true) (hy : nMay y = true) {s t : Bs} (h : nE x ++ s = nE y ++ t) : x = y ∧ s = t := by
  have h1 : 0 ≤ x ∧ x ≤ 1073741823 := by simpa [nMay] using hx
  have h2 : 0 ≤ y ∧ y ≤ 1073741823 := by simpa [nMay] using hy
  unfold nE at h
  repeat' split at h
  all_goals first | (exfalso; simp at h; done) | (simp [bb_eq] at h; refine ⟨by omega, ?_⟩; first | exact h | exact h.2 | exact h.2.2 | exact h.2.2.2 | exact h.2.2.2.2)
theorem nS_head {x y : Int} (hx : nMay x = true) (hy : nMay y = true) {s t : Bs} (h : nS x ++ s = nS y ++ t) : x = y ∧ s = t := by
  rw [nS, nS, if_pos hx, if_pos hy] at h
  exact nE_head hx hy h
end Go.AI
