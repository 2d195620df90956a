/- CraftUnlike. -/
import Derived.Test.YtnhclbecbagmfaaSpLaw3b
set_option linter.all false
namespace Go.AI
variable {A : Type} {R : Adts A}
theorem bFind_cons (a : Bs) (r : List Bs) (s : Bs) : bFind (a :: r) s = if a = s then some 0 else (bFind r s).map (· + 1) := by
  by_cases h : a = s
  · subst h; simp [bFind, List.idxOf?, List.findIdx?_cons]
  · simp [bFind, List.idxOf?, List.findIdx?_cons, h]
theorem bFind_nil (s : Bs) : bFind [] s = none := rfl
/-- What is within a seal. -/
theorem cOpen_seal {ts : List Bs} {q x tag : Int} {s : Bs} (hx : nMay x = true) (hq : nMay q = true) (ht : bTerm ts tag = (83 :: (nS x ++ s), 0)) : cOpen ts q tag = if q = x then (s, 0) else ([], 301) := by
  unfold cOpen
  rw [ht]
  by_cases h : q = x
  · subst h
    rw [if_pos rfl, if_pos ⟨hq, rfl, by simp, by simp⟩]
    simp
  · rw [if_neg h, if_neg]
    rintro ⟨_, _, h1, h2⟩
    simp at h2
    have h3 : nS q ++ (nS x ++ s).drop (nS q).length = nS x ++ s := by
      conv => rhs; rw [← List.take_append_drop (nS q).length (nS x ++ s)]
      rw [h2]
    exact h (nS_head hq hx h3).1
theorem cKey_new {m : Int} {ts : List Bs} {k : UInt8} {x : Int} {s : Bs} (hx : nMay x = true) (hs : s.length ≤ 100) (h3 : (k :: (nS x ++ s)) ∉ ts) (h4 : (ts.length : Int) < m) : cKey m ts k x s = (ts ++ [k :: (nS x ++ s)], (ts.length : Int), 0) := by
  have := nS_len x
  rw [cKey, if_pos hx, cMade_new (by simp) (by simp; omega) h3 h4]
theorem cKey_old {m : Int} {ts : List Bs} {k : UInt8} {x : Int} {s : Bs} (hx : nMay x = true) (hs : s.length ≤ 100) {i : Nat} (h3 : bFind ts (k :: (nS x ++ s)) = some i) : cKey m ts k x s = (ts, (i : Int), 0) := by
  have := nS_len x
  rw [cKey, if_pos hx, cMade_old (by simp) (by simp; omega) h3]
section
variable {bk rbk : Int → List Bs → A}
end
end Go.AI
