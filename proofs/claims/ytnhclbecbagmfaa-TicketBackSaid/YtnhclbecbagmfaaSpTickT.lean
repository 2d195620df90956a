/- Bodies that are handed in. -/
import Derived.Test.YtnhclbecbagmfaaSpTick0
import Derived.Test.YtnhclbecbagmfaaSpRecT
set_option linter.all false
namespace Go.AI
theorem body_TR {P : Program} {n : Nat} {e i : TypeId} {f0 f1 f2 f3 f4 : Field} {us : List AVal} (he : P.underlying e = some (.struct #[f0, f1, f2, f3, f4])) (hi : P.underlying i = some (.int .i64)) (hc : P.cellsOf e = 5) (ci : P.cellsOf i = 1)
    (hf : (f0.type = i ∧ f0.offset = 0) ∧ (f1.type = i ∧ f1.offset = 1) ∧ (f2.type = i ∧ f2.offset = 2) ∧ (f3.type = i ∧ f3.offset = 3) ∧ (f4.type = i ∧ f4.offset = 4)) (h : TR P (n + 2) e us) : ∃ x : Body, us = x.row := by
  obtain ⟨⟨t0, o0⟩, ⟨t1, o1⟩, ⟨t2, o2⟩, ⟨t3, o3⟩, ⟨t4, o4⟩⟩ := hf
  obtain ⟨hr, h6⟩ := TR_struct he h
  rw [hc] at hr
  obtain ⟨r0, r1, r2, r3, r4, rfl⟩ := len_5 hr
  have g0 := h6 0 f0 rfl
  have g1 := h6 1 f1 rfl
  have g2 := h6 2 f2 rfl
  have g3 := h6 3 f3 rfl
  have g4 := h6 4 f4 rfl
  rw [t0, o0, ci] at g0
  rw [t1, o1, ci] at g1
  rw [t2, o2, ci] at g2
  rw [t3, o3, ci] at g3
  rw [t4, o4, ci] at g4
  obtain ⟨x0, e0, _⟩ := TR_int hi g0
  obtain ⟨x1, e1, _⟩ := TR_int hi g1
  obtain ⟨x2, e2, _⟩ := TR_int hi g2
  obtain ⟨x3, e3, _⟩ := TR_int hi g3
  obtain ⟨x4, e4, _⟩ := TR_int hi g4
  simp at e0 e1 e2 e3 e4
  subst e0 e1 e2 e3 e4
  exact ⟨⟨x0, x1, x2, x3, x4⟩, rfl⟩
end Go.AI
