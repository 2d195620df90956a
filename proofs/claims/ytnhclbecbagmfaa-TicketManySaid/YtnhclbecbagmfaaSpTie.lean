/- Lists that are handed over, opened. -/
import Derived.Test.YtnhclbecbagmfaaAiT
import Derived.Test.YtnhclbecbagmfaaSpUse
set_option linter.all false
namespace Go.AI
variable {P : Program}
theorem ints_TR {n : Nat} {t e : TypeId} {us : List AVal} (hu : P.underlying t = some (.slice e)) (he : P.underlying e = some (.int .i64)) (h : TR P (n + 2) t us) :
    ∃ a l, us = [a] ∧ IsInts a l ∧ (∀ x ∈ l, (Lit.int .i64 x).wf = true) ∧ l.length ≤ maxLen := by
  rcases TR_slice hu h with rfl | ⟨b, o, len, cap, rows, rfl, h1, h2, h3, h4⟩
  · exact ⟨_, [], rfl, .inl ⟨rfl, rfl⟩, by simp, by simp⟩
  · have : ∃ l : List Int, rows = l.map (fun x => [AVal.int .i64 x]) ∧ ∀ x ∈ l, (Lit.int .i64 x).wf = true := by
      clear h1 h2 h3 h
      induction rows with
      | nil => exact ⟨[], rfl, by simp⟩
      | cons r rs ih =>
        obtain ⟨l, rfl, hl⟩ := ih fun r hr => h4 r (by simp [hr])
        obtain ⟨_, h5⟩ := h4 r (by simp)
        obtain ⟨x, rfl, hx⟩ := TR_int he h5
        exact ⟨x :: l, rfl, by intro y hy; rcases List.mem_cons.1 hy with rfl | hy; exact hx; exact hl y hy⟩
    obtain ⟨l, rfl, hl⟩ := this
    subst h3
    refine ⟨_, l, rfl, .inr ⟨b, o, cap, ?_⟩, hl, by simp at h1; omega⟩
    rw [List.length_map]
    congr 1
    clear hl h4 h1 h
    induction l with
    | nil => rfl
    | cons x l ih => simp [ih]
end Go.AI
