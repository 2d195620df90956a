/- Events and records that are handed in. -/
import Derived.Test.YtnhclbecbagmfaaSpRecord0
import Derived.Test.YtnhclbecbagmfaaSpTie
set_option linter.all false
namespace Go.AI
theorem len_s {α : Type} {l : List α} {n : Nat} (h : l.length = n + 1) : ∃ x r, l = x :: r ∧ r.length = n := by
  cases l with
  | nil => simp at h
  | cons x r => exact ⟨x, r, rfl, by simpa using h⟩
theorem ev_TR {P : Program} {n : Nat} {e i : TypeId} {f0 f1 f2 f3 f4 f5 f6 f7 : Field} {us : List AVal} (he : P.underlying e = some (.struct #[f0, f1, f2, f3, f4, f5, f6, f7])) (hi : P.underlying i = some (.int .i64)) (hc : P.cellsOf e = 8) (ci : P.cellsOf i = 1)
    (hf : (f0.type = i ∧ f0.offset = 0) ∧ (f1.type = i ∧ f1.offset = 1) ∧ (f2.type = i ∧ f2.offset = 2) ∧ (f3.type = i ∧ f3.offset = 3) ∧ (f4.type = i ∧ f4.offset = 4) ∧ (f5.type = i ∧ f5.offset = 5) ∧ (f6.type = i ∧ f6.offset = 6) ∧ (f7.type = i ∧ f7.offset = 7)) (h : TR P (n + 2) e us) : ∃ x : Ev, us = x.row := by
  obtain ⟨⟨t0, o0⟩, ⟨t1, o1⟩, ⟨t2, o2⟩, ⟨t3, o3⟩, ⟨t4, o4⟩, ⟨t5, o5⟩, ⟨t6, o6⟩, ⟨t7, o7⟩⟩ := hf
  obtain ⟨hr, h6⟩ := TR_struct he h
  rw [hc] at hr
  obtain ⟨r0, r1, r2, r3, r4, r5, r6, r7, rfl⟩ := len_8 hr
  have g0 := h6 0 f0 rfl
  have g1 := h6 1 f1 rfl
  have g2 := h6 2 f2 rfl
  have g3 := h6 3 f3 rfl
  have g4 := h6 4 f4 rfl
  have g5 := h6 5 f5 rfl
  have g6 := h6 6 f6 rfl
  have g7 := h6 7 f7 rfl
  rw [t0, o0, ci] at g0
  rw [t1, o1, ci] at g1
  rw [t2, o2, ci] at g2
  rw [t3, o3, ci] at g3
  rw [t4, o4, ci] at g4
  rw [t5, o5, ci] at g5
  rw [t6, o6, ci] at g6
  rw [t7, o7, ci] at g7
  obtain ⟨x0, e0, _⟩ := TR_int hi g0
  obtain ⟨x1, e1, _⟩ := TR_int hi g1
  obtain ⟨x2, e2, _⟩ := TR_int hi g2
  obtain ⟨x3, e3, _⟩ := TR_int hi g3
  obtain ⟨x4, e4, _⟩ := TR_int hi g4
  obtain ⟨x5, e5, _⟩ := TR_int hi g5
  obtain ⟨x6, e6, _⟩ := TR_int hi g6
  obtain ⟨x7, e7, _⟩ := TR_int hi g7
  simp at e0 e1 e2 e3 e4 e5 e6 e7
  subst e0 e1 e2 e3 e4 e5 e6 e7
  exact ⟨⟨x0, x1, x2, x3, x4, x5, x6, x7⟩, rfl⟩
theorem rec_TR {P : Program} {n : Nat} {t e i : TypeId} {f0 f1 f2 f3 f4 f5 f6 f7 g0 g1 g2 g3 : Field} {us : List AVal} (ht : P.underlying t = some (.struct #[g0, g1, g2, g3])) (he : P.underlying e = some (.struct #[f0, f1, f2, f3, f4, f5, f6, f7])) (hi : P.underlying i = some (.int .i64)) (hct : P.cellsOf t = 11) (hc : P.cellsOf e = 8) (ci : P.cellsOf i = 1)
    (hg : (g0.type = i ∧ g0.offset = 0) ∧ (g1.type = i ∧ g1.offset = 1) ∧ (g2.type = i ∧ g2.offset = 2) ∧ (g3.type = e ∧ g3.offset = 3))
    (hf : (f0.type = i ∧ f0.offset = 0) ∧ (f1.type = i ∧ f1.offset = 1) ∧ (f2.type = i ∧ f2.offset = 2) ∧ (f3.type = i ∧ f3.offset = 3) ∧ (f4.type = i ∧ f4.offset = 4) ∧ (f5.type = i ∧ f5.offset = 5) ∧ (f6.type = i ∧ f6.offset = 6) ∧ (f7.type = i ∧ f7.offset = 7)) (h : TR P (n + 3) t us) : ∃ x : Rec, us = x.row := by
  obtain ⟨⟨t0, o0⟩, ⟨t1, o1⟩, ⟨t2, o2⟩, ⟨t3, o3⟩⟩ := hg
  obtain ⟨hr, h6⟩ := TR_struct ht h
  rw [hct] at hr
  obtain ⟨r0, u1, rfl, hr1⟩ := len_s hr
  obtain ⟨r1, u2, rfl, hr2⟩ := len_s hr1
  obtain ⟨r2, u3, rfl, hr3⟩ := len_s hr2
  have k0 := h6 0 g0 rfl
  have k1 := h6 1 g1 rfl
  have k2 := h6 2 g2 rfl
  have k3 := h6 3 g3 rfl
  rw [t0, o0, ci] at k0
  rw [t1, o1, ci] at k1
  rw [t2, o2, ci] at k2
  rw [t3, o3, hc] at k3
  obtain ⟨x0, e0, _⟩ := TR_int hi k0
  obtain ⟨x1, e1, _⟩ := TR_int hi k1
  obtain ⟨x2, e2, _⟩ := TR_int hi k2
  obtain ⟨x, e3⟩ := ev_TR he hi hc ci hf k3
  simp at e0 e1 e2 e3
  subst e0 e1 e2
  rw [List.take_of_length_le (by omega)] at e3
  subst e3
  exact ⟨⟨x0, x1, x2, x⟩, rfl⟩
/-- A slice of structs that is handed in. -/
def IsRows {α : Type} (f : α → List AVal) (a : AVal) (l : List α) : Prop := (a = .nils ∧ l = []) ∨ ∃ b o cap, a = .lst b o l.length cap (l.flatMap f)
theorem rows_drop {α β : Type} {f : α → List β} {n : Nat} (hf : ∀ x, (f x).length = n) : ∀ (l : List α) (i : Nat) (h : i < l.length), (l.flatMap f).drop (i * n) = f l[i] ++ (l.drop (i + 1)).flatMap f
  | [], i, h => by simp at h
  | a :: r, 0, h => by simp
  | a :: r, i + 1, h => by
    have := rows_drop hf r i (by simpa using h)
    have e1 : (i + 1) * n = (f a).length + i * n := by rw [hf, Nat.succ_mul]; omega
    rw [e1, ← List.drop_drop, List.flatMap_cons, List.drop_left, this]
    simp
theorem IsRows.len {α : Type} {f : α → List AVal} {a : AVal} {l : List α} (h : IsRows f a l) (K : AVal → Prop) : lenP a K = K (.int .i64 l.length) := by
  rcases h with ⟨rfl, rfl⟩ | ⟨b, o, cap, rfl⟩ <;> simp
theorem IsRows.get {α : Type} {f : α → List AVal} {w : Nat} (hf : ∀ x, (f x).length = w) {a : AVal} {l : List α} (h : IsRows f a l) {n : Int} (h0 : 0 ≤ n) (h1 : n < l.length) : ∃ x b o cs, l[n.toNat]? = some x ∧ ∀ K, idxP w a (.int .i64 n) K = K (.fp b o (f x ++ cs)) := by
  rcases h with ⟨rfl, rfl⟩ | ⟨b, o, cap, rfl⟩
  · simp at h1; omega
  · have h2 : n.toNat < l.length := by omega
    refine ⟨l[n.toNat], b, o + n.toNat * w, (l.drop (n.toNat + 1)).flatMap f, List.getElem?_eq_getElem h2, fun K => ?_⟩
    rw [idxP_l K w b o l.length cap _ .i64 n h0 h1, rows_drop hf l n.toNat h2]
theorem rows_TR {P : Program} {n : Nat} {t e : TypeId} {α : Type} {f : α → List AVal} {us : List AVal} (hu : P.underlying t = some (.slice e)) (he : ∀ r, TR P n e r → ∃ x : α, r = f x) (h : TR P (n + 1) t us) : ∃ a l, us = [a] ∧ IsRows f a l := by
  rcases TR_slice hu h with rfl | ⟨b', o, len, cap, rows, rfl, h1, h2, h3, h4⟩
  · exact ⟨_, [], rfl, .inl ⟨rfl, rfl⟩⟩
  · have : ∃ l : List α, rows = l.map f := by
      clear h1 h2 h3 h
      induction rows with
      | nil => exact ⟨[], rfl⟩
      | cons r rs ih =>
        obtain ⟨l, rfl⟩ := ih fun r hr => h4 r (by simp [hr])
        obtain ⟨x, rfl⟩ := he _ (h4 r (by simp)).2
        exact ⟨x :: l, rfl⟩
    obtain ⟨l, rfl⟩ := this
    subst h3
    refine ⟨_, l, rfl, .inr ⟨b', o, cap, ?_⟩⟩
    rw [List.length_map, List.flatMap]
end Go.AI
