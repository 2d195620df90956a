/- CraftSeals. -/
import Derived.Test.YtnhclbecbagmfaaSpLaw3c
set_option linter.all false
namespace Go.AI
variable {A : Type} {R : Adts A}
theorem bTerm_get {ts : List Bs} {i : Nat} {s : Bs} (h : ts[i]? = some s) : bTerm ts (i : Int) = (s, 0) := by
  have := (List.getElem?_eq_some_iff.1 h).1
  unfold bTerm
  rw [if_pos (by omega)]
  simp [h]
theorem bTerm_app {ts : List Bs} {x : Int} {s : Bs} (r : List Bs) (h : bTerm ts x = (s, 0)) : bTerm (ts ++ r) x = (s, 0) := by
  unfold bTerm at h ⊢
  split at h
  · rename_i h1
    rw [if_pos (by simp; omega)]
    rw [← h]
    simp [List.getElem?_append_left (show x.toNat < ts.length by omega)]
  · simp at h
/-- A term with a key is made: its name stands for it; the others stay. -/
theorem key_step {m : Int} {ts : List Bs} {k : UInt8} {x : Int} {s : Bs} (hx : nMay x = true) (hs : s.length ≤ 100) (hm : (ts.length : Int) < m) :
    ∃ (ts' : List Bs) (n : Int), cKey m ts k x s = (ts', n, 0) ∧ bTerm ts' n = (k :: (nS x ++ s), 0) ∧ ts'.length ≤ ts.length + 1 ∧ (∀ t r, bTerm ts t = (r, 0) → bTerm ts' t = (r, 0)) ∧ (∀ r ∈ ts', r ∈ ts ∨ r = k :: (nS x ++ s)) := by
  by_cases h : (k :: (nS x ++ s)) ∈ ts
  · obtain ⟨i, h1, _, h2⟩ := bFind_mem h
    exact ⟨ts, i, cKey_old hx hs h1, bTerm_get h2, by omega, fun _ _ h => h, fun r hr => .inl hr⟩
  · exact ⟨_, _, cKey_new hx hs h hm, bTerm_get (by simp), by simp, fun _ _ h => bTerm_app _ h, fun r hr => by simpa using hr⟩
theorem ints_fix {t : TypeId} {m : Nat} (l : List Int) : (AObj.cells t (l.map (.int .i64)) : AObj A).ix R m ∧ ∀ τ, (AObj.cells t (l.map (.int .i64)) : AObj A).ren R τ = .cells t (l.map (.int .i64)) := by
  have h1 : ∀ m, ixs m (l.map (.int .i64)) = true := fun m => by simp [ixs_all, AVal.ix]
  exact ⟨h1 m, fun τ => by simp only [AObj.ren]; rw [rens_ix0 τ _ (h1 0)]⟩
/-- Names that were told, behind one object. -/
def TRow (o : AObj A) (tags : List Int) (x : AVal) (g : AHeap A) : Prop :=
  (tags = [] ∧ x = .nils ∧ g = [o]) ∨ (tags ≠ [] ∧ x = .sl 1 0 tags.length tags.length false ∧ g = [o, .cells t_int (tags.map (.int .i64))])
section
variable {bk rbk : Int → List Bs → A}
def SealsI (bk : Int → List Bs → A) (keys : List Int) (texts : List Bs) (n : Nat) (m : Nat) (y : List AVal) (g : AHeap A) : Prop :=
  ∃ (j : Nat) (ts : List Bs) (tags : List Int) (x : AVal), y = [x, .int .i64 j] ∧ TRow (.adt (bk 999 ts)) tags x g ∧ bOk 999 ts ∧ ts.length ≤ j ∧ tags.length = j ∧
    (∀ i, i < j → bTerm ts (tags.getD i 0) = (83 :: (nS (keys.getD i 0 % 16) ++ texts.getD i []), 0)) ∧ j ≤ n ∧ m = n - j
def SealsO (h : AHeap A) (n : Nat) (m : Nat) (y : List AVal) (g : AHeap A) : Prop := ∃ j : Nat, y = [.int .i64 j] ∧ g = h ∧ j ≤ n ∧ m = n - j
end
end Go.AI
