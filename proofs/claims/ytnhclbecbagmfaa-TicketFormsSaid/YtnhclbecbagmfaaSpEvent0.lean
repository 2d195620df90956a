/- Events, plainly. -/
import Derived.Test.YtnhclbecbagmfaaSpField0
import Derived.Test.YtnhclbecbagmfaaSpLaw14b
set_option linter.all false
namespace Go.AI
/-- An event. -/
structure Ev where
  kind : Int
  user : Int
  session : Int
  address : Int
  a : Int
  b : Int
  c : Int
  tick : Int
deriving DecidableEq
def Ev.row (e : Ev) : List AVal := [.int .i64 e.kind, .int .i64 e.user, .int .i64 e.session, .int .i64 e.address, .int .i64 e.a, .int .i64 e.b, .int .i64 e.c, .int .i64 e.tick]
def ev0 : Ev := ⟨0, 0, 0, 0, 0, 0, 0, 0⟩
/-- The parts that a kind names. -/
def evParts (e : Ev) : List Int :=
  if e.kind = 0 then [e.tick] else if e.kind = 1 then [e.user, e.a, e.b, e.c] else if e.kind = 2 then [e.user, e.tick] else if e.kind = 3 then [e.user, e.a] else if e.kind = 4 then [e.user]
  else if e.kind = 5 then [e.session, e.user, e.address, e.tick] else if e.kind = 6 then [e.session, e.a, e.b, e.tick] else if e.kind = 7 then [e.user] else if e.kind = 9 then [e.session] else []
/-- An event of these parts. -/
def evOf (k : Int) (l : List Int) : Ev :=
  let z := l.getD 0 0
  let y := l.getD 1 0
  let x := l.getD 2 0
  let w := l.getD 3 0
  if k = 0 then { ev0 with kind := k, tick := z } else if k = 1 then { ev0 with kind := k, user := z, a := y, b := x, c := w } else if k = 2 then { ev0 with kind := k, user := z, tick := y }
  else if k = 3 then { ev0 with kind := k, user := z, a := y } else if k = 4 then { ev0 with kind := k, user := z } else if k = 5 then { ev0 with kind := k, session := z, user := y, address := x, tick := w }
  else if k = 6 then { ev0 with kind := k, session := z, a := y, b := x, tick := w } else if k = 7 then { ev0 with kind := k, user := z } else if k = 9 then { ev0 with kind := k, session := z } else { ev0 with kind := k }
def evCount (k : Int) : Nat := if k = 0 ∨ k = 4 ∨ k = 7 ∨ k = 9 then 1 else if k = 2 ∨ k = 3 then 2 else if k = 1 ∨ k = 5 ∨ k = 6 then 4 else 0
def evPlain (e : Ev) : Ev := evOf e.kind (evParts e)
/-- May an event be? -/
def evMay (e : Ev) : Bool :=
  decide (0 ≤ e.kind ∧ e.kind ≤ 9) && !(decide (e.kind = 6) && decide (4 < e.b)) && (evParts e).all nMay && decide (e.user < 8) && decide (e.address < 16) && decide (e.tick ≤ 1048575) && decide (e.c ≤ 1048576) && decide (e = evPlain e)
def evPut (e : Ev) : Bs0 := nAll (e.kind :: evParts e)
/-- So many numbers, one behind the other. -/
def rNums (s : Bs0) : Nat → Int → Option (List Int × Int)
  | 0, t => some ([], t)
  | n + 1, t => if (gNum s t).2.2 = 0 then (rNums s n (gNum s t).2.1).map fun r => ((gNum s t).1 :: r.1, r.2) else none
def evGet (s : Bs0) : Option Ev :=
  match rNums s 1 0 with
  | some ([k], t) => match rNums s (evCount k) t with
    | some (l, u) => if u = s.length ∧ evMay (evOf k l) = true then some (evOf k l) else none
    | none => none
  | _ => none
theorem evParts_count {e : Ev} (h : 0 ≤ e.kind ∧ e.kind ≤ 9) : (evParts e).length = evCount e.kind := by
  obtain ⟨k, u, s, ad, a, b, c, t⟩ := e
  simp only at h
  have : k = 0 ∨ k = 1 ∨ k = 2 ∨ k = 3 ∨ k = 4 ∨ k = 5 ∨ k = 6 ∨ k = 7 ∨ k = 8 ∨ k = 9 := by omega
  rcases this with rfl | rfl | rfl | rfl | rfl | rfl | rfl | rfl | rfl | rfl <;> rfl
theorem evParts_of {k : Int} {l : List Int} (h : l.length = evCount k) : evParts (evOf k l) = l := by
  unfold evCount at h
  by_cases h0 : k = 0 ∨ k = 4 ∨ k = 7 ∨ k = 9
  · rw [if_pos h0] at h
    match l, h with
    | [z], _ => rcases h0 with rfl | rfl | rfl | rfl <;> rfl
  · rw [if_neg h0] at h
    by_cases h1 : k = 2 ∨ k = 3
    · rw [if_pos h1] at h
      match l, h with
      | [z, y], _ => rcases h1 with rfl | rfl <;> rfl
    · rw [if_neg h1] at h
      by_cases h2 : k = 1 ∨ k = 5 ∨ k = 6
      · rw [if_pos h2] at h
        match l, h with
        | [z, y, x, w], _ => rcases h2 with rfl | rfl | rfl <;> rfl
      · rw [if_neg h2] at h
        have := List.length_eq_zero_iff.1 h; subst this
        simp only [not_or] at h0 h1 h2
        simp [evOf, evParts, h0, h1, h2]
theorem nE_length_pos (x : Int) : 0 < (nE x).length := by have := (nE_len x).2; exact List.length_pos_iff.2 this
theorem nAll_cons (x : Int) (l : List Int) : nAll (x :: l) = nS x ++ nAll l := by simp [nAll]
/-- What is written is read. -/
theorem rNums_dec : ∀ (l : List Int) (p r : Bs0), (∀ x ∈ l, nMay x = true) → rNums (p ++ (nAll l ++ r)) l.length (p.length : Int) = some (l, (p.length : Int) + (nAll l).length)
  | [], p, r, _ => by simp [rNums, nAll]
  | x :: l, p, r, h => by
    have hx := h x (by simp)
    have es : nS x = nE x := by simp [nS, hx]
    have g := gNum_dec hx p (nAll l ++ r)
    have ih := rNums_dec l (p ++ nE x) r (fun y hy => h y (by simp [hy]))
    have e1 : p ++ (nAll (x :: l) ++ r) = p ++ (nE x ++ (nAll l ++ r)) := by rw [nAll_cons, es, List.append_assoc]
    rw [e1, List.length_cons, rNums, g]
    simp only [if_true]
    have e2 : p ++ (nE x ++ (nAll l ++ r)) = p ++ nE x ++ (nAll l ++ r) := by simp
    have e3 : (p.length : Int) + (nE x).length = ((p ++ nE x).length : Nat) := by simp
    rw [e2, e3, ih]
    simp [nAll_cons, es]
    omega
/-- What was read stands there as it is written. -/
theorem rNums_enc {s : Bs0} : ∀ {n : Nat} {t : Int} {l : List Int} {u : Int}, rNums s n t = some (l, u) → 0 ≤ t → l.length = n ∧ (∀ x ∈ l, nMay x = true) ∧ t ≤ u ∧ (s.drop t.toNat).take (u - t).toNat = nAll l ∧ (0 < n → u ≤ s.length)
  | 0, t, l, u, h, ht => by
    simp [rNums] at h
    obtain ⟨rfl, rfl⟩ := h
    simp [nAll]
  | n + 1, t, l, u, h, ht => by
    rw [rNums] at h
    split at h
    · rename_i h0
      obtain ⟨x, t1, e, hg⟩ : ∃ x t1 e, gNum s t = (x, t1, e) := ⟨_, _, _, rfl⟩
      rw [hg] at h h0
      simp only at h h0
      subst h0
      obtain ⟨hx, q1, q2, q3, q4⟩ := gNum_enc hg
      cases hr : rNums s n t1 with
      | none => rw [hr] at h; simp at h
      | some r =>
        obtain ⟨l', u'⟩ := r
        rw [hr] at h
        simp at h
        obtain ⟨rfl, rfl⟩ := h
        obtain ⟨a1, a2, a3, a4, a5⟩ := rNums_enc hr (by omega)
        refine ⟨by simp [a1], fun y hy => ?_, by omega, ?_, fun _ => ?_⟩
        · rcases List.mem_cons.1 hy with rfl | hy
          · exact hx
          · exact a2 y hy
        · have es : nS x = nE x := by simp [nS, hx]
          rw [nAll_cons, es, ← q4, ← a4]
          have e1 : (u' - t).toNat = (t1 - t).toNat + (u' - t1).toNat := by omega
          have e2 : s.drop t1.toNat = (s.drop t.toNat).drop (t1 - t).toNat := by rw [List.drop_drop]; congr 1; omega
          rw [e1, e2, List.take_add]
        · by_cases hn : 0 < n
          · exact a5 hn
          · have : n = 0 := by omega
            subst this
            simp [rNums] at hr
            omega
    · simp at h
end Go.AI
