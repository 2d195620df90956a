/- Tickets, plainly. -/
import Derived.Test.YtnhclbecbagmfaaSpRecord0
set_option linter.all false
namespace Go.AI
structure Body where
  user : Int
  gen : Int
  expires : Int
  session : Int
  key : Int
deriving DecidableEq
def Body.row (b : Body) : List AVal := [.int .i64 b.user, .int .i64 b.gen, .int .i64 b.expires, .int .i64 b.session, .int .i64 b.key]
def body0 : Body := ⟨0, 0, 0, 0, 0⟩
def Body.nums (b : Body) : List Int := [b.user, b.gen, b.expires, b.session, b.key]
def bMay (b : Body) : Bool := b.nums.all nMay && decide (b.user < 8)
/-- A ticket is made: the terms behind it, its name, the error. -/
def tPut (m : Int) (ts : List Bs0) (epoch : Int) (b : Body) : List Bs0 × Int × Int :=
  if bMay b = true then
    (if (rKey m ts epoch).2.2 = 0 then
      (if (cKey m (rKey m ts epoch).1 83 (rKey m ts epoch).2.1 (nAll b.nums)).2.2 = 0 then
        ((cKey m (rKey m ts epoch).1 83 (rKey m ts epoch).2.1 (nAll b.nums)).1, (cKey m (rKey m ts epoch).1 83 (rKey m ts epoch).2.1 (nAll b.nums)).2.1, 0)
       else ((cKey m (rKey m ts epoch).1 83 (rKey m ts epoch).2.1 (nAll b.nums)).1, 0, 1500))
     else ((rKey m ts epoch).1, 0, 1500))
  else (ts, 0, 1500)
theorem tPut_ok {m : Int} {ts : List Bs0} {epoch : Int} {b : Body} (h : bOk m ts) : bOk m (tPut m ts epoch b).1 := by
  unfold tPut
  split
  · split
    · split <;> exact cKey_ok (rKey_ok h)
    · exact rKey_ok h
  · exact h
def tRead (s : Bs0) : Option Body :=
  match rNums s 5 0 with
  | some ([u, g, x, se, k], t) => if t = s.length ∧ u < 8 then some ⟨u, g, x, se, k⟩ else none
  | _ => none
theorem tRead_enc {s : Bs0} {b : Body} (h : tRead s = some b) : s = nAll b.nums ∧ bMay b = true := by
  unfold tRead at h
  split at h
  · rename_i u g x se k t hr
    split at h
    · rename_i h1
      simp at h; subst h
      obtain ⟨a1, a2, a3, a4, a5⟩ := rNums_enc hr (by omega)
      have a5' := a5 (by omega)
      constructor
      · rw [h1.1] at a4
        simpa [Body.nums] using a4
      · simp only [bMay, Body.nums, Bool.and_eq_true, List.all_eq_true, decide_eq_true_eq]
        exact ⟨a2, h1.2⟩
    · simp at h
  · simp at h
theorem tRead_dec {b : Body} (h : bMay b = true) : tRead (nAll b.nums) = some b := by
  simp only [bMay, Bool.and_eq_true, List.all_eq_true, decide_eq_true_eq] at h
  have := rNums_dec b.nums [] [] h.1
  simp only [List.nil_append, List.append_nil, List.length_nil] at this
  unfold tRead
  have e : b.nums.length = 5 := rfl
  have z0 : ((0 : Nat) : Int) = 0 := rfl
  rw [e, z0, Int.zero_add] at this
  rw [this]
  simp [Body.nums, h.2]
def tOpen (ts : List Bs0) (epoch tag : Int) : Option Body :=
  if nMay epoch = true then
    (match bFind ts (65 :: eTerm epoch) with
     | some key => if (cOpen ts (key : Int) tag).2 = 0 then tRead (cOpen ts (key : Int) tag).1 else none
     | none => none)
  else none
theorem cOpen_enc {ts : List Bs0} {key tag : Int} {s : Bs0} (h : cOpen ts key tag = (s, 0)) : nMay key = true ∧ bTerm ts tag = (83 :: (nS key ++ s), 0) := by
  unfold cOpen at h
  split at h
  · rename_i h1
    obtain ⟨a1, a2, a3, a4⟩ := h1
    simp only [Prod.mk.injEq] at h
    refine ⟨a1, ?_⟩
    have : (bTerm ts tag).1 = 83 :: (nS key ++ s) := by
      rw [← List.take_append_drop (83 :: nS key).length (bTerm ts tag).1, a4, h.1]; rfl
    exact Prod.ext this a2
  · simp at h
theorem cOpen_dec {ts : List Bs0} {key tag : Int} {s : Bs0} (h1 : nMay key = true) (h2 : bTerm ts tag = (83 :: (nS key ++ s), 0)) : cOpen ts key tag = (s, 0) := by
  unfold cOpen
  rw [h2]
  simp [h1]
theorem tOpen_enc {ts : List Bs0} {epoch tag : Int} {b : Body} (h : tOpen ts epoch tag = some b) : nMay epoch = true ∧ bMay b = true ∧ ∃ key : Nat, bFind ts (65 :: eTerm epoch) = some key ∧ nMay (key : Int) = true ∧ bTerm ts tag = (83 :: (nS (key : Int) ++ nAll b.nums), 0) := by
  unfold tOpen at h
  split at h
  · rename_i h1
    split at h
    · rename_i key hk
      split at h
      · rename_i h2
        obtain ⟨s, e, hs⟩ : ∃ s e, cOpen ts (key : Int) tag = (s, e) := ⟨_, _, rfl⟩
        rw [hs] at h h2
        simp only at h h2
        subst h2
        obtain ⟨a1, a2⟩ := tRead_enc h
        obtain ⟨b1, b2⟩ := cOpen_enc hs
        exact ⟨h1, a2, key, hk, b1, by rw [b2, a1]⟩
      · simp at h
    · simp at h
  · simp at h
theorem tOpen_dec {ts : List Bs0} {epoch tag : Int} {b : Body} {key : Nat} (h1 : nMay epoch = true) (h2 : bMay b = true) (h3 : bFind ts (65 :: eTerm epoch) = some key) (h4 : nMay (key : Int) = true) (h5 : bTerm ts tag = (83 :: (nS (key : Int) ++ nAll b.nums), 0)) : tOpen ts epoch tag = some b := by
  unfold tOpen
  rw [if_pos h1, h3]
  simp only
  rw [cOpen_dec h4 h5]
  simp only [if_true]
  exact tRead_dec h2
def tLoop (ts : List Bs0) (tag : Int) : Nat → Int → Option Body
  | 0, _ => none
  | n + 1, e => match tOpen ts e tag with
    | some b => some b
    | none => tLoop ts tag n (e - 1)
def tGet (ts : List Bs0) (now keep tag : Int) : Body × Int :=
  if nMay now = true ∧ 0 ≤ keep ∧ keep ≤ 4 then
    (match tLoop ts tag ((min now keep).toNat + 1) now with
     | some b => (b, 0)
     | none => (body0, 1501))
  else (body0, 1500)
theorem aTerm_inj {x y : Int} (hx : nMay x = true) (hy : nMay y = true) (h : 65 :: eTerm x = 65 :: eTerm y) : x = y := by
  have : nS x ++ [] = nS y ++ [] := by simpa [eTerm] using h
  exact (nS_head hx hy this).1
theorem bFind_key {ts : List Bs0} {s t : Bs0} {k : Nat} (h1 : bFind ts s = some k) (h2 : bFind ts t = some k) : s = t := by
  have a := bFind_some h1
  have b := bFind_some h2
  rw [a] at b
  exact Option.some.inj b
theorem tLoop_one {ts : List Bs0} {tag e0 : Int} {b : Body} (h : ∀ e, tOpen ts e tag = if e = e0 then some b else none) : ∀ (n : Nat) (e : Int), tLoop ts tag n e = if e0 ≤ e ∧ e - e0 < n then some b else none
  | 0, e => by
    unfold tLoop
    rw [if_neg (by omega)]
  | n + 1, e => by
    unfold tLoop
    rw [h e]
    by_cases he : e = e0
    · subst he
      rw [if_pos rfl, if_pos (by omega)]
    · rw [if_neg he]
      simp only
      rw [tLoop_one h n (e - 1)]
      by_cases h1 : e0 ≤ e - 1 ∧ e - 1 - e0 < n
      · rw [if_pos h1, if_pos (by omega)]
      · rw [if_neg h1, if_neg (by omega)]
theorem tLoop_none {ts : List Bs0} {tag : Int} (h : ∀ e, tOpen ts e tag = none) : ∀ (n : Nat) (e : Int), tLoop ts tag n e = none
  | 0, e => rfl
  | n + 1, e => by unfold tLoop; rw [h e]; exact tLoop_none h n _
/-- A ticket opens while its epoch is live, and no longer. -/
theorem tGet_live {ts : List Bs0} {e0 tag now keep : Int} {b : Body} {key : Nat} (h1 : nMay e0 = true) (h2 : bMay b = true) (h3 : bFind ts (65 :: eTerm e0) = some key) (h4 : nMay (key : Int) = true) (h5 : bTerm ts tag = (83 :: (nS (key : Int) ++ nAll b.nums), 0))
    (hn : nMay now = true) (hk : 0 ≤ keep ∧ keep ≤ 4) : tGet ts now keep tag = if e0 ≤ now ∧ now - e0 ≤ keep then (b, 0) else (body0, 1501) := by
  have ho : ∀ e, tOpen ts e tag = if e = e0 then some b else none := by
    intro e
    by_cases he : e = e0
    · subst he; rw [if_pos rfl]; exact tOpen_dec h1 h2 h3 h4 h5
    · rw [if_neg he]
      cases hc : tOpen ts e tag with
      | none => rfl
      | some c =>
        exfalso
        obtain ⟨a1, a2, k, a3, a4, a5⟩ := tOpen_enc hc
        rw [h5] at a5
        simp only [Prod.mk.injEq, List.cons.injEq, true_and, and_true] at a5
        obtain ⟨b1, b2⟩ := nS_head h4 a4 a5
        have : key = k := by omega
        subst this
        exact he (aTerm_inj a1 h1 (bFind_key a3 h3))
  unfold tGet
  rw [if_pos ⟨hn, hk.1, hk.2⟩, tLoop_one ho]
  have hn2 : 0 ≤ now ∧ now ≤ 1073741823 := by simpa [nMay] using hn
  have he2 : 0 ≤ e0 ∧ e0 ≤ 1073741823 := by simpa [nMay] using h1
  by_cases hl : e0 ≤ now ∧ now - e0 ≤ keep
  · rw [if_pos hl, if_pos ⟨hl.1, by omega⟩]
  · rw [if_neg hl, if_neg (by omega)]
theorem tGet_none {ts : List Bs0} {tag now keep : Int} (h : ∀ e, tOpen ts e tag = none) (hn : nMay now = true) (hk : 0 ≤ keep ∧ keep ≤ 4) : tGet ts now keep tag = (body0, 1501) := by
  unfold tGet
  rw [if_pos ⟨hn, hk.1, hk.2⟩, tLoop_none h]
end Go.AI
