/- Codes by time. -/
import Derived.Test.YtnhclbecbagmfaaSpLaw3d
set_option linter.all false
namespace Go.AI
variable {A : Type} {R : Adts A}
def tMay (x : Int) : Bool := decide (0 ≤ x ∧ x ≤ 1048575)
/-- A tick's step. -/
def tStep (x : Int) : Int := if 0 ≤ x ∧ x ≤ 1048575 then x / 30 + 1 else 0
theorem tStep_le (x : Int) : 0 ≤ tStep x ∧ tStep x ≤ 34953 := by unfold tStep; split <;> omega
def cTerm (x : Int) : Bs := 99 :: 111 :: 100 :: 101 :: nS x
theorem cTerm_len (x : Int) : (cTerm x).length ≤ 9 := by have := nS_len x; simp [cTerm]; omega
theorem cTerm_inj {x y : Int} (hx : nMay x = true) (hy : nMay y = true) (h : cTerm x = cTerm y) : x = y := by
  refine nE_inj hx hy ?_
  simpa [cTerm, nS, hx, hy] using h
/-- A step's code. -/
def tCode (m : Int) (ts : List Bs) (secret step : Int) : List Bs × Int × Int :=
  if 1 ≤ step ∧ step ≤ 1048575 then (if (cKey m ts 77 secret (cTerm step)).2.2 = 0 then cKey m ts 77 secret (cTerm step) else ((cKey m ts 77 secret (cTerm step)).1, 0, 1200)) else (ts, 0, 1200)
theorem tCode_ok {m : Int} {ts : List Bs} {secret step : Int} (h : bOk m ts) : bOk m (tCode m ts secret step).1 := by
  unfold tCode; split
  · split <;> exact cKey_ok h
  · exact h
/-- The least step that is right. -/
def tTry (f : Int → Bool) (last e : Int) : Nat → Int → Int × Bool
  | 0, _ => (0, false)
  | n + 1, s => if last < s ∧ f s = true then (s, true) else tTry f last e n (s + 1)
def tAccept (f : Int → Bool) (last tick : Int) : Int × Bool :=
  if tStep tick = 0 then (0, false) else tTry f last (tStep tick + 1) (tStep tick + 2 - max 1 (tStep tick - 1)).toNat (max 1 (tStep tick - 1))
theorem tTry_one {f : Int → Bool} {last e s : Int} : ∀ (n : Nat) (s0 : Int), (n : Int) = e + 1 - s0 → (∀ x, s0 ≤ x → x ≤ e → (f x = true ↔ x = s)) → tTry f last e n s0 = if s0 ≤ s ∧ s ≤ e ∧ last < s then (s, true) else (0, false)
  | 0, s0, hn, hf => by rw [if_neg (by omega)]; rfl
  | n + 1, s0, hn, hf => by
    have ih := tTry_one (f := f) (last := last) (e := e) (s := s) n (s0 + 1) (by omega) (fun x h1 h2 => hf x (by omega) h2)
    rw [tTry]
    by_cases h1 : last < s0 ∧ f s0 = true
    · have := (hf s0 (by omega) (by omega)).1 h1.2
      subst this
      rw [if_pos h1, if_pos (by omega)]
    · rw [if_neg h1, ih]
      by_cases h2 : s = s0
      · have h3 : f s0 = true := (hf s0 (by omega) (by omega)).2 h2.symm
        rw [if_neg (by omega), if_neg]
        rintro ⟨_, _, h4⟩
        exact h1 ⟨by omega, h3⟩
      · by_cases h3 : s0 + 1 ≤ s ∧ s ≤ e ∧ last < s
        · rw [if_pos h3, if_pos (by omega)]
        · rw [if_neg h3, if_neg (by omega)]
theorem tTry_none {f : Int → Bool} {last e : Int} : ∀ (n : Nat) (s0 : Int), (∀ x, f x = false) → tTry f last e n s0 = (0, false)
  | 0, _, _ => rfl
  | n + 1, s0, hf => by rw [tTry, if_neg (by simp [hf]), tTry_none n _ hf]
section
variable {mk : Int → List Bs → A}
theorem bOk_code {m : Int} {ts r : List Bs} {secret step n e : Int} (h : bOk m ts) (he : tCode m ts secret step = (r, n, e)) : bOk m r := by
  have := tCode_ok (secret := secret) (step := step) h
  rwa [he] at this
end
theorem bTerm_iff {ts : List Bs} {x : Int} {r : Bs} : bTerm ts x = (r, 0) ↔ ∃ i : Nat, x = i ∧ ts[i]? = some r := by
  constructor
  · intro h
    unfold bTerm at h
    split at h
    · rename_i h1
      refine ⟨x.toNat, by omega, ?_⟩
      have h2 : x.toNat < ts.length := by omega
      simp [h2] at h
      rw [List.getElem?_eq_getElem h2, h]
    · simp at h
  · rintro ⟨i, rfl, h⟩; exact bTerm_get h
theorem bFind_some {ts : List Bs} {u : Bs} {i : Nat} (h : bFind ts u = some i) : ts[i]? = some u := by
  obtain ⟨h1, h2, _⟩ := List.idxOf?_eq_some_iff.1 h
  rw [List.getElem?_eq_getElem h1]; simpa using h2
theorem nd_get {ts : List Bs} (hn : ts.Nodup) {i j : Nat} {r : Bs} (h1 : ts[i]? = some r) (h2 : ts[j]? = some r) : i = j := by
  obtain ⟨a1, a2⟩ := List.getElem?_eq_some_iff.1 h1
  obtain ⟨b1, b2⟩ := List.getElem?_eq_some_iff.1 h2
  exact (List.getElem_inj hn).1 (a2.trans b2.symm)
theorem cIs_iff {ts : List Bs} (hn : ts.Nodup) {r : Bs} {x : Int} : cIs ts r x = true ↔ bTerm ts x = (r, 0) := by
  rw [bTerm_iff]
  unfold cIs
  constructor
  · intro h
    cases hf : bFind ts r with
    | none => simp [hf] at h
    | some i => simp [hf] at h; exact ⟨i, h.symm, bFind_some hf⟩
  · rintro ⟨i, rfl, h⟩
    obtain ⟨j, h1, _, h2⟩ := bFind_mem (List.mem_of_getElem? h)
    have := nd_get hn h h2
    subst this
    simp [h1]
end Go.AI
