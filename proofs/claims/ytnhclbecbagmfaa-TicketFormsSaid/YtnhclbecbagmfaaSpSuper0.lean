/- The boot's sectors, plainly. -/
import Derived.Test.YtnhclbecbagmfaaSpField0
import Derived.Test.YtnhclbecbagmfaaSpTotp
set_option linter.all false
namespace Go.AI
def pad (s : Bs) : Bs := s ++ List.replicate (64 - s.length) 0
theorem pad_len {s : Bs} (h : s.length ≤ 64) : (pad s).length = 64 := by simp [pad]; omega
def supT (boot : Int) : Bs := 72 :: 115 :: 117 :: 112 :: 101 :: 114 :: nS boot
theorem supT_len (x : Int) : (supT x).length ≤ 11 := by have := nS_len x; simp [supT]; omega
def bootMay (x : Int) : Bool := decide (1 ≤ x ∧ x ≤ 1023)
theorem bootMay_num {x : Int} (h : bootMay x = true) : nMay x = true := by
  have : 1 ≤ x ∧ x ≤ 1023 := by simpa [bootMay] using h
  simp [nMay]; omega
/-- A boot is written: the terms behind it, the sector, the error. -/
def sPut (m : Int) (ts : List Bs) (boot : Int) : List Bs × Bs × Int :=
  if bootMay boot = true then (if (cMade m ts (supT boot)).2.2 = 0 then ((cMade m ts (supT boot)).1, pad (nS boot ++ nS (cMade m ts (supT boot)).2.1), 0) else ((cMade m ts (supT boot)).1, [], 1000)) else (ts, [], 1000)
theorem sPut_ok {m : Int} {ts : List Bs} {boot : Int} (h : bOk m ts) : bOk m (sPut m ts boot).1 := by
  unfold sPut; split
  · split <;> exact cMade_ok h
  · exact h
/-- A boot is read. -/
def sGet (ts : List Bs) (s : Bs) : Int × Int :=
  if (gNum s 0).2.2 ≠ 0 then (0, 1000)
  else if (gNum s (gNum s 0).2.1).2.2 ≠ 0 then (0, 1000)
  else if s.length ≠ 64 ∨ bootMay (gNum s 0).1 = false ∨ cIs ts (supT (gNum s 0).1) (gNum s (gNum s 0).2.1).1 = false ∨ s.drop (gNum s (gNum s 0).2.1).2.1.toNat ≠ List.replicate (64 - (gNum s (gNum s 0).2.1).2.1.toNat) 0 then (0, 1000)
  else ((gNum s 0).1, 0)
def sPick (ts : List Bs) (one two : Bs) : Int × Int × Int :=
  if (sGet ts one).2 ≠ 0 ∧ (sGet ts two).2 ≠ 0 then (0, 0, 1001)
  else if (sGet ts one).2 = 0 ∧ (sGet ts two).1 ≤ (sGet ts one).1 then ((sGet ts one).1, 1, 0)
  else ((sGet ts two).1, 0, 0)
theorem sGet_err (ts : List Bs) (s : Bs) : ((sGet ts s).2 = 0 ∨ (sGet ts s).2 = 1000) ∧ ((sGet ts s).2 ≠ 0 → (sGet ts s).1 = 0) ∧ ((sGet ts s).2 = 0 → 1 ≤ (sGet ts s).1 ∧ (sGet ts s).1 ≤ 1023) := by
  unfold sGet
  split
  · simp
  · split
    · simp
    · split
      · simp
      · rename_i h
        have h2 : ¬ bootMay (gNum s 0).1 = false := fun h3 => h (.inr (.inl h3))
        have : 1 ≤ (gNum s 0).1 ∧ (gNum s 0).1 ≤ 1023 := by simpa [bootMay] using h2
        simp; exact this
/-- What was written is read. -/
theorem sGet_sec {ts : List Bs} (hn : ts.Nodup) {boot name : Int} (h1 : bootMay boot = true) (h2 : nMay name = true) (h3 : bTerm ts name = (supT boot, 0)) : sGet ts (pad (nS boot ++ nS name)) = (boot, 0) := by
  have hb := bootMay_num h1
  have eb : nS boot = nE boot := by simp [nS, hb]
  have en : nS name = nE name := by simp [nS, h2]
  have l1 := (nE_len boot).1
  have l2 := (nE_len name).1
  have g1 : gNum (pad (nS boot ++ nS name)) 0 = (boot, ((nE boot).length : Int), 0) := by
    have := gNum_dec hb [] (nS name ++ List.replicate (64 - (nS boot ++ nS name).length) 0)
    rw [pad, eb]
    rw [eb] at this
    simpa using this
  have g2 : gNum (pad (nS boot ++ nS name)) ((nE boot).length : Int) = (name, ((nE boot).length : Int) + (nE name).length, 0) := by
    have := gNum_dec h2 (nE boot) (List.replicate (64 - (nS boot ++ nS name).length) 0)
    rw [pad, eb, en]
    rw [eb, en] at this
    simpa using this
  have hlen : (pad (nS boot ++ nS name)).length = 64 := pad_len (by rw [eb, en]; simp; omega)
  unfold sGet
  rw [g1]
  simp only
  rw [g2]
  simp only [ne_eq, not_true_eq_false, if_false, hlen, h1, false_or]
  have e2 : (pad (nS boot ++ nS name)).drop (((nE boot).length : Int) + (nE name).length).toNat = List.replicate (64 - (((nE boot).length : Int) + (nE name).length).toNat) 0 := by
    rw [show (((nE boot).length : Int) + (nE name).length).toNat = (nE boot ++ nE name).length by simp; omega, pad, eb, en, List.drop_left]
  rw [if_neg]
  rintro (h | h | h)
  · simp at h
  · rw [(cIs_iff hn).2 h3] at h; simp at h
  · exact h e2
theorem sPut_at {m : Int} {ts : List Bs} {boot : Int} (hok : bOk m ts) (hb : bootMay boot = true) (hm : (ts.length : Int) < m) :
    ∃ (ts' : List Bs) (name : Int), sPut m ts boot = (ts', pad (nS boot ++ nS name), 0) ∧ nMay name = true ∧ bTerm ts' name = (supT boot, 0) ∧ ts'.length ≤ ts.length + 1 ∧ (∀ t r, bTerm ts t = (r, 0) → bTerm ts' t = (r, 0)) := by
  have hmost := hok.most
  have hl := supT_len boot
  have hT : supT boot ≠ [] := by simp [supT]
  by_cases h : supT boot ∈ ts
  · obtain ⟨i, h1, h2, h3⟩ := bFind_mem h
    have k := cMade_old (m := m) hT (by omega) h1
    have hlen := hok.len
    exact ⟨ts, i, by rw [sPut, if_pos hb, k]; rfl, by simp [nMay]; omega, bTerm_get h3, by omega, fun _ _ h => h⟩
  · have k := cMade_new (m := m) hT (by omega) h hm
    exact ⟨_, ts.length, by rw [sPut, if_pos hb, k]; rfl, by simp [nMay]; omega, bTerm_get (by simp), by simp, fun _ _ h => bTerm_app _ h⟩
theorem sPut_bad {m : Int} {ts : List Bs} {boot : Int} (hb : bootMay boot = false) : sPut m ts boot = (ts, [], 1000) := by simp [sPut, hb]
end Go.AI
