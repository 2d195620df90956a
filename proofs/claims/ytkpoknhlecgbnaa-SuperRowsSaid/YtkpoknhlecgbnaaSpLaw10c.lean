/- SuperRows. -/
import Derived.Test.YtkpoknhlecgbnaaSpLaw10b
set_option linter.all false
namespace Go.AI
variable {A : Type} {R : Adts A}
theorem sGet_len {ts : List Bs} {s : Bs} {x : Int} (h : sGet ts s = (x, 0)) : s.length = 64 := by
  unfold sGet at h
  split at h
  · simp at h
  · split at h
    · simp at h
    · split at h
      · simp at h
      · rename_i h1
        by_cases h2 : s.length = 64
        · exact h2
        · exact absurd (.inl h2) h1
theorem sGet_mono {ts ts' : List Bs} {s : Bs} {x : Int} (hn : ts.Nodup) (hn' : ts'.Nodup) (hk : ∀ t r, bTerm ts t = (r, 0) → bTerm ts' t = (r, 0)) (h : sGet ts s = (x, 0)) : sGet ts' s = (x, 0) := by
  unfold sGet at h ⊢
  split at h
  · simp at h
  · rename_i h1
    rw [if_neg h1]
    split at h
    · simp at h
    · rename_i h2
      rw [if_neg h2]
      split at h
      · simp at h
      · rename_i h3
        rw [if_neg, h]
        rintro (h4 | h4 | h4 | h4)
        · exact h3 (.inl h4)
        · exact h3 (.inr (.inl h4))
        · cases hc : cIs ts (supT (gNum s 0).1) (gNum s (gNum s 0).2.1).1 with
          | false => exact h3 (.inr (.inr (.inl hc)))
          | true =>
            rw [(cIs_iff hn').2 (hk _ _ ((cIs_iff hn).1 hc))] at h4
            simp at h4
        · exact h3 (.inr (.inr (.inr h4)))
theorem sGet_bad {ts : List Bs} {s : Bs} (h : (gNum s 0).2.2 ≠ 0) : sGet ts s = (0, 1000) := by
  unfold sGet; rw [if_pos h]
/-- A slot: nothing yet, or a boot's sector. -/
def Slot (ts : List Bs) (s : Bs) (v : Int) : Prop := (s = [] ∧ v = 0) ∨ (1 ≤ v ∧ sGet ts s = (v, 0))
theorem Slot.len {ts : List Bs} {s : Bs} {v : Int} (h : Slot ts s v) : s.length < 1000 := by
  rcases h with ⟨rfl, _⟩ | ⟨_, h⟩
  · simp
  · have := sGet_len h; omega
theorem Slot.mono {ts ts' : List Bs} {s : Bs} {v : Int} (hn : ts.Nodup) (hn' : ts'.Nodup) (hk : ∀ t r, bTerm ts t = (r, 0) → bTerm ts' t = (r, 0)) (h : Slot ts s v) : Slot ts' s v := by
  rcases h with h | ⟨h1, h2⟩
  · exact .inl h
  · exact .inr ⟨h1, sGet_mono hn hn' hk h2⟩
section
variable {bk rbk : Int → List Bs → A}
def SRowsI (bk : Int → List Bs → A) (p n : Int) (m : Nat) (y : List AVal) (g : AHeap A) : Prop :=
  ∃ (i : Int) (ts : List Bs) (place : Nat) (a b : Bs) (u v : Int), y = [.int .i64 place, .int .i64 i] ∧ g = [.adt (bk 999 ts), .cells t_string [.str a, .str b]] ∧ bOk 999 ts ∧ ts.length ≤ i - 1 ∧ place ≤ 1 ∧
    Slot ts a u ∧ Slot ts b v ∧ (if place = 0 then u < p + i ∧ v = (if i = 1 then 0 else p + i - 1) else v < p + i ∧ u = (if i = 1 then 0 else p + i - 1)) ∧ 1 ≤ i ∧ i ≤ n + 1 ∧ m = (n + 1 - i).toNat
theorem SuperRows_ok (hR : R.Ok) (hB : HasBook R bk) (hB' : HasRBook R rbk) (many start : Int) : Tri Pr R n_law10_SuperRows [.int .i64 many, .int .i64 start] [] fun u _ => u = .bool true := by
  apply c_law10_SuperRows
  unfold p_law10_SuperRows
  refine awake10_ok hR hB hB' ?_
  simp -implicitDefEqProofs
  refine book_New_ok hR hB 999 ?_
  rw [if_pos (by omega)]
  simp -implicitDefEqProofs
  refine num14_ok ?_
  simp -implicitDefEqProofs
  rw [bits_mask many 5 (by omega) 31 (by decide), bits_mask start 8 (by omega) 255 (by decide)]
  obtain ⟨n, hn, n1, n2⟩ : ∃ n, 1 + many % 2 ^ 5 = n ∧ 1 ≤ n ∧ n ≤ 32 := ⟨_, rfl, by omega, by omega⟩
  obtain ⟨p, hp, p1, p2⟩ : ∃ n, start % 2 ^ 8 = n ∧ 0 ≤ n ∧ n ≤ 255 := ⟨_, rfl, by omega, by omega⟩
  rw [hn, hp]
  have e0 := w64 (n := n) (by omega)
  have b0 : bOk 999 [] := bOk_nil (by omega)
  simp -implicitDefEqProofs [e0]
  refine loopP_go (SRowsI bk p n) n.toNat (Gives.done (by simp) ⟨1, [], 0, [], [], 0, 0, rfl, rfl, b0, by simp, by omega, .inl ⟨rfl, rfl⟩, .inl ⟨rfl, rfl⟩, by simp; omega, by omega, by omega, by omega⟩) ?_
  rintro m y g ⟨i, ts, place, a, b, u, v, rfl, rfl, ok, tl, hpl, hu, hv, hpos, i0, i1, rfl⟩
  by_cases h1 : i ≤ n
  · have e1 := w64 (n := i + 1) (by omega)
    have e2 := w64 (n := p + i) (by omega)
    have e3 := w64 (n := p + i - 1) (by omega)
    have mb : bootMay (p + i) = true := by simp [bootMay]; omega
    obtain ⟨ts', name, k1, kn, kt, kl, kk⟩ := sPut_at (boot := p + i) ok mb (by omega)
    have ok' := bOk_put ok k1
    have gs := sGet_sec ok'.nd mb kn kt
    generalize pad (nS (p + i) ++ nS name) = s at *
    have sl := sGet_len gs
    have hu' := hu.mono ok.nd ok'.nd kk
    have hv' := hv.mono ok.nd ok'.nd kk
    have ha := hu'.len
    have hb := hv'.len
    have ht : sGet ts' [116, 111, 114, 110] = (0, 1000) := sGet_bad (by decide +kernel)
    have hnil : sGet ts' [] = (0, 1000) := sGet_bad (by decide +kernel)
    have hne : ∀ (w : Bs) (z : Int), Slot ts' w z → z < p + i → (w == s) = false := by
      intro w z hw hz
      simp
      rintro rfl
      rcases hw with ⟨rfl, _⟩ | ⟨_, h2⟩
      · simp at sl
      · rw [gs] at h2; simp at h2; omega
    have hfst : ∀ (w : Bs) (z : Int), Slot ts' w z → (z = 0 ∧ sGet ts' w = (0, 1000)) ∨ (1 ≤ z ∧ sGet ts' w = (z, 0)) := by
      intro w z hw
      rcases hw with ⟨rfl, rfl⟩ | h
      · exact .inl ⟨rfl, hnil⟩
      · exact .inr h
    rcases (by omega : place = 0 ∨ place = 1) with rfl | rfl
    · simp only [if_true] at hpos
      obtain ⟨hpu, hpv⟩ := hpos
      have has := hne a u hu' hpu
      have pk1 : sPick ts' [116, 111, 114, 110] b = if i = 1 then (0, 0, 1001) else (p + i - 1, 0, 0) := by
        unfold sPick
        rw [ht]
        by_cases h : i = 1
        · rw [if_pos h] at hpv ⊢
          rcases hfst b v hv' with ⟨_, h2⟩ | ⟨h2, _⟩
          · rw [h2]; simp
          · omega
        · rw [if_neg h] at hpv ⊢
          rcases hfst b v hv' with ⟨h2, _⟩ | ⟨_, h2⟩
          · omega
          · rw [h2]; simp [hpv]
      have pk2 : sPick ts' s b = (p + i, 1, 0) := by
        unfold sPick
        rw [gs]
        have : (sGet ts' b).1 ≤ p + i := by
          rcases hfst b v hv' with ⟨_, h2⟩ | ⟨_, h2⟩ <;> rw [h2] <;> simp only
          · omega
          · split at hpv <;> omega
        simp [this]
      have fin : Gives Pr R 2 [.adt (bk 999 ts'), .cells t_string [.str s, .str b]] [.int .i64 1, .int .i64 (i + 1)] fun z k => ∃ m', m' < (n + 1 - i).toNat ∧ SRowsI bk p n m' z k :=
        Gives.done (by simp) ⟨(n + 1 - (i + 1)).toNat, by omega, i + 1, ts', 1, s, b, p + i, v, rfl, rfl, ok', by omega, by omega, .inr ⟨by omega, gs⟩, hv', by
          rw [if_neg (by omega), if_neg (by omega)]
          refine ⟨?_, by omega⟩
          split at hpv <;> omega, by omega, by omega, rfl⟩
      simp -implicitDefEqProofs [h1, e2]
      refine SPut_at hR hB ok k1 rfl ?_
      simp -implicitDefEqProofs
      refine num14_ok ?_
      simp -implicitDefEqProofs
      by_cases h : i = 1
      · subst h
        rw [if_pos rfl] at pk1
        refine SPick_at hR hB (by decide) hb pk1 rfl ?_
        simp -implicitDefEqProofs
        refine num14_ok ?_
        simp -implicitDefEqProofs [has]
        refine SPick_at hR hB (by omega) hb pk2 rfl ?_
        simp -implicitDefEqProofs
        refine num14_ok ?_
        simp -implicitDefEqProofs [e2]
        simpa using fin
      · rw [if_neg h] at pk1
        have h' : (i == 1) = false := by simpa using h
        have h'' : 1 < i := by omega
        refine SPick_at hR hB (by decide) hb pk1 rfl ?_
        simp -implicitDefEqProofs [h', h'']
        refine num14_ok ?_
        simp -implicitDefEqProofs [has, e2, e3, h', h'']
        refine SPick_at hR hB (by omega) hb pk2 rfl ?_
        simp -implicitDefEqProofs
        refine num14_ok ?_
        simp -implicitDefEqProofs [e1, e2]
        simpa using fin
    · simp only [show ¬ (1 = 0) by omega, if_false] at hpos
      obtain ⟨hpu, hpv⟩ := hpos
      have hbs := hne b v hv' hpu
      have pk1 : sPick ts' a [116, 111, 114, 110] = if i = 1 then (0, 0, 1001) else (p + i - 1, 1, 0) := by
        unfold sPick
        rw [ht]
        by_cases h : i = 1
        · rw [if_pos h] at hpv ⊢
          rcases hfst a u hu' with ⟨_, h2⟩ | ⟨h2, _⟩
          · rw [h2]; simp
          · omega
        · rw [if_neg h] at hpv ⊢
          rcases hfst a u hu' with ⟨h2, _⟩ | ⟨h3, h2⟩
          · omega
          · rw [h2]; simp [hpv]; omega
      have pk2 : sPick ts' a s = (p + i, 0, 0) := by
        unfold sPick
        rw [gs]
        rcases hfst a u hu' with ⟨_, h2⟩ | ⟨_, h2⟩
        · rw [h2]; simp
        · have : ¬ p + i ≤ u := by split at hpv <;> omega
          rw [h2]; simp [this]
      have fin : Gives Pr R 2 [.adt (bk 999 ts'), .cells t_string [.str a, .str s]] [.int .i64 0, .int .i64 (i + 1)] fun z k => ∃ m', m' < (n + 1 - i).toNat ∧ SRowsI bk p n m' z k :=
        Gives.done (by simp) ⟨(n + 1 - (i + 1)).toNat, by omega, i + 1, ts', 0, a, s, u, p + i, rfl, rfl, ok', by omega, by omega, hu', .inr ⟨by omega, gs⟩, by
          rw [if_pos rfl, if_neg (by omega)]
          refine ⟨?_, by omega⟩
          split at hpv <;> omega, by omega, by omega, rfl⟩
      simp -implicitDefEqProofs [h1, e2]
      refine SPut_at hR hB ok k1 rfl ?_
      simp -implicitDefEqProofs
      refine num14_ok ?_
      simp -implicitDefEqProofs
      by_cases h : i = 1
      · subst h
        rw [if_pos rfl] at pk1
        refine SPick_at hR hB ha (by decide) pk1 rfl ?_
        simp -implicitDefEqProofs
        refine num14_ok ?_
        simp -implicitDefEqProofs [hbs]
        refine SPick_at hR hB ha (by omega) pk2 rfl ?_
        simp -implicitDefEqProofs
        refine num14_ok ?_
        simp -implicitDefEqProofs [e2]
        simpa using fin
      · rw [if_neg h] at pk1
        have h' : (i == 1) = false := by simpa using h
        have h'' : 1 < i := by omega
        refine SPick_at hR hB ha (by decide) pk1 rfl ?_
        simp -implicitDefEqProofs [h', h'']
        refine num14_ok ?_
        simp -implicitDefEqProofs [hbs, e2, e3, h', h'']
        refine SPick_at hR hB ha (by omega) pk2 rfl ?_
        simp -implicitDefEqProofs
        refine num14_ok ?_
        simp -implicitDefEqProofs [e1, e2]
        simpa using fin
  · simp -implicitDefEqProofs [h1]
end
end Go.AI
