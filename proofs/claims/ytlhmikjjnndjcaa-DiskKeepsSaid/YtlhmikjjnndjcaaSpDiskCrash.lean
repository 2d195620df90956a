/- A disk crashes. -/
import Derived.Test.YtlhmikjjnndjcaaSpDiskNew
import Derived.Test.YtlhmikjjnndjcaaSpBits
set_option linter.all false
namespace Go.AI
variable {A : Type} {R : Adts A}
/-- Is a write kept? -/
def dKeep (mask : Int) (i : Nat) : Bool := decide (i < 30) && decide (mask / 2 ^ i % 2 = 1)
/-- A write that is torn. -/
def dPiece (torn : Int) (s old : Bs) : Bs := s.take (min torn.toNat 64) ++ old.drop (min torn.toNat 64)
/-- What is kept behind the first writes; was none lost yet? -/
def dCr (mask torn : Int) (k : List Bs) (w : Ws) : Nat → List Bs × Bool
  | 0 => (k, true)
  | i + 1 =>
    let s := dCr mask torn k w i
    let a := w.getD i (0, [])
    if dKeep mask i = true then (s.1.set a.1.toNat a.2, s.2) else if s.2 = true then (s.1.set a.1.toNat (dPiece torn a.2 (s.1.getD a.1.toNat [])), false) else s
theorem dCr_len (mask torn : Int) (k : List Bs) (w : Ws) : ∀ i, (dCr mask torn k w i).1.length = k.length
  | 0 => rfl
  | i + 1 => by
    have := dCr_len mask torn k w i
    simp only [dCr]
    split
    · simp [this]
    · split <;> simp [this]
theorem dCr_full {mask torn : Int} {k : List Bs} {w : Ws} (h : dOk k w) (ht : 0 ≤ torn) : ∀ i, i ≤ w.length → ∀ s ∈ (dCr mask torn k w i).1, s.length = 64
  | 0, _ => h.full
  | i + 1, hi => by
    have ih := dCr_full (mask := mask) h ht i (by omega)
    have hl := dCr_len mask torn k w i
    have hg : w.getD i (0, []) = w[i] := by simp [List.getD_eq_getElem?_getD, List.getElem?_eq_getElem (show i < w.length by omega)]
    obtain ⟨q0, q1, q2⟩ := h.wait w[i] (List.getElem_mem _)
    simp only [dCr, hg]
    split
    · intro s hs
      rcases List.mem_or_eq_of_mem_set hs with h1 | h1
      · exact ih s h1
      · rw [h1]; exact q2
    · split
      · intro s hs
        rcases List.mem_or_eq_of_mem_set hs with h1 | h1
        · exact ih s h1
        · have hlt : w[i].1.toNat < (dCr mask torn k w i).1.length := by omega
          have h2 := ih _ (List.getElem_mem hlt)
          rw [h1, dPiece, List.getD_eq_getElem?_getD, List.getElem?_eq_getElem hlt]
          simp [q2, h2]; omega
      · exact ih
def dLost (mask torn : Int) (k : List Bs) (w : Ws) : List Bs := (dCr mask torn k w w.length).1
section disk
variable {mk : List Bs → Ws → Bool → A}
theorem disk_Crash_ok (hR : R.Ok) (hB : HasDisk R mk) {k : List Bs} {w : Ws} {d : Bool} (hok : dOk k w) (hw : w.length ≤ 1000) (mask torn : Int) {h : AHeap A} {b : Nat} (hb : h[b]? = some (.adt (mk k w d))) {K : AVal → AHeap A → Prop}
    (hk : if d = true then K (.int .i64 801) h else if mask < 0 ∨ torn < 0 then K (.int .i64 800) h else K (.int .i64 0) (h.set b (.adt (mk (dLost mask torn k w) [] true)))) : Tri Pr R n_disk_Disk_Crash [.ptr b 0, .int .i64 mask, .int .i64 torn] h K := by
  refine Tri.own hR (as2 := [.ptr 0 0, .int .i64 mask, .int .i64 torn]) (Q := fun v o => if d = true then v = .int .i64 801 ∧ o = .adt (mk k w d) else if mask < 0 ∨ torn < 0 then v = .int .i64 800 ∧ o = .adt (mk k w d) else v = .int .i64 0 ∧ o = .adt (mk (dLost mask torn k w) [] true)) rfl (disk_ix hB _ _ _ _) ?_ (disk_ren hB _ _ _) ?_ hb (by simp [rens, AVal.ren]) ?_
  · intro v o hq
    split at hq
    · obtain ⟨rfl, rfl⟩ := hq; exact ⟨rfl, disk_ren hB _ _ _⟩
    · split at hq <;> (obtain ⟨rfl, rfl⟩ := hq; exact ⟨rfl, disk_ren hB _ _ _⟩)
  · refine Tri.post (Tri.pre (Gives.opened 0 rfl (by simp) fun g hg => ?_))
    obtain rfl := (hB.lay _ _ _ _).1 hg
    refine Gives.done (by simp) ?_
    apply c_disk_Disk_Crash
    unfold p_disk_Disk_Crash
    by_cases h0 : w = []
    · subst h0
      cases d with
      | true =>
        simp [diskG, GC.at]
        exact disk_shut0 hR hB 1 _ rfl rfl rfl (by omega) rfl ⟨_, rfl, _, ⟨rfl, rfl⟩, rfl⟩
      | false =>
        by_cases hm : mask < 0 ∨ torn < 0
        · by_cases hm1 : mask < 0
          · simp [diskG, GC.at, hm1]
            exact disk_shut0 hR hB 1 _ rfl rfl rfl (by omega) rfl ⟨_, rfl, _, ⟨rfl, rfl⟩, rfl⟩
          · have hm2 : torn < 0 := by omega
            simp [diskG, GC.at, hm1, hm2]
            exact disk_shut0 hR hB 1 _ rfl rfl rfl (by omega) rfl ⟨_, rfl, _, ⟨rfl, rfl⟩, rfl⟩
        · have m1 : ¬ mask < 0 := by omega
          have m2 : ¬ torn < 0 := by omega
          simp [diskG, GC.at, m1, m2]
          refine loopP_unr 1 ?_
          rw [unr]
          simp
          exact disk_shut0 hR hB 1 _ rfl rfl rfl (by omega) rfl ⟨_, rfl, _, ⟨rfl, rfl⟩, rfl⟩
    · cases d with
      | true =>
        simp [diskG, GC.at, h0]
        exact disk_shut hR hB h0 1 2 _ _ rfl rfl rfl rfl rfl (by omega) rfl ⟨_, rfl, _, ⟨rfl, rfl⟩, rfl⟩
      | false =>
        by_cases hm : mask < 0 ∨ torn < 0
        · by_cases hm1 : mask < 0
          · simp [diskG, GC.at, h0, hm1]
            exact disk_shut hR hB h0 1 2 _ _ rfl rfl rfl rfl rfl (by omega) rfl ⟨_, rfl, _, ⟨rfl, rfl⟩, rfl⟩
          · have hm2 : torn < 0 := by omega
            simp [diskG, GC.at, h0, hm1, hm2]
            exact disk_shut hR hB h0 1 2 _ _ rfl rfl rfl rfl rfl (by omega) rfl ⟨_, rfl, _, ⟨rfl, rfl⟩, rfl⟩
        · have m1 : ¬ mask < 0 := by omega
          have m2 : ¬ torn < 0 := by omega
          simp [diskG, GC.at, h0, m1, m2]
          refine loopP_go (fun m y g => ∃ i : Nat, y = [.bool (dCr mask torn k w i).2, .int .i64 i] ∧ g = [.cells t_disk_Disk [.sl 1 0 k.length k.length true, .sl 2 0 w.length w.length false, .bool false], .cells t_string ((dCr mask torn k w i).1.map .str), .cells t_disk_write (wCells w)] ∧ i ≤ w.length ∧ m = w.length - i) w.length
            (Gives.done (by simp) ⟨0, by simp [dCr], by simp [dCr], by omega, by omega⟩) ?_
          rintro m y g ⟨i, rfl, rfl, hi, rfl⟩
          simp
          refine iteP_of (fun h1 => ?_) (fun h1 => ?_)
          · simp at h1
            have e1 := w64 (n := (i : Int) + 1) (by omega)
            have hwc := wCells_at w i h1
            have hwl := wCells_len w
            have hle : i * 2 + 2 ≤ (wCells w).length := by omega
            obtain ⟨q0, q1, q2⟩ := hok.wait w[i] (List.getElem_mem h1)
            have hg : w.getD i (0, []) = w[i] := by simp [List.getD_eq_getElem?_getD, h1]
            have hdl := dCr_len mask torn k w i
            have hfl := dCr_full (mask := mask) hok (by omega : 0 ≤ torn) i hi
            have hlt : w[i].1.toNat < (dCr mask torn k w i).1.length := by omega
            have hol := hfl _ (List.getElem_mem hlt)
            have hso := fun (g : AHeap A) (s : Bs) => setO_one g 1 w[i].1.toNat (.str s) t_string ((dCr mask torn k w i).1.map .str) rfl (by simp; omega)
            have hnx : dCr mask torn k w (i + 1) = if dKeep mask i = true then ((dCr mask torn k w i).1.set w[i].1.toNat w[i].2, (dCr mask torn k w i).2) else if (dCr mask torn k w i).2 = true then ((dCr mask torn k w i).1.set w[i].1.toNat (dPiece torn w[i].2 ((dCr mask torn k w i).1.getD w[i].1.toNat [])), false) else dCr mask torn k w i := by rw [dCr, hg]
            have fin : ∀ (o : AObj A) (k' : List Bs) (f : Bool), dCr mask torn k w (i + 1) = (k', f) → Gives Pr R 3 [.cells t_disk_Disk [.sl 1 0 k.length k.length true, .sl 2 0 w.length w.length false, .bool false], .cells t_string (k'.map .str), .cells t_disk_write (wCells w), o] [.bool f, .int .i64 ((i : Int) + 1)] fun y g => ∃ m', m' < w.length - i ∧ ∃ i : Nat, y = [.bool (dCr mask torn k w i).2, .int .i64 i] ∧ g = [.cells t_disk_Disk [.sl 1 0 k.length k.length true, .sl 2 0 w.length w.length false, .bool false], .cells t_string ((dCr mask torn k w i).1.map .str), .cells t_disk_write (wCells w)] ∧ i ≤ w.length ∧ m' = w.length - i := by
              intro o k' f he
              refine Gives.cut hR (m := 3) (by omega) (by simp) rfl (by simp; exact ⟨low_cells rfl, low_cells (strs_ix _ _), low_cells (wCells_ix _ _)⟩) ?_
              exact ⟨w.length - (i + 1), by omega, i + 1, by simp [he], by simp [he], by omega, rfl⟩
            refine joinP_go ?_
            obtain ⟨c, hc, hcl⟩ : ∃ c : Nat, (if (w[i].2.length : Int) < torn then (w[i].2.length : Int) else torn) = (c : Int) ∧ c = min torn.toNat 64 := ⟨_, by split <;> omega, rfl⟩
            have hc1 : c ≤ 64 := by omega
            have hc2 : (c : Int) ≤ 64 := by omega
            have hmin : min c 64 = c := by omega
            have hadd : c + (64 - c) < 9223372036854775808 := by omega
            simp [h1, hwc, hle, q0, q1, e1, hso, hc, hlt, List.getElem?_eq_getElem hlt]
            have hbit := bits_and1 (mask.fdiv (2 ^ min i IntKind.i64.bits))
            by_cases h2 : i < 30
            · have h2' : (i : Int) < 30 := by omega
              have hb2 : mask.fdiv (2 ^ min i IntKind.i64.bits) % 2 = mask / 2 ^ i % 2 := by
                rw [show min i IntKind.i64.bits = i from Nat.min_eq_left (by show i ≤ 64; omega), Int.fdiv_eq_ediv_of_nonneg _ (Int.le_of_lt (Int.pow_pos (by omega)))]
              rw [hb2] at hbit
              by_cases h3 : mask / 2 ^ i % 2 = 1
              · simp [h2', hbit, h3]
                have := fin (AObj.cells t_disk_write [.int .i64 w[i].1, .str w[i].2]) _ _ (by rw [hnx, if_pos (by simp [dKeep, h2, h3])])
                simpa using this
              · have h3' : (mask / 2 ^ i % 2 == 1) = false := by simp [h3]
                rw [if_neg (by simp [dKeep, h2, h3])] at hnx
                cases hf : (dCr mask torn k w i).2 with
                | true =>
                  simp [h2', hbit, h3', q2, hol, hc1, hc2, hmin, hadd, hso]
                  have := fin (AObj.cells t_disk_write [.int .i64 w[i].1, .str w[i].2]) _ _ (by rw [hnx, if_pos hf])
                  simpa [dPiece, hcl, hlt] using this
                | false =>
                  simp [h2', hbit, h3']
                  have := fin (AObj.cells t_disk_write [.int .i64 w[i].1, .str w[i].2]) _ false (by rw [hnx, if_neg (by simp [hf]), ← hf])
                  simpa using this
            · have h2' : ¬ (i : Int) < 30 := by omega
              rw [if_neg (by simp [dKeep, h2])] at hnx
              cases hf : (dCr mask torn k w i).2 with
              | true =>
                simp [h2', q2, hol, hc1, hc2, hmin, hadd, hso]
                have := fin (AObj.cells t_disk_write [.int .i64 w[i].1, .str w[i].2]) _ _ (by rw [hnx, if_pos hf])
                simpa [dPiece, hcl, hlt] using this
              | false =>
                simp [h2']
                have := fin (AObj.cells t_disk_write [.int .i64 w[i].1, .str w[i].2]) _ false (by rw [hnx, if_neg (by simp [hf]), ← hf])
                simpa using this
          · simp at h1
            obtain rfl : i = w.length := by omega
            exact disk_shut0 hR hB 1 _ (dCr_len mask torn k w _).symm rfl rfl (by omega) rfl ⟨_, rfl, _, ⟨rfl, rfl⟩, rfl⟩
  · intro v o hq
    cases d with
    | true => simp at hq hk; obtain ⟨rfl, rfl⟩ := hq; rw [set_same hb]; exact hk
    | false =>
      simp at hq hk
      by_cases hm : mask < 0 ∨ torn < 0
      · rw [if_pos hm] at hq hk; obtain ⟨rfl, rfl⟩ := hq; rw [set_same hb]; exact hk
      · rw [if_neg hm] at hq hk; obtain ⟨rfl, rfl⟩ := hq; exact hk
end disk
end Go.AI
