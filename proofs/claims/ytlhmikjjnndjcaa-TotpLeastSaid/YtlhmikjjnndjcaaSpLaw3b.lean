/- CraftForms, CraftUnlike. -/
import Derived.Test.YtlhmikjjnndjcaaSpLaw3
set_option linter.all false
namespace Go.AI
variable {A : Type} {R : Adts A}
def zCells (n : Nat) : List AVal := (List.replicate n [AVal.int .u8 0]).flatten
theorem zCells_eq (n : Nat) : zCells n = List.replicate n (.int .u8 0) := by
  unfold zCells
  induction n with
  | zero => rfl
  | succ n ih => rw [List.replicate_succ, List.flatten_cons, ih]; rfl
theorem zCells_bytes : ∀ n : Nat, (List.replicate n (AVal.int .u8 0)).mapM byteOf = some (List.replicate n 0)
  | 0 => rfl
  | n + 1 => by
    rw [List.replicate_succ, List.mapM_cons, zCells_bytes n]; rfl
theorem zCells_low {t : TypeId} {n m : Nat} : AObj.low R m (.cells t (zCells n) : AObj A) := low_cells (by rw [zCells_eq]; simp [ixs_all, AVal.ix])
/-- So many zeros as a text. -/
theorem mkz_ok {t : TypeId} {n : Int} (hn : 0 ≤ n ∧ n ≤ 140737488355328) {h : AHeap A} {K : AVal → AHeap A → Prop} (hk : K (.str (List.replicate n.toNat 0)) (h ++ [.cells t (zCells n.toNat)])) :
    mkslP t 1 1 [.int .u8 0] (.int .i64 n) (.int .i64 n) h fun v h => b2sP v h fun u => K u h := by
  unfold mkslP
  dsimp only
  rw [if_pos ⟨hn.1, by omega, by omega, by omega, rfl⟩]
  unfold b2sP
  dsimp only
  have e : cellsAt (h ++ [.cells t (List.replicate n.toNat [AVal.int .u8 0]).flatten]) h.length = some (zCells n.toNat) := by simp [cellsAt, AObj.read, zCells]
  simp only [e]
  rw [zCells_eq, if_pos (by simp)]
  simp only [List.drop_zero]
  rw [List.take_of_length_le (by simp), zCells_bytes]
  exact hk
theorem mkz_any {t : TypeId} {n : Int} (hn : 0 ≤ n ∧ n ≤ 140737488355328) {h : AHeap A} {K : AVal → AHeap A → Prop} (hk : ∀ (z : Bs) (o : AObj A), (z.length : Int) = n → (∀ m, AObj.low R m o) → K (.str z) (h ++ [o])) :
    mkslP t 1 1 [.int .u8 0] (.int .i64 n) (.int .i64 n) h fun v h => b2sP v h fun u => K u h :=
  mkz_ok hn (hk _ _ (by rw [List.length_replicate]; omega) fun _ => zCells_low)
def ErrJ (v : Int) (o : AHeap A) (vs : List AVal) (g : AHeap A) : Prop := vs = [.int .i64 v] ∧ g = o
theorem cKey_bad {m : Int} {ts : List Bs} {k : UInt8} {key : Int} {s : Bs} (h : nMay key = false) : cKey m ts k key s = (ts, 0, 300) := by simp [cKey, h]
theorem cOpen_none {ts : List Bs} {key tag : Int} (h : (ts.length : Int) ≤ tag) : cOpen ts key tag = ([], 301) := by
  unfold cOpen bTerm
  rw [if_neg (show ¬ (0 ≤ tag ∧ tag < ts.length) by omega)]
  simp
theorem cOpen_bad {ts : List Bs} {key tag : Int} (h : nMay key = false) : cOpen ts key tag = ([], 301) := by simp [cOpen, h]
theorem cIsMac_bad {ts : List Bs} {key tag : Int} {s : Bs} (h : nMay key = false) : cIsMac ts key s tag = false := by simp [cIsMac, h]
section
variable {bk rbk : Int → List Bs → A}
theorem CraftForms_ok (hR : R.Ok) (hB : HasBook R bk) (hB' : HasRBook R rbk) (which x : Int) : Tri Pr R n_law3_CraftForms [.int .i64 which, .int .i64 x] [] fun u _ => u = .bool true := by
  apply c_law3_CraftForms
  unfold p_law3_CraftForms
  refine awake3_ok hR hB hB' ?_
  simp -implicitDefEqProofs
  rw [bits_mask x 10 (by omega) 1023 (by decide)]
  obtain ⟨d0, hd, d1, d2⟩ : ∃ d, x % 2 ^ 10 = d ∧ 0 ≤ d ∧ d < 1024 := ⟨_, rfl, by omega, by omega⟩
  rw [hd]
  have e1 := w64 (n := 1 + d0) (by omega)
  have e3 := w64 (n := 1073741823 + (1 + d0)) (by omega)
  have e4 := w64 (n := -(1 + d0)) (by omega)
  have m1 : nMay (-(1 + d0)) = false := by simp [nMay]; omega
  have m2 : nMay (1073741823 + (1 + d0)) = false := by simp [nMay]; omega
  refine book_New_ok hR hB 1 ?_
  rw [if_pos (by omega)]
  simp -implicitDefEqProofs
  refine num14_ok ?_
  simp -implicitDefEqProofs
  have b0 : bOk 1 [] := bOk_nil (by omega)
  obtain ⟨t1, f1⟩ : ∃ t : List Bs, t = [[65, 111, 110, 108, 121]] := ⟨_, rfl⟩
  have k1 : cMade 1 [] (65 :: [111, 110, 108, 121]) = (t1, 0, 0) := by rw [f1]; decide +kernel
  have b1 := bOk_at b0 k1
  have kA : cMade 1 t1 (65 :: [109, 111, 114, 101]) = (t1, 0, 300) := by rw [f1]; decide +kernel
  have kB : cMade 1 t1 (72 :: [111, 110, 108, 121]) = (t1, 0, 300) := by rw [f1]; decide +kernel
  have kC : cKey 1 t1 83 0 [102, 117, 108, 108] = (t1, 0, 300) := by rw [f1]; decide +kernel
  have kD : cKey 1 t1 77 0 [102, 117, 108, 108] = (t1, 0, 300) := by rw [f1]; decide +kernel
  have kE : cMade 1 t1 (65 :: [111, 110, 108, 121]) = (t1, 0, 0) := by rw [f1]; decide +kernel
  have kF : cOpen t1 0 0 = ([], 301) := by rw [f1]; decide +kernel
  have kL : (t1.length : Int) = 1 := by rw [f1]; rfl
  clear f1
  refine Atom_at hR hB b0 (by decide) k1 rfl ?_
  simp -implicitDefEqProofs
  have h9 : (0 : Int) ≤ 512 ∧ (512 : Int) ≤ 140737488355328 := by omega
  refine mkz_any (R := R) h9 ?_
  intro z o zl _
  simp -implicitDefEqProofs
  refine joinP_all (ErrJ 300 [.adt (bk 1 t1), o]) ?_ ?_
  · obtain ⟨k, hk, k0', k9⟩ : ∃ k, (IntKind.u64.wrap which).tmod 9 = k ∧ 0 ≤ k ∧ k < 9 := by
      have h1 : 0 ≤ IntKind.u64.wrap which := by simp [IntKind.wrap, IntKind.signed, IntKind.bits]; omega
      exact ⟨_, rfl, Int.tmod_nonneg _ h1, Int.tmod_lt_of_pos _ (by omega)⟩
    have fin : ErrJ 300 [.adt (bk 1 t1), o] [.int .i64 300] [.adt (bk 1 t1), o] := ⟨rfl, rfl⟩
    simp -implicitDefEqProofs [hk, e1, e3, e4]
    refine iteP_of (fun _ => ?_) (fun _ => iteP_of (fun _ => ?_) (fun _ => iteP_of (fun _ => ?_) (fun _ => iteP_of (fun _ => ?_) (fun _ => iteP_of (fun _ => ?_) (fun _ => iteP_of (fun _ => ?_) (fun _ => iteP_of (fun _ => ?_) (fun _ => iteP_of (fun _ => ?_) (fun _ => ?_))))))))
    · refine Atom_at hR hB b1 (by decide) kA rfl ?_
      simp -implicitDefEqProofs
      exact num14_ok fin
    · refine Hash_at hR hB b1 (by decide) kB rfl ?_
      simp -implicitDefEqProofs
      exact num14_ok fin
    · refine Mac_at hR hB b1 (by decide) (cKey_bad m1) rfl ?_
      simp -implicitDefEqProofs
      exact num14_ok fin
    · refine Seal_at hR hB b1 (by decide) (cKey_bad m2) rfl ?_
      simp -implicitDefEqProofs
      exact num14_ok fin
    · refine Atom_at hR hB b1 (by omega) (cMade_long (by simp; omega)) rfl ?_
      simp -implicitDefEqProofs
      exact num14_ok fin
    · refine Mac_at hR hB b1 (by omega) (r := t1) (n := 0) (e := 300) (by rw [cKey, if_pos (show nMay 1 = true from rfl)]; exact cMade_long (by simp; omega)) rfl ?_
      simp -implicitDefEqProofs
      exact num14_ok fin
    · refine Hash_at hR hB b1 (by omega) (cMade_long (by simp; omega)) rfl ?_
      simp -implicitDefEqProofs
      exact num14_ok fin
    · refine Seal_at hR hB b1 (by decide) kC rfl ?_
      simp -implicitDefEqProofs
      exact num14_ok fin
    · refine Mac_at hR hB b1 (by decide) kD rfl ?_
      simp -implicitDefEqProofs
      exact num14_ok fin
  rintro _ _ ⟨rfl, rfl⟩
  refine ⟨by simp, ?_⟩
  simp -implicitDefEqProofs [e1, e4]
  refine Open_at hR hB kF rfl ?_
  simp -implicitDefEqProofs
  refine Open_at hR hB (cOpen_bad m1) rfl ?_
  simp -implicitDefEqProofs
  refine Open_at hR hB (cOpen_none (by omega)) rfl ?_
  simp -implicitDefEqProofs
  refine craft_Open_nil hR _ _ ?_
  simp -implicitDefEqProofs
  refine craft_Seal_nil hR _ _ (by decide) ?_
  simp -implicitDefEqProofs
  refine Atom_at hR hB b1 (by decide) kE rfl ?_
  simp -implicitDefEqProofs
  repeat (refine num14_ok ?_; simp -implicitDefEqProofs)
  refine Len_at hR hB kL rfl ?_
  simp -implicitDefEqProofs [e4]
  refine IsMac_at hR hB (by decide) (cIsMac_bad m1) rfl ?_
  simp -implicitDefEqProofs
  refine craft_IsMac_nil hR _ _ (by decide) _ ?_
  simp -implicitDefEqProofs
end
end Go.AI
