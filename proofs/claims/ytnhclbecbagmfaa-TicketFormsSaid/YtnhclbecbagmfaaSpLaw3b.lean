/- CraftForms, CraftUnlike. -/
import Derived.Test.YtnhclbecbagmfaaSpLaw3
set_option linter.all false
namespace Go.AI
variable {A : Type} {R : Adts A}
def zCells (n : Nat) : List AVal := (List.replicate n [AVal.int .u8 0]).flatten
theorem zCells_eq (n : Nat) : zCells n = List.replicate n (.int .u8 0) := by
  unfold zCells
  induction n with
  | zero => rfl
  | succ n ih => rw [List.replicate_succ, List.flatten_cons, ih]; rfl
theorem zCells_bytes : ∀ n : Nat, (List.replicate n (AVal.int .u8 0)).mapM byteOf = some (List.replicate n 0)
  | 0 => rfl
  | n + 1 => by
    rw [List.replicate_succ, List.mapM_cons, zCells_bytes n]; rfl
theorem zCells_low {t : TypeId} {n m : Nat} : AObj.low R m (.cells t (zCells n) : AObj A) := low_cells (by rw [zCells_eq]; simp [ixs_all, AVal.ix])
/-- So many zeros as a text. -/
theorem mkz_ok {t : TypeId} {n : Int} (hn : 0 ≤ n ∧ n ≤ 140737488355328) {h : AHeap A} {K : AVal → AHeap A → Prop} (hk : K (.str (List.replicate n.toNat 0)) (h ++ [.cells t (zCells n.toNat)])) :
    mkslP t 1 1 [.int .u8 0] (.int .i64 n) (.int .i64 n) h fun v h => b2sP v h fun u => K u h := by
  unfold mkslP
  dsimp only
  rw [if_pos ⟨hn.1, by omega, by omega, by omega, rfl⟩]
  unfold b2sP
  dsimp only
  have e : cellsAt (h ++ [.cells t (List.replicate n.toNat [AVal.int .u8 0]).flatten]) h.length = some (zCells n.toNat) := by simp [cellsAt, AObj.read, zCells]
  simp only [e]
  rw [zCells_eq, if_pos (by simp)]
  simp only [List.drop_zero]
  rw [List.take_of_length_le (by simp), zCells_bytes]
  exact hk
theorem mkz_any {t : TypeId} {n : Int} (hn : 0 ≤ n ∧ n ≤ 140737488355328) {h : AHeap A} {K : AVal → AHeap A → Prop} (hk : ∀ (z : Bs) (o : AObj A), (z.length : Int) = n → (∀ m, AObj.low R m o) → K (.str z) (h ++ [o])) :
    mkslP t 1 1 [.int .u8 0] (.int .i64 n) (.int .i64 n) h fun v h => b2sP v h fun u => K u h :=
  mkz_ok hn (hk _ _ (by rw [List.length_replicate]; omega) fun _ => zCells_low)
def ErrJ (v : Int) (o : AHeap A) (vs : List AVal) (g : AHeap A) : Prop := vs = [.int .i64 v] ∧ g = o
theorem cKey_bad {m : Int} {ts : List Bs} {k : UInt8} {key : Int} {s : Bs} (h : nMay key = false) : cKey m ts k key s = (ts, 0, 300) := by simp [cKey, h]
theorem cOpen_none {ts : List Bs} {key tag : Int} (h : (ts.length : Int) ≤ tag) : cOpen ts key tag = ([], 301) := by
  unfold cOpen bTerm
  rw [if_neg (show ¬ (0 ≤ tag ∧ tag < ts.length) by omega)]
  simp
theorem cOpen_bad {ts : List Bs} {key tag : Int} (h : nMay key = false) : cOpen ts key tag = ([], 301) := by simp [cOpen, h]
theorem cIsMac_bad {ts : List Bs} {key tag : Int} {s : Bs} (h : nMay key = false) : cIsMac ts key s tag = false := by simp [cIsMac, h]
section
variable {bk rbk : Int → List Bs → A}
end
end Go.AI
