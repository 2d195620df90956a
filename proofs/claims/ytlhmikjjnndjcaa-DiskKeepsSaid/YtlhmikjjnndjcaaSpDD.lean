/- The data types of the disks' statements. -/
import Derived.Test.YtlhmikjjnndjcaaSpRDiskCrash
import Derived.Test.YtlhmikjjnndjcaaSpD
set_option linter.all false
namespace Go.AI
inductive DD where
  | disk (k : List Bs) (w : Ws) (d : Bool)
  | rdisk (k : List Bs) (w : Ws) (d : Bool)
def DD.lay : DD → Grp DD → Prop
  | .disk k w d, g => g = diskG k w d
  | .rdisk k w d, g => g = rdiskG k w d
def RDD : Adts DD := ⟨DD.lay, fun _ a => a⟩
theorem wCells_ren (τ : Nat → Nat) (w : Ws) : rens τ (wCells w) = wCells w := rens_ix0 τ _ (wCells_ix 0 w)
theorem diskG_ren {A : Type} (R : Adts A) (τ : Nat → Nat) (k : List Bs) (w : Ws) (d : Bool) : (diskG k w d : Grp A).ren R τ = diskG k w d := by
  unfold diskG Grp.ren
  split <;> simp [GC.ren, AVal.ren, AObj.ren, wCells_ren, strs_ren]
theorem rdiskG_ren {A : Type} (R : Adts A) (τ : Nat → Nat) (k : List Bs) (w : Ws) (d : Bool) : (rdiskG k w d : Grp A).ren R τ = rdiskG k w d := by
  unfold rdiskG Grp.ren
  split <;> simp [GC.ren, AVal.ren, AObj.ren, wCells_ren, strs_ren]
theorem RDD_ok : RDD.Ok := by
  intro a τ g'
  cases a with
  | disk k w d => exact ⟨fun h => ⟨_, rfl, h.trans (diskG_ren RDD τ k w d).symm⟩, fun ⟨g, h1, h2⟩ => by subst h2; rw [show g = diskG k w d from h1, diskG_ren]; rfl⟩
  | rdisk k w d => exact ⟨fun h => ⟨_, rfl, h.trans (rdiskG_ren RDD τ k w d).symm⟩, fun ⟨g, h1, h2⟩ => by subst h2; rw [show g = rdiskG k w d from h1, rdiskG_ren]; rfl⟩
theorem RDD_disk : HasDisk RDD DD.disk := ⟨fun _ _ _ _ => Iff.rfl, fun _ _ _ _ => rfl⟩
theorem RDD_rdisk : HasRDisk RDD DD.rdisk := ⟨fun _ _ _ _ => Iff.rfl, fun _ _ _ _ => rfl⟩
end Go.AI
