/- The data types of this seat. -/
import Derived.Test.YtnhclbecbagmfaaSpRing
set_option linter.all false
namespace Go.AI
inductive D where
  | book (m : Int) (ts : List Bs)
  | rbook (m : Int) (ts : List Bs)
def D.lay : D → Grp D → Prop
  | .book m ts, g => g = bookG m ts
  | .rbook m ts, g => g = rbookG m ts
def RD : Adts D := ⟨D.lay, fun _ a => a⟩
theorem bEnts_ren (τ : Nat → Nat) : ∀ (ts : List Bs) (i : Nat), (bEnts ts i).map (AEnt.ren τ) = bEnts ts i
  | [], _ => rfl
  | s :: r, i => by simp [bEnts, AEnt.ren, AVal.ren, bEnts_ren τ r]
theorem strs_ren (τ : Nat → Nat) (ts : List Bs) : rens τ (ts.map .str) = ts.map .str := rens_ix0 τ _ (by simp [ixs_all, AVal.ix])
theorem bookG_ren {A : Type} (R : Adts A) (τ : Nat → Nat) (m : Int) (ts : List Bs) : (bookG m ts : Grp A).ren R τ = bookG m ts := by
  unfold bookG Grp.ren
  split <;> simp [GC.ren, AVal.ren, AObj.ren, bEnts_ren, strs_ren]
theorem rbookG_ren {A : Type} (R : Adts A) (τ : Nat → Nat) (m : Int) (ts : List Bs) : (rbookG m ts : Grp A).ren R τ = rbookG m ts := by
  unfold rbookG Grp.ren
  split <;> simp [GC.ren, AVal.ren, AObj.ren, strs_ren]
theorem RD_ok : RD.Ok := by
  intro a τ g'
  cases a with
  | book m ts => exact ⟨fun h => ⟨_, rfl, h.trans (bookG_ren RD τ m ts).symm⟩, fun ⟨g, h1, h2⟩ => by subst h2; rw [show g = bookG m ts from h1, bookG_ren]; rfl⟩
  | rbook m ts => exact ⟨fun h => ⟨_, rfl, h.trans (rbookG_ren RD τ m ts).symm⟩, fun ⟨g, h1, h2⟩ => by subst h2; rw [show g = rbookG m ts from h1, rbookG_ren]; rfl⟩
theorem RD_book : HasBook RD D.book := ⟨fun _ _ _ => Iff.rfl, fun _ _ _ => rfl⟩
theorem RD_rbook : HasRBook RD D.rbook := ⟨fun _ _ _ => Iff.rfl, fun _ _ _ => rfl⟩
end Go.AI
