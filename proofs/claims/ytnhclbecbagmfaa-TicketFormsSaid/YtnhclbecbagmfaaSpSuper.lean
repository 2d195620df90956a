/- The boot's sectors. -/
import Derived.Test.YtnhclbecbagmfaaSpReader3
import Derived.Test.YtnhclbecbagmfaaSpSuper0
set_option linter.all false
namespace Go.AI
variable {A : Type} {R : Adts A}
theorem z_readn {n : Nat} {K : AVal → Prop} {h : AHeap A} {b : Nat} {ex : Bool} {t : TypeId} {cs : List AVal} (hb : h[b]? = some (.cells t cs)) (hc : cs = (List.replicate n [AVal.int .u8 0]).flatten) (hk : K (.str (List.replicate n 0))) : b2sP (.sl b 0 n n ex) h K := by
  subst hc
  have e : (List.replicate n [AVal.int .u8 0]).flatten = List.replicate n (.int .u8 0) := zCells_eq n
  rw [e] at hb
  unfold b2sP
  dsimp only
  simp only [cellsAt, hb, Option.bind_some, AObj.read]
  rw [if_pos (by simp)]
  simp only [List.drop_zero]
  rw [List.take_of_length_le (by simp), zCells_bytes]
  exact hk
theorem book_own (hR : R.Ok) {mk : Int → List Bs → A} (hB : HasBook R mk) {m : Int} {ts ts' : List Bs} {f : FuncId} {us : List AVal} (hus : us.all (AVal.ix 0) = true) {v : AVal} (hv : v.ix 0 = true)
    (t : Tri Pr R f (.ptr 0 0 :: us) [.adt (mk m ts)] fun u g => u = v ∧ ∃ r, g = .adt (mk m ts') :: r)
    {h : AHeap A} {b : Nat} (hb : h[b]? = some (.adt (mk m ts))) {K : AVal → AHeap A → Prop} (hk : K v (h.set b (.adt (mk m ts')))) : Tri Pr R f (.ptr b 0 :: us) h K := by
  have hus' : ixs 0 us = true := by rw [ixs_all]; exact hus
  refine Tri.own hR (as2 := .ptr 0 0 :: us) (Q := fun u o => u = v ∧ o = .adt (mk m ts')) ?_ (book_ix hB _ _ _) ?_ (book_ren hB _ _) ?_ hb ?_ ?_
  · simp [ixs, AVal.ix, ixs_mono (Nat.zero_le 1) us hus']
  · rintro _ _ ⟨rfl, rfl⟩; exact ⟨hv, book_ren hB _ _⟩
  · refine Tri.post (t.mono ?_)
    rintro _ _ ⟨rfl, r, rfl⟩
    exact Gives.cut hR (m := 1) (by simp) (by simp) (by simp [ixs, ix_mono (Nat.zero_le 1) _ hv]) (by simp; exact ⟨book_ix hB _ _ _, fun τ _ => book_ren hB _ _ _⟩) ⟨_, rfl, _, ⟨rfl, rfl⟩, rfl⟩
  · simp only [rens, AVal.ren]
    rw [rens_ix0 _ _ hus']; simp
  · rintro _ _ ⟨rfl, rfl⟩; exact hk
def BoolJ (c : Bool) (o : AObj A) (vs : List AVal) (g : AHeap A) : Prop := vs = [.bool c] ∧ ∃ r, g = o :: r
section
variable {mk : Int → List Bs → A}
end
end Go.AI
