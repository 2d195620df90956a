/- Numbers, one behind the other. -/
import Derived.Test.YtnhclbecbagmfaaSpNum
set_option linter.all false
namespace Go.AI
variable {A : Type} {R : Adts A}
def nS (x : Int) : Bs0 := if nMay x = true then nE x else []
theorem nE_len (x : Int) : (nE x).length ≤ 5 ∧ nE x ≠ [] := by
  unfold nE; split
  · simp
  · split
    · simp
    · split
      · simp
      · split <;> simp
theorem nS_len (x : Int) : (nS x).length ≤ 5 := by
  unfold nS; split
  · exact (nE_len x).1
  · simp
def nAll (l : List Int) : Bs0 := l.flatMap nS
theorem nAll_len : ∀ l : List Int, (nAll l).length ≤ 5 * l.length
  | [] => by simp [nAll]
  | x :: l => by have := nAll_len l; have := nS_len x; simp only [nAll, List.flatMap_cons, List.length_append, List.length_cons] at *; omega
theorem ref1_Num_any (hR : R.Ok) (x : Int) {h : AHeap A} {K : AVal → AHeap A → Prop} (hk : K (.tup [.str (nS x), .int .i64 (if nMay x = true then 0 else 100)]) h) : Tri Pr R n_ref1_Num [.int .i64 x] h K := by
  by_cases hx : nMay x = true
  · rw [nS, if_pos hx, if_pos hx] at hk; exact ref1_Num_ok hR x hx hk
  · rw [nS, if_neg hx, if_neg hx] at hk; exact ref1_Num_bad hR x (by simpa using hx) hk
theorem field_Num_any (hR : R.Ok) (x : Int) {h : AHeap A} {K : AVal → AHeap A → Prop} (hk : K (.tup [.str (nS x), .int .i64 (if nMay x = true then 0 else 100)]) h) : Tri Pr R n_field_Num [.int .i64 x] h K := by
  by_cases hx : nMay x = true
  · rw [nS, if_pos hx, if_pos hx] at hk; exact field_Num_ok hR x hx hk
  · rw [nS, if_neg hx, if_neg hx] at hk; exact field_Num_bad hR x (by simpa using hx) hk
theorem ref1_Nums_ok (hR : R.Ok) (l : List Int) (hl : l.length ≤ 1000) (ex : Bool) {t : TypeId} {h : AHeap A} {b : Nat} (hb : h[b]? = some (.cells t (l.map (.int .i64)))) {K : AVal → AHeap A → Prop} (hk : K (.str (nAll l)) h) :
    Tri Pr R n_ref1_Nums [.sl b 0 l.length l.length ex] h K := by
  have hren : ∀ τ, (AObj.cells t (l.map (.int .i64)) : AObj A).ren R τ = .cells t (l.map (.int .i64)) := fun τ => by
    simp only [AObj.ren]; rw [rens_ix0 τ _ (by simp [ixs_all, AVal.ix])]
  have hix : (AObj.cells t (l.map (.int .i64)) : AObj A).ix R 1 := by show ixs 1 _ = true; simp [ixs_all, AVal.ix]
  refine Tri.own hR (as2 := [.sl 0 0 l.length l.length ex]) (Q := fun v o => v = .str (nAll l) ∧ o = .cells t (l.map (.int .i64))) rfl hix ?_ hren ?_ hb (by simp [rens, AVal.ren]) ?_
  · rintro _ _ ⟨rfl, rfl⟩; exact ⟨rfl, hren⟩
  · apply c_ref1_Nums
    unfold p_ref1_Nums
    refine loopP_go (fun m y g => ∃ i : Nat, y = [.str (nAll (l.take i)), .int .i64 i] ∧ g = [.cells t (l.map (.int .i64))] ∧ i ≤ l.length ∧ m = l.length - i) l.length (Gives.done (by simp) ⟨0, by simp [nAll], rfl, by omega, by omega⟩) ?_
    rintro m y g ⟨i, rfl, rfl, hi, rfl⟩
    simp
    refine iteP_of (fun h1 => ?_) (fun h1 => ?_)
    · simp at h1
      have e1 := w64 (n := (i : Int) + 1) (by omega)
      have hlen := nAll_len (l.take i)
      have hlen2 := nS_len l[i]
      have htk : (l.take i).length = i := by simp; omega
      have hsp : nAll (l.take (i + 1)) = nAll (l.take i) ++ nS l[i] := by rw [← List.take_append_getElem h1]; simp only [nAll, List.flatMap_append]; simp
      simp [h1]
      refine ref1_Num_any hR _ ?_
      have hadd : (nAll (l.take i)).length + (nS l[i]).length < 9223372036854775808 := by omega
      simp [e1, hadd]
      exact Gives.done (by simp) ⟨l.length - (i + 1), by omega, i + 1, by rw [hsp]; simp, rfl, by omega, rfl⟩
    · simp at h1
      obtain rfl : i = l.length := by omega
      simp
  · rintro _ _ ⟨rfl, rfl⟩
    have : h.set b (.cells t (l.map (.int .i64))) = h := by
      obtain ⟨hlt, he⟩ := List.getElem?_eq_some_iff.1 hb
      rw [← he]; exact List.set_getElem_self hlt
    rw [this]; exact hk
end Go.AI
