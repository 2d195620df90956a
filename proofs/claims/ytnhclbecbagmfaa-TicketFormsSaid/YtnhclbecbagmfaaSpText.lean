/- Texts; readers behind two objects. -/
import Derived.Test.YtnhclbecbagmfaaSpReader3
import Derived.Test.YtnhclbecbagmfaaSpRecord0
set_option linter.all false
namespace Go.AI
variable {A : Type} {R : Adts A}
theorem field_All_ok (hR : R.Ok) (l : List Int) (hl : l.length ≤ 1000) (ex : Bool) {t : TypeId} {h : AHeap A} {b : Nat} (hb : h[b]? = some (.cells t (l.map (.int .i64)))) {K : AVal → AHeap A → Prop} (hk : if l.all nMay = true then K (.tup [.str (nAll l), .bool true]) h else K (.tup [.str [], .bool false]) h) :
    Tri Pr R n_field_All [.sl b 0 l.length l.length ex] h K := by
  have hren : ∀ τ, (AObj.cells t (l.map (.int .i64)) : AObj A).ren R τ = .cells t (l.map (.int .i64)) := fun τ => by
    simp only [AObj.ren]; rw [rens_ix0 τ _ (by simp [ixs_all, AVal.ix])]
  have hix : (AObj.cells t (l.map (.int .i64)) : AObj A).ix R 1 := by show ixs 1 _ = true; simp [ixs_all, AVal.ix]
  refine Tri.own hR (as2 := [.sl 0 0 l.length l.length ex]) (Q := fun v o => v = (if l.all nMay = true then .tup [.str (nAll l), .bool true] else .tup [.str [], .bool false]) ∧ o = .cells t (l.map (.int .i64))) rfl hix ?_ hren ?_ hb (by simp [rens, AVal.ren]) ?_
  · rintro _ _ ⟨rfl, rfl⟩; exact ⟨by split <;> rfl, hren⟩
  · obtain ⟨v0, hv0⟩ : ∃ v0 : AVal, (if l.all nMay = true then .tup [.str (nAll l), .bool true] else .tup [.str [], .bool false]) = v0 := ⟨_, rfl⟩
    rw [hv0]
    apply c_field_All
    unfold p_field_All
    refine loopP_go (fun m y g => ∃ i : Nat, y = [.str (nAll (l.take i)), .int .i64 i] ∧ g = [.cells t (l.map (.int .i64))] ∧ i ≤ l.length ∧ m = l.length - i ∧ (l.take i).all nMay = true) l.length (Gives.done (by simp) ⟨0, by simp [nAll], rfl, by omega, by omega, rfl⟩) ?_
    rintro m y g ⟨i, rfl, rfl, hi, rfl, hall⟩
    by_cases h1 : i < l.length
    · have e1 := w64 (n := (i : Int) + 1) (by omega)
      have hlen := nAll_len (l.take i)
      have hlen2 := nS_len l[i]
      have htk : (l.take i).length = i := by simp; omega
      have hsp : nAll (l.take (i + 1)) = nAll (l.take i) ++ nS l[i] := by rw [← List.take_append_getElem h1]; simp only [nAll, List.flatMap_append]; simp
      have hadd : (nAll (l.take i)).length + (nS l[i]).length < 9223372036854775808 := by omega
      simp -implicitDefEqProofs [h1]
      refine field_Num_any hR _ ?_
      cases hc : nMay l[i] with
      | true =>
        simp -implicitDefEqProofs [e1, hadd]
        refine Gives.done (by simp) ⟨l.length - (i + 1), by omega, i + 1, by rw [hsp]; simp, rfl, by omega, rfl, ?_⟩
        intro x hx
        rw [← List.take_append_getElem h1] at hx
        rcases List.mem_append.1 hx with hx | hx
        · exact List.all_eq_true.1 hall x hx
        · simp at hx; subst hx; exact hc
      | false =>
        have : l.all nMay = false := by
          rw [Bool.eq_false_iff]
          intro h2
          have := List.all_eq_true.1 h2 l[i] (List.getElem_mem h1)
          rw [hc] at this; simp at this
        rw [this] at hv0
        simp at hv0
        subst hv0
        simp -implicitDefEqProofs
    · obtain rfl : i = l.length := by omega
      rw [List.take_length] at hall
      rw [hall] at hv0
      simp at hv0
      subst hv0
      simp -implicitDefEqProofs
  · rintro _ _ ⟨rfl, rfl⟩
    have : h.set b (.cells t (l.map (.int .i64))) = h := set_same hb
    rw [this]
    split at hk <;> rename_i h1 <;> simp [h1] <;> exact hk
theorem fReader2_ok (hR : R.Ok) (s : Bs0) (hs : s.length < 9000000000000000000) (at_ : Int) (ha : -9000000000000000000 ≤ at_ ∧ at_ < 9000000000000000000) {o o1 : AObj A} {r : AHeap A} {K : AVal → AHeap A → Prop}
    (hk : if (gNum s at_).2.2 = 0 then K (.int .i64 (gNum s at_).1) (o :: o1 :: fRead s (gNum s at_).2.1 .nili :: r) else ∀ a e, K (.int .i64 0) (o :: o1 :: fRead s 0 (.iface t_p_field_Fault (.ptr (r.length + 3) 0)) :: (r ++ [faultO a e]))) :
    Tri Pr R n_field_Reader_Num [.ptr 2 0] (o :: o1 :: fRead s at_ .nili :: r) K := by
  apply c_field_Reader_Num
  unfold p_field_Reader_Num
  simp -implicitDefEqProofs [fRead]
  refine field_num_ok hR s hs at_ ha ?_
  by_cases h : (gNum s at_).2.2 = 0
  · rw [if_pos h] at hk ⊢
    simp -implicitDefEqProofs
    exact hk
  · rw [if_neg h] at hk ⊢
    intro a e
    simp -implicitDefEqProofs
    simpa [fRead] using hk _ _
theorem fReader2_bad (hR : R.Ok) (s : Bs0) (at_ : Int) (t : TypeId) (v : AVal) {o o1 : AObj A} {r : AHeap A} {K : AVal → AHeap A → Prop}
    (hk : K (.int .i64 0) (o :: o1 :: fRead s at_ (.iface t v) :: r)) : Tri Pr R n_field_Reader_Num [.ptr 2 0] (o :: o1 :: fRead s at_ (.iface t v) :: r) K := by
  apply c_field_Reader_Num
  unfold p_field_Reader_Num
  simp -implicitDefEqProofs [fRead]
  exact hk
theorem rReader2_ok (hR : R.Ok) (s : Bs0) (hs : s.length < 9000000000000000000) (at_ : Int) (ha : -9000000000000000000 ≤ at_ ∧ at_ < 9000000000000000000) (bad : Bool) {o o1 : AObj A} {r : AHeap A} {K : AVal → AHeap A → Prop}
    (hk : if bad = false ∧ (gNum s at_).2.2 = 0 then K (.int .i64 (gNum s at_).1) (o :: o1 :: rRead s (gNum s at_).2.1 false :: r) else K (.int .i64 0) (o :: o1 :: rRead s at_ true :: r)) :
    Tri Pr R n_ref1_Reader_Num [.ptr 2 0] (o :: o1 :: rRead s at_ bad :: r) K := by
  apply c_ref1_Reader_Num
  unfold p_ref1_Reader_Num
  simp -implicitDefEqProofs [rRead]
  refine ref1_GetNum_ok hR s hs at_ ha ?_
  simp -implicitDefEqProofs
  cases bad with
  | true =>
    simp at hk
    simp -implicitDefEqProofs
    exact hk
  | false =>
    by_cases h : (gNum s at_).2.2 = 0
    · simp [h] at hk
      simp -implicitDefEqProofs [h]
      exact hk
    · simp [h] at hk
      have h' : ((gNum s at_).2.2 != 0) = true := by simpa using h
      simp -implicitDefEqProofs [h']
      exact hk
end Go.AI
