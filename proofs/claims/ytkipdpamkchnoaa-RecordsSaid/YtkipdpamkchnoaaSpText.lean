/- Texts; readers behind two objects. -/
import Derived.Test.YtkipdpamkchnoaaSpEvent4
set_option linter.all false
namespace Go.AI
variable {A : Type} {R : Adts A}
theorem field_All_ok (hR : R.Ok) (l : List Int) (hl : l.length ≤ 1000) (ex : Bool) {t : TypeId} {h : AHeap A} {b : Nat} (hb : h[b]? = some (.cells t (l.map (.int .i64)))) {K : AVal → AHeap A → Prop} (hk : if l.all nMay = true then K (.tup [.str (nAll l), .bool true]) h else K (.tup [.str [], .bool false]) h) :
    Tri Pr R n_field_All [.sl b 0 l.length l.length ex] h K := by
  have hren : ∀ τ, (AObj.cells t (l.map (.int .i64)) : AObj A).ren R τ = .cells t (l.map (.int .i64)) := fun τ => by
    simp only [AObj.ren]; rw [rens_ix0 τ _ (by simp [ixs_all, AVal.ix])]
  have hix : (AObj.cells t (l.map (.int .i64)) : AObj A).ix R 1 := by show ixs 1 _ = true; simp [ixs_all, AVal.ix]
  refine Tri.own hR (as2 := [.sl 0 0 l.length l.length ex]) (Q := fun v o => v = (if l.all nMay = true then .tup [.str (nAll l), .bool true] else .tup [.str [], .bool false]) ∧ o = .cells t (l.map (.int .i64))) rfl hix ?_ hren ?_ hb (by simp [rens, AVal.ren]) ?_
  · rintro _ _ ⟨rfl, rfl⟩; exact ⟨by split <;> rfl, hren⟩
  · obtain ⟨v0, hv0⟩ : ∃ v0 : AVal, (if l.all nMay = true then .tup [.str (nAll l), .bool true] else .tup [.str [], .bool false]) = v0 := ⟨_, rfl⟩
    rw [hv0]
    apply c_field_All
    unfold p_field_All
    refine loopP_go (fun m y g => ∃ i : Nat, y = [.str (nAll (l.take i)), .int .i64 i] ∧ g = [.cells t (l.map (.int .i64))] ∧ i ≤ l.length ∧ m = l.length - i ∧ (l.take i).all nMay = true) l.length (Gives.done (by simp) ⟨0, by simp [nAll], rfl, by omega, by omega, rfl⟩) ?_
    rintro m y g ⟨i, rfl, rfl, hi, rfl, hall⟩
    by_cases h1 : i < l.length
    · have e1 := w64 (n := (i : Int) + 1) (by omega)
      have hlen := nAll_len (l.take i)
      have hlen2 := nS_len l[i]
      have htk : (l.take i).length = i := by simp; omega
      have hsp : nAll (l.take (i + 1)) = nAll (l.take i) ++ nS l[i] := by rw [← List.take_append_getElem h1]; simp only [nAll, List.flatMap_append]; simp
      have hadd : (nAll (l.take i)).length + (nS l[i]).length < 9223372036854775808 := by omega
      simp -implicitDefEqProofs [h1]
      refine field_Num_any hR _ ?_
      cases hc : nMay l[i] with
      | true =>
        simp -implicitDefEqProofs [e1, hadd]
        refine Gives.done (by simp) ⟨l.length - (i + 1), by omega, i + 1, by rw [hsp]; simp, rfl, by omega, rfl, ?_⟩
        intro x hx
        rw [← List.take_append_getElem h1] at hx
        rcases List.mem_append.1 hx with hx | hx
        · exact List.all_eq_true.1 hall x hx
        · simp at hx; subst hx; exact hc
      | false =>
        have : l.all nMay = false := by
          rw [Bool.eq_false_iff]
          intro h2
          have := List.all_eq_true.1 h2 l[i] (List.getElem_mem h1)
          rw [hc] at this; simp at this
        rw [this] at hv0
        simp at hv0
        subst hv0
        simp -implicitDefEqProofs
    · obtain rfl : i = l.length := by omega
      rw [List.take_length] at hall
      rw [hall] at hv0
      simp at hv0
      subst hv0
      simp -implicitDefEqProofs
  · rintro _ _ ⟨rfl, rfl⟩
    have : h.set b (.cells t (l.map (.int .i64))) = h := set_same hb
    rw [this]
    split at hk <;> rename_i h1 <;> simp [h1] <;> exact hk
theorem field_Text_ok (hR : R.Ok) (s : Bs0) (hs : s.length ≤ 65536) {h : AHeap A} {K : AVal → AHeap A → Prop} (hk : K (.tup [.str (nS s.length ++ s), .int .i64 0]) h) : Tri Pr R n_field_Text [.str s] h K := by
  refine Tri.fn1 hR _ rfl rfl ?_ hk
  apply c_field_Text
  unfold p_field_Text
  have h1 : ¬ (65536 : Int) < s.length := by omega
  have hl := nS_len (s.length : Int)
  have h2 : (nS (s.length : Int)).length + s.length < 9223372036854775808 := by omega
  have hm : nMay (s.length : Int) = true := by simp [nMay]; omega
  simp -implicitDefEqProofs [h1]
  refine field_Num_any hR _ ?_
  simp -implicitDefEqProofs [h2, hm]
  exact Ans.rfl' _
theorem ref1_Text_ok (hR : R.Ok) (s : Bs0) (hs : s.length ≤ 65536) {h : AHeap A} {K : AVal → AHeap A → Prop} (hk : K (.tup [.str (nS s.length ++ s), .int .i64 0]) h) : Tri Pr R n_ref1_Text [.str s] h K := by
  refine Tri.fn1 hR _ rfl rfl ?_ hk
  apply c_ref1_Text
  unfold p_ref1_Text
  have h1 : ¬ (65536 : Int) < s.length := by omega
  have hl := nS_len (s.length : Int)
  have h2 : (nS (s.length : Int)).length + s.length < 9223372036854775808 := by omega
  simp -implicitDefEqProofs [h1]
  refine ref1_Nums_ok hR [(s.length : Int)] (by simp) true (t := t_int) (by simp) ?_
  have : nAll [(s.length : Int)] = nS s.length := by simp [nAll]
  rw [this]
  simp -implicitDefEqProofs [h2]
  exact Ans.rfl' _
theorem ref1_GetText_ok (hR : R.Ok) (s : Bs0) (hs : s.length < 8000000000000000000) (at_ : Int) (ha : -8000000000000000000 ≤ at_ ∧ at_ < 8000000000000000000) {h : AHeap A} {K : AVal → AHeap A → Prop}
    (hk : K (.tup [.str (gText s at_).1, .int .i64 (gText s at_).2.1, .int .i64 (gText s at_).2.2]) h) : Tri Pr R n_ref1_GetText [.str s, .int .i64 at_] h K := by
  refine Tri.fn1 hR _ rfl rfl ?_ hk
  apply c_ref1_GetText
  unfold p_ref1_GetText
  refine ref1_GetNum_ok hR s (by omega) at_ (by omega) ?_
  obtain ⟨r, hr⟩ : ∃ r, gText s at_ = r := ⟨_, rfl⟩
  rw [hr]
  unfold gText at hr
  obtain ⟨n, t1, e, hg⟩ : ∃ x t1 e, gNum s at_ = (x, t1, e) := ⟨_, _, _, rfl⟩
  rw [hg] at hr ⊢
  dsimp only at hr ⊢
  by_cases c1 : e = 0
  · subst c1
    obtain ⟨q1, q2, q3, q4, q5⟩ := gNum_enc hg
    have hn : 0 ≤ n ∧ n ≤ 1073741823 := by simpa [nMay] using q1
    rw [if_neg (by simp)] at hr
    have e1 := w64 (n := (s.length : Int) - t1) (by omega)
    have e2 := w64 (n := t1 + n) (by omega)
    by_cases c2 : 65536 < n
    · rw [if_pos c2] at hr; subst hr
      simp -implicitDefEqProofs [c2]; exact Ans.rfl' _
    · rw [if_neg c2] at hr
      by_cases c3 : (s.length : Int) - t1 < n
      · rw [if_pos c3] at hr; subst hr
        simp -implicitDefEqProofs [c2, e1, c3]; exact Ans.rfl' _
      · rw [if_neg c3] at hr; subst hr
        have d1 : 0 ≤ t1 := by omega
        have d2 : t1 ≤ t1 + n := by omega
        have d3 : t1 + n ≤ s.length := by omega
        have d4 : 0 ≤ n := by omega
        have d5 : (t1 + n).toNat = t1.toNat + n.toNat := by omega
        simp -implicitDefEqProofs [c2, e1, c3, e2, d1, d2, d3, d4, d5]
        exact Ans.of (by rw [List.drop_take]; simp)
  · rw [if_pos c1] at hr; subst hr
    have c1' : (e != 0) = true := by simpa using c1
    simp -implicitDefEqProofs [c1']; exact Ans.rfl' _
theorem field_text_ok (hR : R.Ok) (s : Bs0) (hs : s.length < 8000000000000000000) (at_ : Int) (ha : -8000000000000000000 ≤ at_ ∧ at_ < 8000000000000000000) {h : AHeap A} {K : AVal → AHeap A → Prop}
    (hk : if (gText s at_).2.2 = 0 then K (.tup [.str (gText s at_).1, .int .i64 (gText s at_).2.1, .nili]) h else (∀ f : AObj A, K (.tup [.str [], .int .i64 0, .iface t_p_field_Fault (.ptr h.length 0)]) (h ++ [f])) ∧ ∀ f g : AObj A, K (.tup [.str [], .int .i64 0, .iface t_p_field_Fault (.ptr (h.length + 1) 0)]) (h ++ [f, g])) : Tri Pr R n_field_text [.str s, .int .i64 at_] h K := by
  apply c_field_text
  unfold p_field_text
  refine field_num_ok hR s (by omega) at_ (by omega) ?_
  unfold gText at hk
  obtain ⟨n, t1, e, hg⟩ : ∃ x t1 e, gNum s at_ = (x, t1, e) := ⟨_, _, _, rfl⟩
  rw [hg] at hk ⊢
  dsimp only at hk ⊢
  by_cases c1 : e = 0
  · subst c1
    obtain ⟨q1, q2, q3, q4, q5⟩ := gNum_enc hg
    have hn : 0 ≤ n ∧ n ≤ 1073741823 := by simpa [nMay] using q1
    rw [if_pos rfl]
    rw [if_neg (show ¬ (0 : Int) ≠ 0 by simp)] at hk
    have e1 := w64 (n := (s.length : Int) - t1) (by omega)
    have e2 := w64 (n := t1 + n) (by omega)
    by_cases c2 : 65536 < n
    · rw [if_pos c2] at hk
      simp at hk
      simp -implicitDefEqProofs [c2, mkiP]
      exact hk.1 _
    · rw [if_neg c2] at hk
      by_cases c3 : (s.length : Int) - t1 < n
      · rw [if_pos c3] at hk
        simp at hk
        simp -implicitDefEqProofs [c2, e1, c3, mkiP]
        exact hk.1 _
      · rw [if_neg c3] at hk
        simp at hk
        have d1 : 0 ≤ t1 := by omega
        have d2 : t1 ≤ t1 + n := by omega
        have d3 : t1 + n ≤ s.length := by omega
        have d4 : 0 ≤ n := by omega
        have d5 : (t1 + n).toNat = t1.toNat + n.toNat := by omega
        simp -implicitDefEqProofs [c2, e1, c3, e2, d1, d2, d3, d4, d5]
        rw [List.drop_take]
        simpa using hk
  · rw [if_neg c1]
    rw [if_pos c1] at hk
    simp [c1] at hk
    intro a e'
    simp -implicitDefEqProofs [mkiP]
    exact hk.2 _ _
theorem fReader2_ok (hR : R.Ok) (s : Bs0) (hs : s.length < 9000000000000000000) (at_ : Int) (ha : -9000000000000000000 ≤ at_ ∧ at_ < 9000000000000000000) {o o1 : AObj A} {r : AHeap A} {K : AVal → AHeap A → Prop}
    (hk : if (gNum s at_).2.2 = 0 then K (.int .i64 (gNum s at_).1) (o :: o1 :: fRead s (gNum s at_).2.1 .nili :: r) else ∀ a e, K (.int .i64 0) (o :: o1 :: fRead s 0 (.iface t_p_field_Fault (.ptr (r.length + 3) 0)) :: (r ++ [faultO a e]))) :
    Tri Pr R n_field_Reader_Num [.ptr 2 0] (o :: o1 :: fRead s at_ .nili :: r) K := by
  apply c_field_Reader_Num
  unfold p_field_Reader_Num
  simp -implicitDefEqProofs [fRead]
  refine field_num_ok hR s hs at_ ha ?_
  by_cases h : (gNum s at_).2.2 = 0
  · rw [if_pos h] at hk ⊢
    simp -implicitDefEqProofs
    exact hk
  · rw [if_neg h] at hk ⊢
    intro a e
    simp -implicitDefEqProofs
    simpa [fRead] using hk _ _
theorem fReader2_bad (hR : R.Ok) (s : Bs0) (at_ : Int) (t : TypeId) (v : AVal) {o o1 : AObj A} {r : AHeap A} {K : AVal → AHeap A → Prop}
    (hk : K (.int .i64 0) (o :: o1 :: fRead s at_ (.iface t v) :: r)) : Tri Pr R n_field_Reader_Num [.ptr 2 0] (o :: o1 :: fRead s at_ (.iface t v) :: r) K := by
  apply c_field_Reader_Num
  unfold p_field_Reader_Num
  simp -implicitDefEqProofs [fRead]
  exact hk
theorem fText2_ok (hR : R.Ok) (s : Bs0) (hs : s.length < 8000000000000000000) (at_ : Int) (ha : -8000000000000000000 ≤ at_ ∧ at_ < 8000000000000000000) {o o1 : AObj A} {r : AHeap A} {K : AVal → AHeap A → Prop}
    (hk : if (gText s at_).2.2 = 0 then K (.str (gText s at_).1) (o :: o1 :: fRead s (gText s at_).2.1 .nili :: r) else (∀ f : AObj A, K (.str []) (o :: o1 :: fRead s 0 (.iface t_p_field_Fault (.ptr (r.length + 3) 0)) :: (r ++ [f]))) ∧ ∀ f g : AObj A, K (.str []) (o :: o1 :: fRead s 0 (.iface t_p_field_Fault (.ptr (r.length + 4) 0)) :: (r ++ [f, g]))) :
    Tri Pr R n_field_Reader_Text [.ptr 2 0] (o :: o1 :: fRead s at_ .nili :: r) K := by
  apply c_field_Reader_Text
  unfold p_field_Reader_Text
  simp -implicitDefEqProofs [fRead]
  refine field_text_ok hR s hs at_ ha ?_
  by_cases h : (gText s at_).2.2 = 0
  · rw [if_pos h] at hk ⊢
    simp -implicitDefEqProofs
    exact hk
  · rw [if_neg h] at hk ⊢
    refine ⟨fun f => ?_, fun f g => ?_⟩
    · simp -implicitDefEqProofs
      simpa [fRead] using hk.1 f
    · simp -implicitDefEqProofs
      simpa [fRead] using hk.2 f g
theorem fText2_bad (hR : R.Ok) (s : Bs0) (at_ : Int) (t : TypeId) (v : AVal) {o o1 : AObj A} {r : AHeap A} {K : AVal → AHeap A → Prop}
    (hk : K (.str []) (o :: o1 :: fRead s at_ (.iface t v) :: r)) : Tri Pr R n_field_Reader_Text [.ptr 2 0] (o :: o1 :: fRead s at_ (.iface t v) :: r) K := by
  apply c_field_Reader_Text
  unfold p_field_Reader_Text
  simp -implicitDefEqProofs [fRead]
  exact hk
theorem rReader2_ok (hR : R.Ok) (s : Bs0) (hs : s.length < 9000000000000000000) (at_ : Int) (ha : -9000000000000000000 ≤ at_ ∧ at_ < 9000000000000000000) (bad : Bool) {o o1 : AObj A} {r : AHeap A} {K : AVal → AHeap A → Prop}
    (hk : if bad = false ∧ (gNum s at_).2.2 = 0 then K (.int .i64 (gNum s at_).1) (o :: o1 :: rRead s (gNum s at_).2.1 false :: r) else K (.int .i64 0) (o :: o1 :: rRead s at_ true :: r)) :
    Tri Pr R n_ref1_Reader_Num [.ptr 2 0] (o :: o1 :: rRead s at_ bad :: r) K := by
  apply c_ref1_Reader_Num
  unfold p_ref1_Reader_Num
  simp -implicitDefEqProofs [rRead]
  refine ref1_GetNum_ok hR s hs at_ ha ?_
  simp -implicitDefEqProofs
  cases bad with
  | true =>
    simp at hk
    simp -implicitDefEqProofs
    exact hk
  | false =>
    by_cases h : (gNum s at_).2.2 = 0
    · simp [h] at hk
      simp -implicitDefEqProofs [h]
      exact hk
    · simp [h] at hk
      have h' : ((gNum s at_).2.2 != 0) = true := by simpa using h
      simp -implicitDefEqProofs [h']
      exact hk
theorem rText2_ok (hR : R.Ok) (s : Bs0) (hs : s.length < 8000000000000000000) (at_ : Int) (ha : -8000000000000000000 ≤ at_ ∧ at_ < 8000000000000000000) (bad : Bool) {o o1 : AObj A} {r : AHeap A} {K : AVal → AHeap A → Prop}
    (hk : if bad = false ∧ (gText s at_).2.2 = 0 then K (.str (gText s at_).1) (o :: o1 :: rRead s (gText s at_).2.1 false :: r) else K (.str []) (o :: o1 :: rRead s at_ true :: r)) :
    Tri Pr R n_ref1_Reader_Text [.ptr 2 0] (o :: o1 :: rRead s at_ bad :: r) K := by
  apply c_ref1_Reader_Text
  unfold p_ref1_Reader_Text
  simp -implicitDefEqProofs [rRead]
  refine ref1_GetText_ok hR s hs at_ ha ?_
  simp -implicitDefEqProofs
  cases bad with
  | true =>
    simp at hk
    simp -implicitDefEqProofs
    exact hk
  | false =>
    by_cases h : (gText s at_).2.2 = 0
    · simp [h] at hk
      simp -implicitDefEqProofs [h]
      exact hk
    · simp [h] at hk
      have h' : ((gText s at_).2.2 != 0) = true := by simpa using h
      simp -implicitDefEqProofs [h']
      exact hk
end Go.AI
