/- Records. -/
import Derived.Test.YtkipdpamkchnoaaSpText
import Derived.Test.YtkipdpamkchnoaaSpSuper
set_option linter.all false
namespace Go.AI
variable {A : Type} {R : Adts A}
theorem recRow_ix (r : Rec) (n : Nat) : ixs n r.row = true := rfl
theorem record_body_ok (hR : R.Ok) (r : Rec) {h : AHeap A} {b : Nat} (hb : h[b]? = some (.cells t_api_Record r.row)) {K : AVal → AHeap A → Prop}
    (hk : if recMay r = true then K (.tup [.str (recBody r), .bool true]) h else K (.tup [.str [], .bool false]) h) : Tri Pr R n_record_body [.ptr b 0] h K := by
  have hren : ∀ τ, (AObj.cells t_api_Record r.row : AObj A).ren R τ = .cells t_api_Record r.row := fun τ => by
    simp only [AObj.ren]; rw [rens_ix0 τ _ (recRow_ix r 0)]
  refine Tri.own hR (as2 := [.ptr 0 0]) (Q := fun v o => v = (if recMay r = true then .tup [.str (recBody r), .bool true] else .tup [.str [], .bool false]) ∧ o = .cells t_api_Record r.row) rfl (show (AObj.cells t_api_Record r.row : AObj A).ix R 1 from recRow_ix r 1) ?_ hren ?_ hb (by simp [rens, AVal.ren]) ?_
  · rintro _ _ ⟨rfl, rfl⟩; exact ⟨by split <;> rfl, hren⟩
  · obtain ⟨v0, hv0⟩ : ∃ v0 : AVal, (if recMay r = true then .tup [.str (recBody r), .bool true] else .tup [.str [], .bool false]) = v0 := ⟨_, rfl⟩
    rw [hv0]
    have fin : ∀ (rs : AHeap A), v0.ix 0 = true → Gives Pr R 1 (.cells t_api_Record r.row :: rs) [v0] fun vs h2 => ∃ v, vs = [v] ∧ ∃ o', (v = v0 ∧ o' = .cells t_api_Record r.row) ∧ h2 = [o'] := fun rs hv =>
      Gives.cut hR (m := 1) (by omega) (by simp) (by simp [ixs, ix_mono (Nat.zero_le 1) _ hv]) (by simp; exact ⟨recRow_ix r 1, fun τ _ => hren τ⟩) ⟨_, rfl, _, ⟨rfl, rfl⟩, rfl⟩
    have hvix : v0.ix 0 = true := by rw [← hv0]; split <;> rfl
    refine Tri.post ?_
    apply c_record_body
    unfold p_record_body
    have bad : recMay r = false → v0 = .tup [.str [], .bool false] := fun h => by rw [← hv0, h]; rfl
    simp -implicitDefEqProofs [Rec.row, Ev.row]
    refine event_Put_ok hR r.ev ?_
    have go : ∀ (s : Bs0) (e : Int), ((e = 0 ∧ evMay r.ev = true ∧ s = evPut r.ev) ∨ (e ≠ 0 ∧ evMay r.ev = false)) → True := fun _ _ _ => trivial
    cases hm : evMay r.ev with
    | false =>
      have hr : recMay r = false := by simp [recMay, hm]
      have hv := bad hr
      rw [if_neg (by simp)]
      simp -implicitDefEqProofs
      refine field_All_ok hR [r.seq, r.boot, r.prev] (by simp) true (t := t_int) (by simp) ?_
      split
      · simp -implicitDefEqProofs; rw [← hv]; exact fin _ hvix
      · simp -implicitDefEqProofs; rw [← hv]; exact fin _ hvix
    | true =>
      rw [if_pos rfl]
      simp -implicitDefEqProofs
      refine field_All_ok hR [r.seq, r.boot, r.prev] (by simp) true (t := t_int) (by simp) ?_
      cases ha : [r.seq, r.boot, r.prev].all nMay with
      | false =>
        have hr : recMay r = false := by
          rw [Bool.eq_false_iff]
          intro h
          obtain ⟨_, _, a1, _, a2, a3, _⟩ := recMay_all h
          simp [a1, a2, a3] at ha
        have hv := bad hr
        rw [if_neg (by simp)]
        simp -implicitDefEqProofs; rw [← hv]; exact fin _ hvix
      | true =>
        rw [if_pos rfl]
        have hl := evPut_len hm
        have c3 : ¬ (44 : Int) < (evPut r.ev).length := by omega
        by_cases c1 : r.seq < 1
        · have hr : recMay r = false := by
            rw [Bool.eq_false_iff]; intro h
            have := (recMay_all h).2.1; omega
          have hv := bad hr
          simp -implicitDefEqProofs [c1]; rw [← hv]; exact fin _ hvix
        by_cases c2 : r.boot < 1
        · have hr : recMay r = false := by
            rw [Bool.eq_false_iff]; intro h
            have := (recMay_all h).2.2.2.1; omega
          have hv := bad hr
          simp -implicitDefEqProofs [c1, c2]; rw [← hv]; exact fin _ hvix
        have hr : recMay r = true := by
          simp at ha
          simp [recMay, hm, ha]; omega
        rw [if_pos hr] at hv0
        simp -implicitDefEqProofs [c1, c2, c3]
        refine field_Text_ok hR _ (by omega) ?_
        have l1 := nAll_len [r.seq, r.boot, r.prev]
        have l2 := nS_len ((evPut r.ev).length : Int)
        simp only [List.length_cons, List.length_nil] at l1
        have g : (nAll [r.seq, r.boot, r.prev]).length + ((nS ((evPut r.ev).length : Int)).length + (evPut r.ev).length) < 9223372036854775808 := by omega
        simp -implicitDefEqProofs [g]
        have hv1 : AVal.tup [.str (nAll [r.seq, r.boot, r.prev] ++ (nS (evPut r.ev).length ++ evPut r.ev)), .bool true] = v0 := hv0
        rw [hv1]
        exact fin _ hvix
  · rintro _ _ ⟨rfl, rfl⟩
    rw [set_same hb]
    split at hk <;> rename_i h1 <;> simp [h1] <;> exact hk
section
variable {mk : Int → List Bs → A}
theorem record_Put_ok (hR : R.Ok) (hB : HasBook R mk) {m : Int} {ts : List Bs} (hok : bOk m ts) (r : Rec) {h : AHeap A} {b : Nat} (hb : h[b]? = some (.adt (mk m ts))) {K : AVal → AHeap A → Prop}
    (hk : K (.tup [.str (recPut m ts r).2.1, .int .i64 (recPut m ts r).2.2.1, .int .i64 (recPut m ts r).2.2.2]) (h.set b (.adt (mk m (recPut m ts r).1)))) : Tri Pr R n_record_Put [.ptr b 0, .agg r.row] h K := by
  refine book_own hR hB rfl rfl ?_ hb hk
  apply c_record_Put
  unfold p_record_Put
  obtain ⟨q, hq⟩ : ∃ q, recPut m ts r = q := ⟨_, rfl⟩
  rw [hq]
  unfold recPut at hq
  simp -implicitDefEqProofs [Rec.row, Ev.row]
  refine record_body_ok hR r rfl ?_
  cases hm : recMay r with
  | false =>
    rw [hm] at hq
    simp at hq; subst hq
    rw [if_neg (by simp)]
    simp -implicitDefEqProofs
  | true =>
    rw [if_pos hm] at hq
    rw [if_pos rfl]
    have hl := recBody_len hm
    have g1 : 6 + (recBody r).length < 9223372036854775808 := by omega
    simp -implicitDefEqProofs [g1]
    refine craft_Hash_ok hR hB hok _ (by simp; omega) rfl ?_
    have hc : 72 :: 114 :: 101 :: 99 :: 111 :: 114 :: 100 :: recBody r = recT r := rfl
    rw [hc]
    by_cases h5 : (cMade m ts (recT r)).2.2 = 0
    · rw [if_pos h5] at hq
      have hl2 := nS_len (cMade m ts (recT r)).2.1
      have g2 : (recBody r).length + (nS (cMade m ts (recT r)).2.1).length < 9223372036854775808 := by omega
      simp -implicitDefEqProofs [h5]
      refine field_Num_any hR _ ?_
      simp -implicitDefEqProofs [g2]
      by_cases h6 : (recBody r ++ nS (cMade m ts (recT r)).2.1).length ≤ 64
      · rw [if_pos h6] at hq; subst hq
        refine record_Fill_ok hR _ h6 ?_
        simp -implicitDefEqProofs
      · rw [if_neg h6] at hq; subst hq
        apply c_record_Fill
        unfold p_record_Fill
        have h7 : (64 : Int) < (recBody r).length + (nS (cMade m ts (recT r)).2.1).length := by simp at h6; omega
        simp -implicitDefEqProofs [h7]
    · rw [if_neg h5] at hq; subst hq
      have h6 : ((cMade m ts (recT r)).2.2 != 0) = true := by simpa using h5
      simp -implicitDefEqProofs [h6]
end
end Go.AI
