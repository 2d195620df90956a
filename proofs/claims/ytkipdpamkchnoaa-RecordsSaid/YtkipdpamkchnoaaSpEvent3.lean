/- Events are read; the document's events (printed by gen/event_gen3.py). -/
import Derived.Test.YtkipdpamkchnoaaSpEvent2
set_option linter.all false
namespace Go.AI
variable {A : Type} {R : Adts A}
theorem event_Get_ok (hR : R.Ok) (s : Bs0) (hs : s.length < 8000000000000000000) {h : AHeap A} {K : AVal → AHeap A → Prop} (hk : K (evTup (evGet s)) h) : Tri Pr R n_event_Get [.str s] h K := by
  obtain ⟨k, t0, e, hg⟩ : ∃ k t e, gNum s 0 = (k, t, e) := ⟨_, _, _, rfl⟩
  by_cases he : e = 0
  · subst he
    have q := gNum_enc hg
    have hk0 : 0 ≤ k := by have := q.1; simp [nMay] at this; omega
    by_cases h9 : 9 < k
    · have f0 : (k == 0) = false := by simp; omega
      have f1 : (k == 1) = false := by simp; omega
      have f2 : (k == 2) = false := by simp; omega
      have f3 : (k == 3) = false := by simp; omega
      have f4 : (k == 4) = false := by simp; omega
      have f5 : (k == 5) = false := by simp; omega
      have f6 : (k == 6) = false := by simp; omega
      have f7 : (k == 7) = false := by simp; omega
      have f9 : (k == 9) = false := by simp; omega
      have hmf : ∀ l, evMay (evOf k l) = false := by
        intro l
        cases hm : evMay (evOf k l) with
        | false => rfl
        | true => have := evMay_kind hm; rw [evOf_kind] at this; omega
      have hc : evCount k = 0 := by unfold evCount; rw [if_neg (by omega), if_neg (by omega), if_neg (by omega)]
      have hev : evGet s = none := by simp [evGet, rNums, hg, hc, hmf]
      rw [hev] at hk
      refine Tri.fn1 hR _ (evTup_ix none) rfl ?_ hk
      apply c_event_Get
      unfold p_event_Get
      simp -implicitDefEqProofs
      have hf : (.cells t_field_Reader [.str s, .int .i64 0, .nili] : AObj A) = fRead s 0 .nili := rfl
      rw [hf]
      refine fReader_ok hR s (by omega) 0 (by omega) ?_
      rw [hg]
      dsimp only
      rw [if_pos rfl]
      simp -implicitDefEqProofs
      apply c_event_parts
      unfold p_event_parts
      simp -implicitDefEqProofs [f0, f1, f2, f3, f4, f5, f6, f7, f9]
      repeat (first | refine joinP_go ?_ | simp -implicitDefEqProofs [f0, f1, f2, f3, f4, f5, f6, f7, f9])
      refine loopP_unr 5 ?_
      rw [unr]
      simp -implicitDefEqProofs
      apply c_field_Reader_Done
      unfold p_field_Reader_Done
      simp -implicitDefEqProofs
      refine joinP_go ?_
      by_cases hl : t0 = s.length
      · have hl' : (t0 == (s.length : Int)) = true := by simpa using hl
        simp -implicitDefEqProofs [hl']
        refine event_May_ok hR ⟨k, 0, 0, 0, 0, 0, 0, 0⟩ ?_
        have hm : evMay ⟨k, 0, 0, 0, 0, 0, 0, 0⟩ = false := by
          cases hm : evMay ⟨k, 0, 0, 0, 0, 0, 0, 0⟩ with
          | false => rfl
          | true => have := evMay_kind hm; simp at this; omega
        rw [hm]
        simp -implicitDefEqProofs
        exact Ans.rfl' _
      · have hl' : (t0 == (s.length : Int)) = false := by simpa using hl
        simp -implicitDefEqProofs [hl']
        exact Ans.rfl' _
    · have hc2 : k = 0 ∨ k = 1 ∨ k = 2 ∨ k = 3 ∨ k = 4 ∨ k = 5 ∨ k = 6 ∨ k = 7 ∨ k = 8 ∨ k = 9 := by omega
      rcases hc2 with rfl | rfl | rfl | rfl | rfl | rfl | rfl | rfl | rfl | rfl
      · exact event_Get_0 hR s hs t0 hg hk
      · exact event_Get_1 hR s hs t0 hg hk
      · exact event_Get_2 hR s hs t0 hg hk
      · exact event_Get_3 hR s hs t0 hg hk
      · exact event_Get_4 hR s hs t0 hg hk
      · exact event_Get_5 hR s hs t0 hg hk
      · exact event_Get_6 hR s hs t0 hg hk
      · exact event_Get_7 hR s hs t0 hg hk
      · exact event_Get_8 hR s hs t0 hg hk
      · exact event_Get_9 hR s hs t0 hg hk
  · have hev : evGet s = none := by simp [evGet, rNums, hg, he]
    rw [hev] at hk
    refine Tri.fn1 hR _ (evTup_ix none) rfl ?_ hk
    apply c_event_Get
    unfold p_event_Get
    simp -implicitDefEqProofs
    have hf : (.cells t_field_Reader [.str s, .int .i64 0, .nili] : AObj A) = fRead s 0 .nili := rfl
    rw [hf]
    refine fReader_ok hR s (by omega) 0 (by omega) ?_
    rw [hg]
    dsimp only
    rw [if_neg he]
    intro fa fe
    simp -implicitDefEqProofs
    apply c_event_parts
    unfold p_event_parts
    simp -implicitDefEqProofs [appP, appV, srcOf, cellsAt]
    repeat (first | refine joinP_go ?_ | simp -implicitDefEqProofs [appP, appV, srcOf, cellsAt])
    refine loopP_unr 5 ?_
    rw [unr]
    simp -implicitDefEqProofs
    refine fReader_bad hR s 0 _ _ ?_
    simp -implicitDefEqProofs
    refine Gives.done (by simp) ?_
    rw [unr]
    simp -implicitDefEqProofs
    apply c_field_Reader_Done
    unfold p_field_Reader_Done
    simp -implicitDefEqProofs
    refine joinP_go ?_
    simp -implicitDefEqProofs
    exact Ans.rfl' _
theorem ref1_part_0 (hR : R.Ok) (u s ad a b c t : Int) {h : AHeap A} {K : AVal → AHeap A → Prop} (hk : K (.tup [.agg (Ev.row ⟨0, 0, 0, 0, 0, 0, 0, t⟩), .bool true]) h) : Tri Pr R n_ref1_part [.agg (Ev.row ⟨0, u, s, ad, a, b, c, t⟩)] h K := by
  refine Tri.fn1 hR _ rfl rfl ?_ hk
  apply c_ref1_part
  unfold p_ref1_part
  simp -implicitDefEqProofs [Ev.row]
  repeat (first | refine joinP_go ?_ | simp -implicitDefEqProofs)
  exact Ans.rfl' _
theorem ref1_part_1 (hR : R.Ok) (u s ad a b c t : Int) {h : AHeap A} {K : AVal → AHeap A → Prop} (hk : K (.tup [.agg (Ev.row ⟨1, u, 0, 0, a, b, c, 0⟩), .bool true]) h) : Tri Pr R n_ref1_part [.agg (Ev.row ⟨1, u, s, ad, a, b, c, t⟩)] h K := by
  refine Tri.fn1 hR _ rfl rfl ?_ hk
  apply c_ref1_part
  unfold p_ref1_part
  simp -implicitDefEqProofs [Ev.row]
  repeat (first | refine joinP_go ?_ | simp -implicitDefEqProofs)
  exact Ans.rfl' _
theorem ref1_part_2 (hR : R.Ok) (u s ad a b c t : Int) {h : AHeap A} {K : AVal → AHeap A → Prop} (hk : K (.tup [.agg (Ev.row ⟨2, u, 0, 0, 0, 0, 0, t⟩), .bool true]) h) : Tri Pr R n_ref1_part [.agg (Ev.row ⟨2, u, s, ad, a, b, c, t⟩)] h K := by
  refine Tri.fn1 hR _ rfl rfl ?_ hk
  apply c_ref1_part
  unfold p_ref1_part
  simp -implicitDefEqProofs [Ev.row]
  repeat (first | refine joinP_go ?_ | simp -implicitDefEqProofs)
  exact Ans.rfl' _
theorem ref1_part_3 (hR : R.Ok) (u s ad a b c t : Int) {h : AHeap A} {K : AVal → AHeap A → Prop} (hk : K (.tup [.agg (Ev.row ⟨3, u, 0, 0, a, 0, 0, 0⟩), .bool true]) h) : Tri Pr R n_ref1_part [.agg (Ev.row ⟨3, u, s, ad, a, b, c, t⟩)] h K := by
  refine Tri.fn1 hR _ rfl rfl ?_ hk
  apply c_ref1_part
  unfold p_ref1_part
  simp -implicitDefEqProofs [Ev.row]
  repeat (first | refine joinP_go ?_ | simp -implicitDefEqProofs)
  exact Ans.rfl' _
theorem ref1_part_4 (hR : R.Ok) (u s ad a b c t : Int) {h : AHeap A} {K : AVal → AHeap A → Prop} (hk : K (.tup [.agg (Ev.row ⟨4, u, 0, 0, 0, 0, 0, 0⟩), .bool true]) h) : Tri Pr R n_ref1_part [.agg (Ev.row ⟨4, u, s, ad, a, b, c, t⟩)] h K := by
  refine Tri.fn1 hR _ rfl rfl ?_ hk
  apply c_ref1_part
  unfold p_ref1_part
  simp -implicitDefEqProofs [Ev.row]
  repeat (first | refine joinP_go ?_ | simp -implicitDefEqProofs)
  exact Ans.rfl' _
theorem ref1_part_5 (hR : R.Ok) (u s ad a b c t : Int) {h : AHeap A} {K : AVal → AHeap A → Prop} (hk : K (.tup [.agg (Ev.row ⟨5, u, s, ad, 0, 0, 0, t⟩), .bool true]) h) : Tri Pr R n_ref1_part [.agg (Ev.row ⟨5, u, s, ad, a, b, c, t⟩)] h K := by
  refine Tri.fn1 hR _ rfl rfl ?_ hk
  apply c_ref1_part
  unfold p_ref1_part
  simp -implicitDefEqProofs [Ev.row]
  repeat (first | refine joinP_go ?_ | simp -implicitDefEqProofs)
  exact Ans.rfl' _
theorem ref1_part_6 (hR : R.Ok) (u s ad a b c t : Int) {h : AHeap A} {K : AVal → AHeap A → Prop} (hk : K (.tup [.agg (Ev.row ⟨6, 0, s, 0, a, b, 0, t⟩), .bool true]) h) : Tri Pr R n_ref1_part [.agg (Ev.row ⟨6, u, s, ad, a, b, c, t⟩)] h K := by
  refine Tri.fn1 hR _ rfl rfl ?_ hk
  apply c_ref1_part
  unfold p_ref1_part
  simp -implicitDefEqProofs [Ev.row]
  repeat (first | refine joinP_go ?_ | simp -implicitDefEqProofs)
  exact Ans.rfl' _
theorem ref1_part_7 (hR : R.Ok) (u s ad a b c t : Int) {h : AHeap A} {K : AVal → AHeap A → Prop} (hk : K (.tup [.agg (Ev.row ⟨7, u, 0, 0, 0, 0, 0, 0⟩), .bool true]) h) : Tri Pr R n_ref1_part [.agg (Ev.row ⟨7, u, s, ad, a, b, c, t⟩)] h K := by
  refine Tri.fn1 hR _ rfl rfl ?_ hk
  apply c_ref1_part
  unfold p_ref1_part
  simp -implicitDefEqProofs [Ev.row]
  repeat (first | refine joinP_go ?_ | simp -implicitDefEqProofs)
  exact Ans.rfl' _
theorem ref1_part_8 (hR : R.Ok) (u s ad a b c t : Int) {h : AHeap A} {K : AVal → AHeap A → Prop} (hk : K (.tup [.agg (Ev.row ⟨8, 0, 0, 0, 0, 0, 0, 0⟩), .bool true]) h) : Tri Pr R n_ref1_part [.agg (Ev.row ⟨8, u, s, ad, a, b, c, t⟩)] h K := by
  refine Tri.fn1 hR _ rfl rfl ?_ hk
  apply c_ref1_part
  unfold p_ref1_part
  simp -implicitDefEqProofs [Ev.row]
  repeat (first | refine joinP_go ?_ | simp -implicitDefEqProofs)
  exact Ans.rfl' _
theorem ref1_part_9 (hR : R.Ok) (u s ad a b c t : Int) {h : AHeap A} {K : AVal → AHeap A → Prop} (hk : K (.tup [.agg (Ev.row ⟨9, 0, s, 0, 0, 0, 0, 0⟩), .bool true]) h) : Tri Pr R n_ref1_part [.agg (Ev.row ⟨9, u, s, ad, a, b, c, t⟩)] h K := by
  refine Tri.fn1 hR _ rfl rfl ?_ hk
  apply c_ref1_part
  unfold p_ref1_part
  simp -implicitDefEqProofs [Ev.row]
  repeat (first | refine joinP_go ?_ | simp -implicitDefEqProofs)
  exact Ans.rfl' _
theorem ref1_part_ok (hR : R.Ok) (e : Ev) {h : AHeap A} {K : AVal → AHeap A → Prop} (hk : if 0 ≤ e.kind ∧ e.kind ≤ 9 then K (.tup [.agg (evPlain e).row, .bool true]) h else ∀ f : Ev, K (.tup [.agg f.row, .bool false]) h) : Tri Pr R n_ref1_part [.agg e.row] h K := by
  obtain ⟨k, u, s, ad, a, b, c, t⟩ := e
  simp only at hk
  by_cases hc : 0 ≤ k ∧ k ≤ 9
  · rw [if_pos hc] at hk
    have hc2 : k = 0 ∨ k = 1 ∨ k = 2 ∨ k = 3 ∨ k = 4 ∨ k = 5 ∨ k = 6 ∨ k = 7 ∨ k = 8 ∨ k = 9 := by omega
    rcases hc2 with rfl | rfl | rfl | rfl | rfl | rfl | rfl | rfl | rfl | rfl
    · exact ref1_part_0 hR u s ad a b c t hk
    · exact ref1_part_1 hR u s ad a b c t hk
    · exact ref1_part_2 hR u s ad a b c t hk
    · exact ref1_part_3 hR u s ad a b c t hk
    · exact ref1_part_4 hR u s ad a b c t hk
    · exact ref1_part_5 hR u s ad a b c t hk
    · exact ref1_part_6 hR u s ad a b c t hk
    · exact ref1_part_7 hR u s ad a b c t hk
    · exact ref1_part_8 hR u s ad a b c t hk
    · exact ref1_part_9 hR u s ad a b c t hk
  · rw [if_neg hc] at hk
    have f0 : (k == 0) = false := by simp; omega
    have f1 : (k == 1) = false := by simp; omega
    have f2 : (k == 2) = false := by simp; omega
    have f3 : (k == 3) = false := by simp; omega
    have f4 : (k == 4) = false := by simp; omega
    have f5 : (k == 5) = false := by simp; omega
    have f6 : (k == 6) = false := by simp; omega
    have f7 : (k == 7) = false := by simp; omega
    have f8 : (k == 8) = false := by simp; omega
    have f9 : (k == 9) = false := by simp; omega
    refine Tri.fn1 hR _ rfl rfl ?_ (hk ⟨k, 0, 0, 0, 0, 0, 0, 0⟩)
    apply c_ref1_part
    unfold p_ref1_part
    simp -implicitDefEqProofs [Ev.row, f0, f1, f2, f3, f4, f5, f6, f7, f8, f9]
    repeat (first | refine joinP_go ?_ | simp -implicitDefEqProofs [f0, f1, f2, f3, f4, f5, f6, f7, f8, f9])
    exact Ans.rfl' _
theorem evMay_iff (e : Ev) : evMay e = true ↔ (0 ≤ e.kind ∧ e.kind ≤ 9) ∧ e = evPlain e ∧ (0 ≤ e.user ∧ e.user < 8) ∧ (0 ≤ e.address ∧ e.address < 16) ∧ (0 ≤ e.tick ∧ e.tick ≤ 1048575) ∧ nMay e.session = true ∧ nMay e.a = true ∧ nMay e.b = true ∧ (0 ≤ e.c ∧ e.c ≤ 1048576) ∧ (e.kind = 6 → e.b ≤ 4) := by
  obtain ⟨k, u, s, ad, a, b, c, t⟩ := e
  constructor
  · intro h
    have h1 := evMay_kind h
    have h2 := evMay_plain h
    have h3 := evMay_parts h
    have h4 : (k = 6 → b ≤ 4) ∧ u < 8 ∧ ad < 16 ∧ t ≤ 1048575 ∧ c ≤ 1048576 := by
      unfold evMay at h
      simp only [Bool.and_eq_true, Bool.not_eq_true', Bool.and_eq_false_iff, decide_eq_true_eq, decide_eq_false_iff_not] at h
      obtain ⟨⟨⟨⟨⟨⟨⟨_, a1⟩, _⟩, a2⟩, a3⟩, a4⟩, a5⟩, _⟩ := h
      refine ⟨fun hk => ?_, a2, a3, a4, a5⟩
      rcases a1 with a1 | a1 <;> omega
    simp only at h1
    have hc2 : k = 0 ∨ k = 1 ∨ k = 2 ∨ k = 3 ∨ k = 4 ∨ k = 5 ∨ k = 6 ∨ k = 7 ∨ k = 8 ∨ k = 9 := by omega
    refine ⟨h1, h2, ?_⟩
    rcases hc2 with rfl | rfl | rfl | rfl | rfl | rfl | rfl | rfl | rfl | rfl <;>
      (simp [evPlain, evParts, evOf, ev0] at h2 h3 ⊢; simp [nMay] at h3 ⊢; omega)
  · rintro ⟨h1, h2, h3, h4, h5, h6, h7, h8, h9, h10⟩
    simp only at h1 h3 h4 h5 h6 h7 h8 h9 h10
    unfold evMay
    rw [← h2]
    have hc2 : k = 0 ∨ k = 1 ∨ k = 2 ∨ k = 3 ∨ k = 4 ∨ k = 5 ∨ k = 6 ∨ k = 7 ∨ k = 8 ∨ k = 9 := by omega
    rcases hc2 with rfl | rfl | rfl | rfl | rfl | rfl | rfl | rfl | rfl | rfl <;>
      (simp [evParts]; simp [nMay] at h6 h7 h8 ⊢; omega)
theorem ref1_EventMay_ok (hR : R.Ok) (e : Ev) {h : AHeap A} {K : AVal → AHeap A → Prop} (hk : K (.bool (evMay e)) h) : Tri Pr R n_ref1_EventMay [.agg e.row] h K := by
  refine Tri.fn1 hR _ rfl rfl ?_ hk
  have no : evMay e = true → _ := (evMay_iff e).1
  have bad : ¬ (evMay e = true) → Ans (.bool (evMay e)) (.bool false) := fun h => Ans.of (by simp at h; rw [h])
  apply c_ref1_EventMay
  unfold p_ref1_EventMay
  simp -implicitDefEqProofs [Ev.row]
  refine ref1_part_ok hR e ?_
  by_cases c0 : 0 ≤ e.kind ∧ e.kind ≤ 9
  · rw [if_pos c0]
    have he := shEv (evPlain e) e
    simp only [Ev.row] at he
    by_cases c1 : evPlain e = e
    · have c1' : decide (evPlain e = e) = true := by simpa using c1
      simp -implicitDefEqProofs [Ev.row, he, c1']
      by_cases c2 : e.user < 0
      · simp -implicitDefEqProofs [c2]; exact bad fun h => by have := no h; omega
      by_cases c3 : 8 ≤ e.user
      · simp -implicitDefEqProofs [c2, c3]; exact bad fun h => by have := no h; omega
      by_cases c4 : e.address < 0
      · simp -implicitDefEqProofs [c2, c3, c4]; exact bad fun h => by have := no h; omega
      by_cases c5 : 16 ≤ e.address
      · simp -implicitDefEqProofs [c2, c3, c4, c5]; exact bad fun h => by have := no h; omega
      by_cases c6 : e.tick < 0
      · simp -implicitDefEqProofs [c2, c3, c4, c5, c6]; exact bad fun h => by have := no h; omega
      by_cases c7 : 1048575 < e.tick
      · simp -implicitDefEqProofs [c2, c3, c4, c5, c6, c7]; exact bad fun h => by have := no h; omega
      simp -implicitDefEqProofs [c2, c3, c4, c5, c6, c7]
      refine ref1_num_ok _ ?_
      cases c8 : nMay e.session with
      | false => simp -implicitDefEqProofs; exact bad fun h => by have := no h; simp [c8] at this
      | true =>
        simp -implicitDefEqProofs
        refine ref1_num_ok _ ?_
        cases c9 : nMay e.a with
        | false => simp -implicitDefEqProofs; exact bad fun h => by have := no h; simp [c9] at this
        | true =>
          simp -implicitDefEqProofs
          refine ref1_num_ok _ ?_
          cases c10 : nMay e.b with
          | false => simp -implicitDefEqProofs; exact bad fun h => by have := no h; simp [c10] at this
          | true =>
            simp -implicitDefEqProofs
            by_cases c11 : e.c < 0
            · simp -implicitDefEqProofs [c11]; exact bad fun h => by have := no h; omega
            by_cases c12 : 1048576 < e.c
            · simp -implicitDefEqProofs [c11, c12]; exact bad fun h => by have := no h; omega
            by_cases c13 : e.kind = 6
            · have c13' : (e.kind != 6) = false := by simp [c13]
              by_cases c14 : e.b ≤ 4
              · simp -implicitDefEqProofs [c11, c12, c13', c14]
                exact Ans.of (by rw [(evMay_iff e).2 ⟨c0, c1.symm, by omega, by omega, by omega, c8, c9, c10, by omega, fun _ => c14⟩])
              · simp -implicitDefEqProofs [c11, c12, c13', c14]; exact bad fun h => by have := no h; omega
            · have c13' : (e.kind != 6) = true := by simpa using c13
              simp -implicitDefEqProofs [c11, c12, c13']
              exact Ans.of (by rw [(evMay_iff e).2 ⟨c0, c1.symm, by omega, by omega, by omega, c8, c9, c10, by omega, fun h => absurd h c13⟩])
    · have c1' : decide (evPlain e = e) = false := by simpa using c1
      simp -implicitDefEqProofs [Ev.row, he, c1']
      exact bad fun h => c1 (no h).2.1.symm
  · rw [if_neg c0]
    intro f
    simp -implicitDefEqProofs [Ev.row]
    exact bad fun h => c0 (no h).1
end Go.AI
