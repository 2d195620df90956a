/- Events are written, are read (printed by gen/event_gen2.py). -/
import Derived.Test.YtjnnihaofffkfaaGreatMbJournals
set_option linter.all false
namespace Go.AI
variable {A : Type} {R : Adts A}
theorem event_Put_0 (hR : R.Ok) (u s ad a b c t : Int) (hm : evMay ⟨0, u, s, ad, a, b, c, t⟩ = true) {h : AHeap A} {K : AVal → AHeap A → Prop} (hk : K (.tup [.str (evPut ⟨0, u, s, ad, a, b, c, t⟩), .int .i64 0]) h) : Tri Pr R n_event_Put [.agg (Ev.row ⟨0, u, s, ad, a, b, c, t⟩)] h K := by
  refine Tri.fn1 hR _ rfl rfl ?_ hk
  apply c_event_Put
  unfold p_event_Put
  simp -implicitDefEqProofs [Ev.row]
  refine event_May_ok hR ⟨0, u, s, ad, a, b, c, t⟩ ?_
  rw [hm]
  have l0 := nS_len 0
  have l1 := nS_len t
  have g1 : (nS 0).length + (nS t).length < 9223372036854775808 := by omega
  simp -implicitDefEqProofs
  refine field_Num_any hR _ ?_
  simp -implicitDefEqProofs
  apply c_event_parts
  unfold p_event_parts
  simp -implicitDefEqProofs [appP, appV, srcOf, cellsAt]
  repeat (first | refine joinP_go ?_ | simp -implicitDefEqProofs [appP, appV, srcOf, cellsAt])
  refine loopP_unr 5 ?_
  rw [unr]
  simp -implicitDefEqProofs
  refine field_Num_any hR _ ?_
  simp -implicitDefEqProofs [g1]
  refine Gives.done (by simp) ?_
  rw [unr]
  simp -implicitDefEqProofs
  exact Ans.of (by simp [evPut, nAll, evParts])
theorem event_Put_1 (hR : R.Ok) (u s ad a b c t : Int) (hm : evMay ⟨1, u, s, ad, a, b, c, t⟩ = true) {h : AHeap A} {K : AVal → AHeap A → Prop} (hk : K (.tup [.str (evPut ⟨1, u, s, ad, a, b, c, t⟩), .int .i64 0]) h) : Tri Pr R n_event_Put [.agg (Ev.row ⟨1, u, s, ad, a, b, c, t⟩)] h K := by
  refine Tri.fn1 hR _ rfl rfl ?_ hk
  apply c_event_Put
  unfold p_event_Put
  simp -implicitDefEqProofs [Ev.row]
  refine event_May_ok hR ⟨1, u, s, ad, a, b, c, t⟩ ?_
  rw [hm]
  have l0 := nS_len 1
  have l1 := nS_len u
  have l2 := nS_len a
  have l3 := nS_len b
  have l4 := nS_len c
  have g1 : (nS 1).length + (nS u).length < 9223372036854775808 := by omega
  have g2 : (nS 1).length + (nS u).length + (nS a).length < 9223372036854775808 := by omega
  have g3 : (nS 1).length + ((nS u).length + (nS a).length) + (nS b).length < 9223372036854775808 := by omega
  have g4 : (nS 1).length + ((nS u).length + ((nS a).length + (nS b).length)) + (nS c).length < 9223372036854775808 := by omega
  simp -implicitDefEqProofs
  refine field_Num_any hR _ ?_
  simp -implicitDefEqProofs
  apply c_event_parts
  unfold p_event_parts
  simp -implicitDefEqProofs [appP, appV, srcOf, cellsAt]
  repeat (first | refine joinP_go ?_ | simp -implicitDefEqProofs [appP, appV, srcOf, cellsAt])
  refine loopP_unr 5 ?_
  rw [unr]
  simp -implicitDefEqProofs
  refine field_Num_any hR _ ?_
  simp -implicitDefEqProofs [g1]
  refine Gives.done (by simp) ?_
  rw [unr]
  simp -implicitDefEqProofs
  refine field_Num_any hR _ ?_
  simp -implicitDefEqProofs [g2]
  refine Gives.done (by simp) ?_
  rw [unr]
  simp -implicitDefEqProofs
  refine field_Num_any hR _ ?_
  simp -implicitDefEqProofs [g3]
  refine Gives.done (by simp) ?_
  rw [unr]
  simp -implicitDefEqProofs
  refine field_Num_any hR _ ?_
  simp -implicitDefEqProofs [g4]
  refine Gives.done (by simp) ?_
  rw [unr]
  simp -implicitDefEqProofs
  exact Ans.of (by simp [evPut, nAll, evParts])
theorem event_Put_2 (hR : R.Ok) (u s ad a b c t : Int) (hm : evMay ⟨2, u, s, ad, a, b, c, t⟩ = true) {h : AHeap A} {K : AVal → AHeap A → Prop} (hk : K (.tup [.str (evPut ⟨2, u, s, ad, a, b, c, t⟩), .int .i64 0]) h) : Tri Pr R n_event_Put [.agg (Ev.row ⟨2, u, s, ad, a, b, c, t⟩)] h K := by
  refine Tri.fn1 hR _ rfl rfl ?_ hk
  apply c_event_Put
  unfold p_event_Put
  simp -implicitDefEqProofs [Ev.row]
  refine event_May_ok hR ⟨2, u, s, ad, a, b, c, t⟩ ?_
  rw [hm]
  have l0 := nS_len 2
  have l1 := nS_len u
  have l2 := nS_len t
  have g1 : (nS 2).length + (nS u).length < 9223372036854775808 := by omega
  have g2 : (nS 2).length + (nS u).length + (nS t).length < 9223372036854775808 := by omega
  simp -implicitDefEqProofs
  refine field_Num_any hR _ ?_
  simp -implicitDefEqProofs
  apply c_event_parts
  unfold p_event_parts
  simp -implicitDefEqProofs [appP, appV, srcOf, cellsAt]
  repeat (first | refine joinP_go ?_ | simp -implicitDefEqProofs [appP, appV, srcOf, cellsAt])
  refine loopP_unr 5 ?_
  rw [unr]
  simp -implicitDefEqProofs
  refine field_Num_any hR _ ?_
  simp -implicitDefEqProofs [g1]
  refine Gives.done (by simp) ?_
  rw [unr]
  simp -implicitDefEqProofs
  refine field_Num_any hR _ ?_
  simp -implicitDefEqProofs [g2]
  refine Gives.done (by simp) ?_
  rw [unr]
  simp -implicitDefEqProofs
  exact Ans.of (by simp [evPut, nAll, evParts])
theorem event_Put_3 (hR : R.Ok) (u s ad a b c t : Int) (hm : evMay ⟨3, u, s, ad, a, b, c, t⟩ = true) {h : AHeap A} {K : AVal → AHeap A → Prop} (hk : K (.tup [.str (evPut ⟨3, u, s, ad, a, b, c, t⟩), .int .i64 0]) h) : Tri Pr R n_event_Put [.agg (Ev.row ⟨3, u, s, ad, a, b, c, t⟩)] h K := by
  refine Tri.fn1 hR _ rfl rfl ?_ hk
  apply c_event_Put
  unfold p_event_Put
  simp -implicitDefEqProofs [Ev.row]
  refine event_May_ok hR ⟨3, u, s, ad, a, b, c, t⟩ ?_
  rw [hm]
  have l0 := nS_len 3
  have l1 := nS_len u
  have l2 := nS_len a
  have g1 : (nS 3).length + (nS u).length < 9223372036854775808 := by omega
  have g2 : (nS 3).length + (nS u).length + (nS a).length < 9223372036854775808 := by omega
  simp -implicitDefEqProofs
  refine field_Num_any hR _ ?_
  simp -implicitDefEqProofs
  apply c_event_parts
  unfold p_event_parts
  simp -implicitDefEqProofs [appP, appV, srcOf, cellsAt]
  repeat (first | refine joinP_go ?_ | simp -implicitDefEqProofs [appP, appV, srcOf, cellsAt])
  refine loopP_unr 5 ?_
  rw [unr]
  simp -implicitDefEqProofs
  refine field_Num_any hR _ ?_
  simp -implicitDefEqProofs [g1]
  refine Gives.done (by simp) ?_
  rw [unr]
  simp -implicitDefEqProofs
  refine field_Num_any hR _ ?_
  simp -implicitDefEqProofs [g2]
  refine Gives.done (by simp) ?_
  rw [unr]
  simp -implicitDefEqProofs
  exact Ans.of (by simp [evPut, nAll, evParts])
theorem event_Put_4 (hR : R.Ok) (u s ad a b c t : Int) (hm : evMay ⟨4, u, s, ad, a, b, c, t⟩ = true) {h : AHeap A} {K : AVal → AHeap A → Prop} (hk : K (.tup [.str (evPut ⟨4, u, s, ad, a, b, c, t⟩), .int .i64 0]) h) : Tri Pr R n_event_Put [.agg (Ev.row ⟨4, u, s, ad, a, b, c, t⟩)] h K := by
  refine Tri.fn1 hR _ rfl rfl ?_ hk
  apply c_event_Put
  unfold p_event_Put
  simp -implicitDefEqProofs [Ev.row]
  refine event_May_ok hR ⟨4, u, s, ad, a, b, c, t⟩ ?_
  rw [hm]
  have l0 := nS_len 4
  have l1 := nS_len u
  have g1 : (nS 4).length + (nS u).length < 9223372036854775808 := by omega
  simp -implicitDefEqProofs
  refine field_Num_any hR _ ?_
  simp -implicitDefEqProofs
  apply c_event_parts
  unfold p_event_parts
  simp -implicitDefEqProofs [appP, appV, srcOf, cellsAt]
  repeat (first | refine joinP_go ?_ | simp -implicitDefEqProofs [appP, appV, srcOf, cellsAt])
  refine loopP_unr 5 ?_
  rw [unr]
  simp -implicitDefEqProofs
  refine field_Num_any hR _ ?_
  simp -implicitDefEqProofs [g1]
  refine Gives.done (by simp) ?_
  rw [unr]
  simp -implicitDefEqProofs
  exact Ans.of (by simp [evPut, nAll, evParts])
theorem event_Put_5 (hR : R.Ok) (u s ad a b c t : Int) (hm : evMay ⟨5, u, s, ad, a, b, c, t⟩ = true) {h : AHeap A} {K : AVal → AHeap A → Prop} (hk : K (.tup [.str (evPut ⟨5, u, s, ad, a, b, c, t⟩), .int .i64 0]) h) : Tri Pr R n_event_Put [.agg (Ev.row ⟨5, u, s, ad, a, b, c, t⟩)] h K := by
  refine Tri.fn1 hR _ rfl rfl ?_ hk
  apply c_event_Put
  unfold p_event_Put
  simp -implicitDefEqProofs [Ev.row]
  refine event_May_ok hR ⟨5, u, s, ad, a, b, c, t⟩ ?_
  rw [hm]
  have l0 := nS_len 5
  have l1 := nS_len s
  have l2 := nS_len u
  have l3 := nS_len ad
  have l4 := nS_len t
  have g1 : (nS 5).length + (nS s).length < 9223372036854775808 := by omega
  have g2 : (nS 5).length + (nS s).length + (nS u).length < 9223372036854775808 := by omega
  have g3 : (nS 5).length + ((nS s).length + (nS u).length) + (nS ad).length < 9223372036854775808 := by omega
  have g4 : (nS 5).length + ((nS s).length + ((nS u).length + (nS ad).length)) + (nS t).length < 9223372036854775808 := by omega
  simp -implicitDefEqProofs
  refine field_Num_any hR _ ?_
  simp -implicitDefEqProofs
  apply c_event_parts
  unfold p_event_parts
  simp -implicitDefEqProofs [appP, appV, srcOf, cellsAt]
  repeat (first | refine joinP_go ?_ | simp -implicitDefEqProofs [appP, appV, srcOf, cellsAt])
  refine loopP_unr 5 ?_
  rw [unr]
  simp -implicitDefEqProofs
  refine field_Num_any hR _ ?_
  simp -implicitDefEqProofs [g1]
  refine Gives.done (by simp) ?_
  rw [unr]
  simp -implicitDefEqProofs
  refine field_Num_any hR _ ?_
  simp -implicitDefEqProofs [g2]
  refine Gives.done (by simp) ?_
  rw [unr]
  simp -implicitDefEqProofs
  refine field_Num_any hR _ ?_
  simp -implicitDefEqProofs [g3]
  refine Gives.done (by simp) ?_
  rw [unr]
  simp -implicitDefEqProofs
  refine field_Num_any hR _ ?_
  simp -implicitDefEqProofs [g4]
  refine Gives.done (by simp) ?_
  rw [unr]
  simp -implicitDefEqProofs
  exact Ans.of (by simp [evPut, nAll, evParts])
theorem event_Put_6 (hR : R.Ok) (u s ad a b c t : Int) (hm : evMay ⟨6, u, s, ad, a, b, c, t⟩ = true) {h : AHeap A} {K : AVal → AHeap A → Prop} (hk : K (.tup [.str (evPut ⟨6, u, s, ad, a, b, c, t⟩), .int .i64 0]) h) : Tri Pr R n_event_Put [.agg (Ev.row ⟨6, u, s, ad, a, b, c, t⟩)] h K := by
  refine Tri.fn1 hR _ rfl rfl ?_ hk
  apply c_event_Put
  unfold p_event_Put
  simp -implicitDefEqProofs [Ev.row]
  refine event_May_ok hR ⟨6, u, s, ad, a, b, c, t⟩ ?_
  rw [hm]
  have l0 := nS_len 6
  have l1 := nS_len s
  have l2 := nS_len a
  have l3 := nS_len b
  have l4 := nS_len t
  have g1 : (nS 6).length + (nS s).length < 9223372036854775808 := by omega
  have g2 : (nS 6).length + (nS s).length + (nS a).length < 9223372036854775808 := by omega
  have g3 : (nS 6).length + ((nS s).length + (nS a).length) + (nS b).length < 9223372036854775808 := by omega
  have g4 : (nS 6).length + ((nS s).length + ((nS a).length + (nS b).length)) + (nS t).length < 9223372036854775808 := by omega
  simp -implicitDefEqProofs
  refine field_Num_any hR _ ?_
  simp -implicitDefEqProofs
  apply c_event_parts
  unfold p_event_parts
  simp -implicitDefEqProofs [appP, appV, srcOf, cellsAt]
  repeat (first | refine joinP_go ?_ | simp -implicitDefEqProofs [appP, appV, srcOf, cellsAt])
  refine loopP_unr 5 ?_
  rw [unr]
  simp -implicitDefEqProofs
  refine field_Num_any hR _ ?_
  simp -implicitDefEqProofs [g1]
  refine Gives.done (by simp) ?_
  rw [unr]
  simp -implicitDefEqProofs
  refine field_Num_any hR _ ?_
  simp -implicitDefEqProofs [g2]
  refine Gives.done (by simp) ?_
  rw [unr]
  simp -implicitDefEqProofs
  refine field_Num_any hR _ ?_
  simp -implicitDefEqProofs [g3]
  refine Gives.done (by simp) ?_
  rw [unr]
  simp -implicitDefEqProofs
  refine field_Num_any hR _ ?_
  simp -implicitDefEqProofs [g4]
  refine Gives.done (by simp) ?_
  rw [unr]
  simp -implicitDefEqProofs
  exact Ans.of (by simp [evPut, nAll, evParts])
theorem event_Put_7 (hR : R.Ok) (u s ad a b c t : Int) (hm : evMay ⟨7, u, s, ad, a, b, c, t⟩ = true) {h : AHeap A} {K : AVal → AHeap A → Prop} (hk : K (.tup [.str (evPut ⟨7, u, s, ad, a, b, c, t⟩), .int .i64 0]) h) : Tri Pr R n_event_Put [.agg (Ev.row ⟨7, u, s, ad, a, b, c, t⟩)] h K := by
  refine Tri.fn1 hR _ rfl rfl ?_ hk
  apply c_event_Put
  unfold p_event_Put
  simp -implicitDefEqProofs [Ev.row]
  refine event_May_ok hR ⟨7, u, s, ad, a, b, c, t⟩ ?_
  rw [hm]
  have l0 := nS_len 7
  have l1 := nS_len u
  have g1 : (nS 7).length + (nS u).length < 9223372036854775808 := by omega
  simp -implicitDefEqProofs
  refine field_Num_any hR _ ?_
  simp -implicitDefEqProofs
  apply c_event_parts
  unfold p_event_parts
  simp -implicitDefEqProofs [appP, appV, srcOf, cellsAt]
  repeat (first | refine joinP_go ?_ | simp -implicitDefEqProofs [appP, appV, srcOf, cellsAt])
  refine loopP_unr 5 ?_
  rw [unr]
  simp -implicitDefEqProofs
  refine field_Num_any hR _ ?_
  simp -implicitDefEqProofs [g1]
  refine Gives.done (by simp) ?_
  rw [unr]
  simp -implicitDefEqProofs
  exact Ans.of (by simp [evPut, nAll, evParts])
theorem event_Put_8 (hR : R.Ok) (u s ad a b c t : Int) (hm : evMay ⟨8, u, s, ad, a, b, c, t⟩ = true) {h : AHeap A} {K : AVal → AHeap A → Prop} (hk : K (.tup [.str (evPut ⟨8, u, s, ad, a, b, c, t⟩), .int .i64 0]) h) : Tri Pr R n_event_Put [.agg (Ev.row ⟨8, u, s, ad, a, b, c, t⟩)] h K := by
  refine Tri.fn1 hR _ rfl rfl ?_ hk
  apply c_event_Put
  unfold p_event_Put
  simp -implicitDefEqProofs [Ev.row]
  refine event_May_ok hR ⟨8, u, s, ad, a, b, c, t⟩ ?_
  rw [hm]
  have l0 := nS_len 8
  simp -implicitDefEqProofs
  refine field_Num_any hR _ ?_
  simp -implicitDefEqProofs
  apply c_event_parts
  unfold p_event_parts
  simp -implicitDefEqProofs [appP, appV, srcOf, cellsAt]
  repeat (first | refine joinP_go ?_ | simp -implicitDefEqProofs [appP, appV, srcOf, cellsAt])
  refine loopP_unr 5 ?_
  rw [unr]
  simp -implicitDefEqProofs
  exact Ans.of (by simp [evPut, nAll, evParts])
theorem event_Put_9 (hR : R.Ok) (u s ad a b c t : Int) (hm : evMay ⟨9, u, s, ad, a, b, c, t⟩ = true) {h : AHeap A} {K : AVal → AHeap A → Prop} (hk : K (.tup [.str (evPut ⟨9, u, s, ad, a, b, c, t⟩), .int .i64 0]) h) : Tri Pr R n_event_Put [.agg (Ev.row ⟨9, u, s, ad, a, b, c, t⟩)] h K := by
  refine Tri.fn1 hR _ rfl rfl ?_ hk
  apply c_event_Put
  unfold p_event_Put
  simp -implicitDefEqProofs [Ev.row]
  refine event_May_ok hR ⟨9, u, s, ad, a, b, c, t⟩ ?_
  rw [hm]
  have l0 := nS_len 9
  have l1 := nS_len s
  have g1 : (nS 9).length + (nS s).length < 9223372036854775808 := by omega
  simp -implicitDefEqProofs
  refine field_Num_any hR _ ?_
  simp -implicitDefEqProofs
  apply c_event_parts
  unfold p_event_parts
  simp -implicitDefEqProofs [appP, appV, srcOf, cellsAt]
  repeat (first | refine joinP_go ?_ | simp -implicitDefEqProofs [appP, appV, srcOf, cellsAt])
  refine loopP_unr 5 ?_
  rw [unr]
  simp -implicitDefEqProofs
  refine field_Num_any hR _ ?_
  simp -implicitDefEqProofs [g1]
  refine Gives.done (by simp) ?_
  rw [unr]
  simp -implicitDefEqProofs
  exact Ans.of (by simp [evPut, nAll, evParts])
theorem event_Put_ok (hR : R.Ok) (e : Ev) {h : AHeap A} {K : AVal → AHeap A → Prop} (hk : if evMay e = true then K (.tup [.str (evPut e), .int .i64 0]) h else K (.tup [.str [], .int .i64 700]) h) : Tri Pr R n_event_Put [.agg e.row] h K := by
  cases hm : evMay e with
  | false =>
    rw [hm] at hk
    simp at hk
    refine Tri.fn1 hR _ rfl rfl ?_ hk
    obtain ⟨k, u, s, ad, a, b, c, t⟩ := e
    apply c_event_Put
    unfold p_event_Put
    simp -implicitDefEqProofs [Ev.row]
    refine event_May_ok hR ⟨k, u, s, ad, a, b, c, t⟩ ?_
    rw [hm]
    simp -implicitDefEqProofs
    exact Ans.rfl' _
  | true =>
    rw [if_pos hm] at hk
    have hc := evMay_kind hm
    obtain ⟨k, u, s, ad, a, b, c, t⟩ := e
    simp only at hc
    have hc2 : k = 0 ∨ k = 1 ∨ k = 2 ∨ k = 3 ∨ k = 4 ∨ k = 5 ∨ k = 6 ∨ k = 7 ∨ k = 8 ∨ k = 9 := by omega
    rcases hc2 with rfl | rfl | rfl | rfl | rfl | rfl | rfl | rfl | rfl | rfl
    · exact event_Put_0 hR u s ad a b c t hm hk
    · exact event_Put_1 hR u s ad a b c t hm hk
    · exact event_Put_2 hR u s ad a b c t hm hk
    · exact event_Put_3 hR u s ad a b c t hm hk
    · exact event_Put_4 hR u s ad a b c t hm hk
    · exact event_Put_5 hR u s ad a b c t hm hk
    · exact event_Put_6 hR u s ad a b c t hm hk
    · exact event_Put_7 hR u s ad a b c t hm hk
    · exact event_Put_8 hR u s ad a b c t hm hk
    · exact event_Put_9 hR u s ad a b c t hm hk
/-- What reading an event tells. -/
def evTup (o : Option Ev) : AVal := match o with | some e => .tup [.agg e.row, .int .i64 0] | none => .tup [.agg ev0.row, .int .i64 700]
theorem evTup_ix (o : Option Ev) : (evTup o).ix 0 = true := by cases o <;> rfl
theorem event_Get_0 (hR : R.Ok) (s : Bs0) (hs : s.length < 8000000000000000000) (t0 : Int) (hg : gNum s 0 = (0, t0, 0)) {h : AHeap A} {K : AVal → AHeap A → Prop} (hk : K (evTup (evGet s)) h) : Tri Pr R n_event_Get [.str s] h K := by
  refine Tri.fn1 hR _ (evTup_ix _) rfl ?_ hk
  have q := gNum_enc hg
  apply c_event_Get
  unfold p_event_Get
  simp -implicitDefEqProofs
  have hf : (.cells t_field_Reader [.str s, .int .i64 0, .nili] : AObj A) = fRead s 0 .nili := rfl
  rw [hf]
  refine fReader_ok hR s (by omega) 0 (by omega) ?_
  rw [hg]
  dsimp only
  rw [if_pos rfl]
  simp -implicitDefEqProofs
  apply c_event_parts
  unfold p_event_parts
  simp -implicitDefEqProofs [appP, appV, srcOf, cellsAt]
  repeat (first | refine joinP_go ?_ | simp -implicitDefEqProofs [appP, appV, srcOf, cellsAt])
  refine loopP_unr 5 ?_
  rw [unr]
  simp -implicitDefEqProofs
  refine fReader_ok hR s (by omega) t0 (by omega) ?_
  obtain ⟨x0, t1, e0, hg0⟩ : ∃ x t e, gNum s t0 = (x, t, e) := ⟨_, _, _, rfl⟩
  rw [hg0]
  dsimp only
  by_cases he0 : e0 = 0
  · subst he0
    have q0 := gNum_enc hg0
    rw [if_pos rfl]
    simp -implicitDefEqProofs
    refine Gives.done (by simp) ?_
    rw [unr]
    simp -implicitDefEqProofs
    apply c_field_Reader_Done
    unfold p_field_Reader_Done
    simp -implicitDefEqProofs
    refine joinP_go ?_
    by_cases hl : t1 = s.length
    · have hl' : (t1 == (s.length : Int)) = true := by simpa using hl
      simp -implicitDefEqProofs [hl']
      refine event_May_ok hR ⟨0, 0, 0, 0, 0, 0, 0, x0⟩ ?_
      have hev : evGet s = if evMay ⟨0, 0, 0, 0, 0, 0, 0, x0⟩ = true then some ⟨0, 0, 0, 0, 0, 0, 0, x0⟩ else none := by simp [evGet, rNums, evCount, evOf, ev0, hg, hg0, hl]
      cases hm : evMay ⟨0, 0, 0, 0, 0, 0, 0, x0⟩ with
      | true => rw [hm] at hev; simp at hev; simp -implicitDefEqProofs; rw [hev]; exact Ans.rfl' _
      | false => rw [hm] at hev; simp at hev; simp -implicitDefEqProofs; rw [hev]; exact Ans.rfl' _
    · have hl' : (t1 == (s.length : Int)) = false := by simpa using hl
      have hev : evGet s = none := by simp [evGet, rNums, evCount, hg, hg0, hl]
      rw [hev]
      simp -implicitDefEqProofs [hl']
      exact Ans.rfl' _
  · rw [if_neg he0]
    intro fa fe
    simp -implicitDefEqProofs
    refine Gives.done (by simp) ?_
    rw [unr]
    simp -implicitDefEqProofs
    apply c_field_Reader_Done
    unfold p_field_Reader_Done
    simp -implicitDefEqProofs
    refine joinP_go ?_
    simp -implicitDefEqProofs
    have hev : evGet s = none := by simp [evGet, rNums, evCount, hg, hg0, he0]
    rw [hev]
    exact Ans.rfl' _
theorem event_Get_1 (hR : R.Ok) (s : Bs0) (hs : s.length < 8000000000000000000) (t0 : Int) (hg : gNum s 0 = (1, t0, 0)) {h : AHeap A} {K : AVal → AHeap A → Prop} (hk : K (evTup (evGet s)) h) : Tri Pr R n_event_Get [.str s] h K := by
  refine Tri.fn1 hR _ (evTup_ix _) rfl ?_ hk
  have q := gNum_enc hg
  apply c_event_Get
  unfold p_event_Get
  simp -implicitDefEqProofs
  have hf : (.cells t_field_Reader [.str s, .int .i64 0, .nili] : AObj A) = fRead s 0 .nili := rfl
  rw [hf]
  refine fReader_ok hR s (by omega) 0 (by omega) ?_
  rw [hg]
  dsimp only
  rw [if_pos rfl]
  simp -implicitDefEqProofs
  apply c_event_parts
  unfold p_event_parts
  simp -implicitDefEqProofs [appP, appV, srcOf, cellsAt]
  repeat (first | refine joinP_go ?_ | simp -implicitDefEqProofs [appP, appV, srcOf, cellsAt])
  refine loopP_unr 5 ?_
  rw [unr]
  simp -implicitDefEqProofs
  refine fReader_ok hR s (by omega) t0 (by omega) ?_
  obtain ⟨x0, t1, e0, hg0⟩ : ∃ x t e, gNum s t0 = (x, t, e) := ⟨_, _, _, rfl⟩
  rw [hg0]
  dsimp only
  by_cases he0 : e0 = 0
  · subst he0
    have q0 := gNum_enc hg0
    rw [if_pos rfl]
    simp -implicitDefEqProofs
    refine Gives.done (by simp) ?_
    rw [unr]
    simp -implicitDefEqProofs
    refine fReader_ok hR s (by omega) t1 (by omega) ?_
    obtain ⟨x1, t2, e1, hg1⟩ : ∃ x t e, gNum s t1 = (x, t, e) := ⟨_, _, _, rfl⟩
    rw [hg1]
    dsimp only
    by_cases he1 : e1 = 0
    · subst he1
      have q1 := gNum_enc hg1
      rw [if_pos rfl]
      simp -implicitDefEqProofs
      refine Gives.done (by simp) ?_
      rw [unr]
      simp -implicitDefEqProofs
      refine fReader_ok hR s (by omega) t2 (by omega) ?_
      obtain ⟨x2, t3, e2, hg2⟩ : ∃ x t e, gNum s t2 = (x, t, e) := ⟨_, _, _, rfl⟩
      rw [hg2]
      dsimp only
      by_cases he2 : e2 = 0
      · subst he2
        have q2 := gNum_enc hg2
        rw [if_pos rfl]
        simp -implicitDefEqProofs
        refine Gives.done (by simp) ?_
        rw [unr]
        simp -implicitDefEqProofs
        refine fReader_ok hR s (by omega) t3 (by omega) ?_
        obtain ⟨x3, t4, e3, hg3⟩ : ∃ x t e, gNum s t3 = (x, t, e) := ⟨_, _, _, rfl⟩
        rw [hg3]
        dsimp only
        by_cases he3 : e3 = 0
        · subst he3
          have q3 := gNum_enc hg3
          rw [if_pos rfl]
          simp -implicitDefEqProofs
          refine Gives.done (by simp) ?_
          rw [unr]
          simp -implicitDefEqProofs
          apply c_field_Reader_Done
          unfold p_field_Reader_Done
          simp -implicitDefEqProofs
          refine joinP_go ?_
          by_cases hl : t4 = s.length
          · have hl' : (t4 == (s.length : Int)) = true := by simpa using hl
            simp -implicitDefEqProofs [hl']
            refine event_May_ok hR ⟨1, x0, 0, 0, x1, x2, x3, 0⟩ ?_
            have hev : evGet s = if evMay ⟨1, x0, 0, 0, x1, x2, x3, 0⟩ = true then some ⟨1, x0, 0, 0, x1, x2, x3, 0⟩ else none := by simp [evGet, rNums, evCount, evOf, ev0, hg, hg0, hg1, hg2, hg3, hl]
            cases hm : evMay ⟨1, x0, 0, 0, x1, x2, x3, 0⟩ with
            | true => rw [hm] at hev; simp at hev; simp -implicitDefEqProofs; rw [hev]; exact Ans.rfl' _
            | false => rw [hm] at hev; simp at hev; simp -implicitDefEqProofs; rw [hev]; exact Ans.rfl' _
          · have hl' : (t4 == (s.length : Int)) = false := by simpa using hl
            have hev : evGet s = none := by simp [evGet, rNums, evCount, hg, hg0, hg1, hg2, hg3, hl]
            rw [hev]
            simp -implicitDefEqProofs [hl']
            exact Ans.rfl' _
        · rw [if_neg he3]
          intro fa fe
          simp -implicitDefEqProofs
          refine Gives.done (by simp) ?_
          rw [unr]
          simp -implicitDefEqProofs
          apply c_field_Reader_Done
          unfold p_field_Reader_Done
          simp -implicitDefEqProofs
          refine joinP_go ?_
          simp -implicitDefEqProofs
          have hev : evGet s = none := by simp [evGet, rNums, evCount, hg, hg0, hg1, hg2, hg3, he3]
          rw [hev]
          exact Ans.rfl' _
      · rw [if_neg he2]
        intro fa fe
        simp -implicitDefEqProofs
        refine Gives.done (by simp) ?_
        rw [unr]
        simp -implicitDefEqProofs
        refine fReader_bad hR s 0 _ _ ?_
        simp -implicitDefEqProofs
        refine Gives.done (by simp) ?_
        rw [unr]
        simp -implicitDefEqProofs
        apply c_field_Reader_Done
        unfold p_field_Reader_Done
        simp -implicitDefEqProofs
        refine joinP_go ?_
        simp -implicitDefEqProofs
        have hev : evGet s = none := by simp [evGet, rNums, evCount, hg, hg0, hg1, hg2, he2]
        rw [hev]
        exact Ans.rfl' _
    · rw [if_neg he1]
      intro fa fe
      simp -implicitDefEqProofs
      refine Gives.done (by simp) ?_
      rw [unr]
      simp -implicitDefEqProofs
      refine fReader_bad hR s 0 _ _ ?_
      simp -implicitDefEqProofs
      refine Gives.done (by simp) ?_
      rw [unr]
      simp -implicitDefEqProofs
      refine fReader_bad hR s 0 _ _ ?_
      simp -implicitDefEqProofs
      refine Gives.done (by simp) ?_
      rw [unr]
      simp -implicitDefEqProofs
      apply c_field_Reader_Done
      unfold p_field_Reader_Done
      simp -implicitDefEqProofs
      refine joinP_go ?_
      simp -implicitDefEqProofs
      have hev : evGet s = none := by simp [evGet, rNums, evCount, hg, hg0, hg1, he1]
      rw [hev]
      exact Ans.rfl' _
  · rw [if_neg he0]
    intro fa fe
    simp -implicitDefEqProofs
    refine Gives.done (by simp) ?_
    rw [unr]
    simp -implicitDefEqProofs
    refine fReader_bad hR s 0 _ _ ?_
    simp -implicitDefEqProofs
    refine Gives.done (by simp) ?_
    rw [unr]
    simp -implicitDefEqProofs
    refine fReader_bad hR s 0 _ _ ?_
    simp -implicitDefEqProofs
    refine Gives.done (by simp) ?_
    rw [unr]
    simp -implicitDefEqProofs
    refine fReader_bad hR s 0 _ _ ?_
    simp -implicitDefEqProofs
    refine Gives.done (by simp) ?_
    rw [unr]
    simp -implicitDefEqProofs
    apply c_field_Reader_Done
    unfold p_field_Reader_Done
    simp -implicitDefEqProofs
    refine joinP_go ?_
    simp -implicitDefEqProofs
    have hev : evGet s = none := by simp [evGet, rNums, evCount, hg, hg0, he0]
    rw [hev]
    exact Ans.rfl' _
theorem event_Get_2 (hR : R.Ok) (s : Bs0) (hs : s.length < 8000000000000000000) (t0 : Int) (hg : gNum s 0 = (2, t0, 0)) {h : AHeap A} {K : AVal → AHeap A → Prop} (hk : K (evTup (evGet s)) h) : Tri Pr R n_event_Get [.str s] h K := by
  refine Tri.fn1 hR _ (evTup_ix _) rfl ?_ hk
  have q := gNum_enc hg
  apply c_event_Get
  unfold p_event_Get
  simp -implicitDefEqProofs
  have hf : (.cells t_field_Reader [.str s, .int .i64 0, .nili] : AObj A) = fRead s 0 .nili := rfl
  rw [hf]
  refine fReader_ok hR s (by omega) 0 (by omega) ?_
  rw [hg]
  dsimp only
  rw [if_pos rfl]
  simp -implicitDefEqProofs
  apply c_event_parts
  unfold p_event_parts
  simp -implicitDefEqProofs [appP, appV, srcOf, cellsAt]
  repeat (first | refine joinP_go ?_ | simp -implicitDefEqProofs [appP, appV, srcOf, cellsAt])
  refine loopP_unr 5 ?_
  rw [unr]
  simp -implicitDefEqProofs
  refine fReader_ok hR s (by omega) t0 (by omega) ?_
  obtain ⟨x0, t1, e0, hg0⟩ : ∃ x t e, gNum s t0 = (x, t, e) := ⟨_, _, _, rfl⟩
  rw [hg0]
  dsimp only
  by_cases he0 : e0 = 0
  · subst he0
    have q0 := gNum_enc hg0
    rw [if_pos rfl]
    simp -implicitDefEqProofs
    refine Gives.done (by simp) ?_
    rw [unr]
    simp -implicitDefEqProofs
    refine fReader_ok hR s (by omega) t1 (by omega) ?_
    obtain ⟨x1, t2, e1, hg1⟩ : ∃ x t e, gNum s t1 = (x, t, e) := ⟨_, _, _, rfl⟩
    rw [hg1]
    dsimp only
    by_cases he1 : e1 = 0
    · subst he1
      have q1 := gNum_enc hg1
      rw [if_pos rfl]
      simp -implicitDefEqProofs
      refine Gives.done (by simp) ?_
      rw [unr]
      simp -implicitDefEqProofs
      apply c_field_Reader_Done
      unfold p_field_Reader_Done
      simp -implicitDefEqProofs
      refine joinP_go ?_
      by_cases hl : t2 = s.length
      · have hl' : (t2 == (s.length : Int)) = true := by simpa using hl
        simp -implicitDefEqProofs [hl']
        refine event_May_ok hR ⟨2, x0, 0, 0, 0, 0, 0, x1⟩ ?_
        have hev : evGet s = if evMay ⟨2, x0, 0, 0, 0, 0, 0, x1⟩ = true then some ⟨2, x0, 0, 0, 0, 0, 0, x1⟩ else none := by simp [evGet, rNums, evCount, evOf, ev0, hg, hg0, hg1, hl]
        cases hm : evMay ⟨2, x0, 0, 0, 0, 0, 0, x1⟩ with
        | true => rw [hm] at hev; simp at hev; simp -implicitDefEqProofs; rw [hev]; exact Ans.rfl' _
        | false => rw [hm] at hev; simp at hev; simp -implicitDefEqProofs; rw [hev]; exact Ans.rfl' _
      · have hl' : (t2 == (s.length : Int)) = false := by simpa using hl
        have hev : evGet s = none := by simp [evGet, rNums, evCount, hg, hg0, hg1, hl]
        rw [hev]
        simp -implicitDefEqProofs [hl']
        exact Ans.rfl' _
    · rw [if_neg he1]
      intro fa fe
      simp -implicitDefEqProofs
      refine Gives.done (by simp) ?_
      rw [unr]
      simp -implicitDefEqProofs
      apply c_field_Reader_Done
      unfold p_field_Reader_Done
      simp -implicitDefEqProofs
      refine joinP_go ?_
      simp -implicitDefEqProofs
      have hev : evGet s = none := by simp [evGet, rNums, evCount, hg, hg0, hg1, he1]
      rw [hev]
      exact Ans.rfl' _
  · rw [if_neg he0]
    intro fa fe
    simp -implicitDefEqProofs
    refine Gives.done (by simp) ?_
    rw [unr]
    simp -implicitDefEqProofs
    refine fReader_bad hR s 0 _ _ ?_
    simp -implicitDefEqProofs
    refine Gives.done (by simp) ?_
    rw [unr]
    simp -implicitDefEqProofs
    apply c_field_Reader_Done
    unfold p_field_Reader_Done
    simp -implicitDefEqProofs
    refine joinP_go ?_
    simp -implicitDefEqProofs
    have hev : evGet s = none := by simp [evGet, rNums, evCount, hg, hg0, he0]
    rw [hev]
    exact Ans.rfl' _
theorem event_Get_3 (hR : R.Ok) (s : Bs0) (hs : s.length < 8000000000000000000) (t0 : Int) (hg : gNum s 0 = (3, t0, 0)) {h : AHeap A} {K : AVal → AHeap A → Prop} (hk : K (evTup (evGet s)) h) : Tri Pr R n_event_Get [.str s] h K := by
  refine Tri.fn1 hR _ (evTup_ix _) rfl ?_ hk
  have q := gNum_enc hg
  apply c_event_Get
  unfold p_event_Get
  simp -implicitDefEqProofs
  have hf : (.cells t_field_Reader [.str s, .int .i64 0, .nili] : AObj A) = fRead s 0 .nili := rfl
  rw [hf]
  refine fReader_ok hR s (by omega) 0 (by omega) ?_
  rw [hg]
  dsimp only
  rw [if_pos rfl]
  simp -implicitDefEqProofs
  apply c_event_parts
  unfold p_event_parts
  simp -implicitDefEqProofs [appP, appV, srcOf, cellsAt]
  repeat (first | refine joinP_go ?_ | simp -implicitDefEqProofs [appP, appV, srcOf, cellsAt])
  refine loopP_unr 5 ?_
  rw [unr]
  simp -implicitDefEqProofs
  refine fReader_ok hR s (by omega) t0 (by omega) ?_
  obtain ⟨x0, t1, e0, hg0⟩ : ∃ x t e, gNum s t0 = (x, t, e) := ⟨_, _, _, rfl⟩
  rw [hg0]
  dsimp only
  by_cases he0 : e0 = 0
  · subst he0
    have q0 := gNum_enc hg0
    rw [if_pos rfl]
    simp -implicitDefEqProofs
    refine Gives.done (by simp) ?_
    rw [unr]
    simp -implicitDefEqProofs
    refine fReader_ok hR s (by omega) t1 (by omega) ?_
    obtain ⟨x1, t2, e1, hg1⟩ : ∃ x t e, gNum s t1 = (x, t, e) := ⟨_, _, _, rfl⟩
    rw [hg1]
    dsimp only
    by_cases he1 : e1 = 0
    · subst he1
      have q1 := gNum_enc hg1
      rw [if_pos rfl]
      simp -implicitDefEqProofs
      refine Gives.done (by simp) ?_
      rw [unr]
      simp -implicitDefEqProofs
      apply c_field_Reader_Done
      unfold p_field_Reader_Done
      simp -implicitDefEqProofs
      refine joinP_go ?_
      by_cases hl : t2 = s.length
      · have hl' : (t2 == (s.length : Int)) = true := by simpa using hl
        simp -implicitDefEqProofs [hl']
        refine event_May_ok hR ⟨3, x0, 0, 0, x1, 0, 0, 0⟩ ?_
        have hev : evGet s = if evMay ⟨3, x0, 0, 0, x1, 0, 0, 0⟩ = true then some ⟨3, x0, 0, 0, x1, 0, 0, 0⟩ else none := by simp [evGet, rNums, evCount, evOf, ev0, hg, hg0, hg1, hl]
        cases hm : evMay ⟨3, x0, 0, 0, x1, 0, 0, 0⟩ with
        | true => rw [hm] at hev; simp at hev; simp -implicitDefEqProofs; rw [hev]; exact Ans.rfl' _
        | false => rw [hm] at hev; simp at hev; simp -implicitDefEqProofs; rw [hev]; exact Ans.rfl' _
      · have hl' : (t2 == (s.length : Int)) = false := by simpa using hl
        have hev : evGet s = none := by simp [evGet, rNums, evCount, hg, hg0, hg1, hl]
        rw [hev]
        simp -implicitDefEqProofs [hl']
        exact Ans.rfl' _
    · rw [if_neg he1]
      intro fa fe
      simp -implicitDefEqProofs
      refine Gives.done (by simp) ?_
      rw [unr]
      simp -implicitDefEqProofs
      apply c_field_Reader_Done
      unfold p_field_Reader_Done
      simp -implicitDefEqProofs
      refine joinP_go ?_
      simp -implicitDefEqProofs
      have hev : evGet s = none := by simp [evGet, rNums, evCount, hg, hg0, hg1, he1]
      rw [hev]
      exact Ans.rfl' _
  · rw [if_neg he0]
    intro fa fe
    simp -implicitDefEqProofs
    refine Gives.done (by simp) ?_
    rw [unr]
    simp -implicitDefEqProofs
    refine fReader_bad hR s 0 _ _ ?_
    simp -implicitDefEqProofs
    refine Gives.done (by simp) ?_
    rw [unr]
    simp -implicitDefEqProofs
    apply c_field_Reader_Done
    unfold p_field_Reader_Done
    simp -implicitDefEqProofs
    refine joinP_go ?_
    simp -implicitDefEqProofs
    have hev : evGet s = none := by simp [evGet, rNums, evCount, hg, hg0, he0]
    rw [hev]
    exact Ans.rfl' _
theorem event_Get_4 (hR : R.Ok) (s : Bs0) (hs : s.length < 8000000000000000000) (t0 : Int) (hg : gNum s 0 = (4, t0, 0)) {h : AHeap A} {K : AVal → AHeap A → Prop} (hk : K (evTup (evGet s)) h) : Tri Pr R n_event_Get [.str s] h K := by
  refine Tri.fn1 hR _ (evTup_ix _) rfl ?_ hk
  have q := gNum_enc hg
  apply c_event_Get
  unfold p_event_Get
  simp -implicitDefEqProofs
  have hf : (.cells t_field_Reader [.str s, .int .i64 0, .nili] : AObj A) = fRead s 0 .nili := rfl
  rw [hf]
  refine fReader_ok hR s (by omega) 0 (by omega) ?_
  rw [hg]
  dsimp only
  rw [if_pos rfl]
  simp -implicitDefEqProofs
  apply c_event_parts
  unfold p_event_parts
  simp -implicitDefEqProofs [appP, appV, srcOf, cellsAt]
  repeat (first | refine joinP_go ?_ | simp -implicitDefEqProofs [appP, appV, srcOf, cellsAt])
  refine loopP_unr 5 ?_
  rw [unr]
  simp -implicitDefEqProofs
  refine fReader_ok hR s (by omega) t0 (by omega) ?_
  obtain ⟨x0, t1, e0, hg0⟩ : ∃ x t e, gNum s t0 = (x, t, e) := ⟨_, _, _, rfl⟩
  rw [hg0]
  dsimp only
  by_cases he0 : e0 = 0
  · subst he0
    have q0 := gNum_enc hg0
    rw [if_pos rfl]
    simp -implicitDefEqProofs
    refine Gives.done (by simp) ?_
    rw [unr]
    simp -implicitDefEqProofs
    apply c_field_Reader_Done
    unfold p_field_Reader_Done
    simp -implicitDefEqProofs
    refine joinP_go ?_
    by_cases hl : t1 = s.length
    · have hl' : (t1 == (s.length : Int)) = true := by simpa using hl
      simp -implicitDefEqProofs [hl']
      refine event_May_ok hR ⟨4, x0, 0, 0, 0, 0, 0, 0⟩ ?_
      have hev : evGet s = if evMay ⟨4, x0, 0, 0, 0, 0, 0, 0⟩ = true then some ⟨4, x0, 0, 0, 0, 0, 0, 0⟩ else none := by simp [evGet, rNums, evCount, evOf, ev0, hg, hg0, hl]
      cases hm : evMay ⟨4, x0, 0, 0, 0, 0, 0, 0⟩ with
      | true => rw [hm] at hev; simp at hev; simp -implicitDefEqProofs; rw [hev]; exact Ans.rfl' _
      | false => rw [hm] at hev; simp at hev; simp -implicitDefEqProofs; rw [hev]; exact Ans.rfl' _
    · have hl' : (t1 == (s.length : Int)) = false := by simpa using hl
      have hev : evGet s = none := by simp [evGet, rNums, evCount, hg, hg0, hl]
      rw [hev]
      simp -implicitDefEqProofs [hl']
      exact Ans.rfl' _
  · rw [if_neg he0]
    intro fa fe
    simp -implicitDefEqProofs
    refine Gives.done (by simp) ?_
    rw [unr]
    simp -implicitDefEqProofs
    apply c_field_Reader_Done
    unfold p_field_Reader_Done
    simp -implicitDefEqProofs
    refine joinP_go ?_
    simp -implicitDefEqProofs
    have hev : evGet s = none := by simp [evGet, rNums, evCount, hg, hg0, he0]
    rw [hev]
    exact Ans.rfl' _
theorem event_Get_5 (hR : R.Ok) (s : Bs0) (hs : s.length < 8000000000000000000) (t0 : Int) (hg : gNum s 0 = (5, t0, 0)) {h : AHeap A} {K : AVal → AHeap A → Prop} (hk : K (evTup (evGet s)) h) : Tri Pr R n_event_Get [.str s] h K := by
  refine Tri.fn1 hR _ (evTup_ix _) rfl ?_ hk
  have q := gNum_enc hg
  apply c_event_Get
  unfold p_event_Get
  simp -implicitDefEqProofs
  have hf : (.cells t_field_Reader [.str s, .int .i64 0, .nili] : AObj A) = fRead s 0 .nili := rfl
  rw [hf]
  refine fReader_ok hR s (by omega) 0 (by omega) ?_
  rw [hg]
  dsimp only
  rw [if_pos rfl]
  simp -implicitDefEqProofs
  apply c_event_parts
  unfold p_event_parts
  simp -implicitDefEqProofs [appP, appV, srcOf, cellsAt]
  repeat (first | refine joinP_go ?_ | simp -implicitDefEqProofs [appP, appV, srcOf, cellsAt])
  refine loopP_unr 5 ?_
  rw [unr]
  simp -implicitDefEqProofs
  refine fReader_ok hR s (by omega) t0 (by omega) ?_
  obtain ⟨x0, t1, e0, hg0⟩ : ∃ x t e, gNum s t0 = (x, t, e) := ⟨_, _, _, rfl⟩
  rw [hg0]
  dsimp only
  by_cases he0 : e0 = 0
  · subst he0
    have q0 := gNum_enc hg0
    rw [if_pos rfl]
    simp -implicitDefEqProofs
    refine Gives.done (by simp) ?_
    rw [unr]
    simp -implicitDefEqProofs
    refine fReader_ok hR s (by omega) t1 (by omega) ?_
    obtain ⟨x1, t2, e1, hg1⟩ : ∃ x t e, gNum s t1 = (x, t, e) := ⟨_, _, _, rfl⟩
    rw [hg1]
    dsimp only
    by_cases he1 : e1 = 0
    · subst he1
      have q1 := gNum_enc hg1
      rw [if_pos rfl]
      simp -implicitDefEqProofs
      refine Gives.done (by simp) ?_
      rw [unr]
      simp -implicitDefEqProofs
      refine fReader_ok hR s (by omega) t2 (by omega) ?_
      obtain ⟨x2, t3, e2, hg2⟩ : ∃ x t e, gNum s t2 = (x, t, e) := ⟨_, _, _, rfl⟩
      rw [hg2]
      dsimp only
      by_cases he2 : e2 = 0
      · subst he2
        have q2 := gNum_enc hg2
        rw [if_pos rfl]
        simp -implicitDefEqProofs
        refine Gives.done (by simp) ?_
        rw [unr]
        simp -implicitDefEqProofs
        refine fReader_ok hR s (by omega) t3 (by omega) ?_
        obtain ⟨x3, t4, e3, hg3⟩ : ∃ x t e, gNum s t3 = (x, t, e) := ⟨_, _, _, rfl⟩
        rw [hg3]
        dsimp only
        by_cases he3 : e3 = 0
        · subst he3
          have q3 := gNum_enc hg3
          rw [if_pos rfl]
          simp -implicitDefEqProofs
          refine Gives.done (by simp) ?_
          rw [unr]
          simp -implicitDefEqProofs
          apply c_field_Reader_Done
          unfold p_field_Reader_Done
          simp -implicitDefEqProofs
          refine joinP_go ?_
          by_cases hl : t4 = s.length
          · have hl' : (t4 == (s.length : Int)) = true := by simpa using hl
            simp -implicitDefEqProofs [hl']
            refine event_May_ok hR ⟨5, x1, x0, x2, 0, 0, 0, x3⟩ ?_
            have hev : evGet s = if evMay ⟨5, x1, x0, x2, 0, 0, 0, x3⟩ = true then some ⟨5, x1, x0, x2, 0, 0, 0, x3⟩ else none := by simp [evGet, rNums, evCount, evOf, ev0, hg, hg0, hg1, hg2, hg3, hl]
            cases hm : evMay ⟨5, x1, x0, x2, 0, 0, 0, x3⟩ with
            | true => rw [hm] at hev; simp at hev; simp -implicitDefEqProofs; rw [hev]; exact Ans.rfl' _
            | false => rw [hm] at hev; simp at hev; simp -implicitDefEqProofs; rw [hev]; exact Ans.rfl' _
          · have hl' : (t4 == (s.length : Int)) = false := by simpa using hl
            have hev : evGet s = none := by simp [evGet, rNums, evCount, hg, hg0, hg1, hg2, hg3, hl]
            rw [hev]
            simp -implicitDefEqProofs [hl']
            exact Ans.rfl' _
        · rw [if_neg he3]
          intro fa fe
          simp -implicitDefEqProofs
          refine Gives.done (by simp) ?_
          rw [unr]
          simp -implicitDefEqProofs
          apply c_field_Reader_Done
          unfold p_field_Reader_Done
          simp -implicitDefEqProofs
          refine joinP_go ?_
          simp -implicitDefEqProofs
          have hev : evGet s = none := by simp [evGet, rNums, evCount, hg, hg0, hg1, hg2, hg3, he3]
          rw [hev]
          exact Ans.rfl' _
      · rw [if_neg he2]
        intro fa fe
        simp -implicitDefEqProofs
        refine Gives.done (by simp) ?_
        rw [unr]
        simp -implicitDefEqProofs
        refine fReader_bad hR s 0 _ _ ?_
        simp -implicitDefEqProofs
        refine Gives.done (by simp) ?_
        rw [unr]
        simp -implicitDefEqProofs
        apply c_field_Reader_Done
        unfold p_field_Reader_Done
        simp -implicitDefEqProofs
        refine joinP_go ?_
        simp -implicitDefEqProofs
        have hev : evGet s = none := by simp [evGet, rNums, evCount, hg, hg0, hg1, hg2, he2]
        rw [hev]
        exact Ans.rfl' _
    · rw [if_neg he1]
      intro fa fe
      simp -implicitDefEqProofs
      refine Gives.done (by simp) ?_
      rw [unr]
      simp -implicitDefEqProofs
      refine fReader_bad hR s 0 _ _ ?_
      simp -implicitDefEqProofs
      refine Gives.done (by simp) ?_
      rw [unr]
      simp -implicitDefEqProofs
      refine fReader_bad hR s 0 _ _ ?_
      simp -implicitDefEqProofs
      refine Gives.done (by simp) ?_
      rw [unr]
      simp -implicitDefEqProofs
      apply c_field_Reader_Done
      unfold p_field_Reader_Done
      simp -implicitDefEqProofs
      refine joinP_go ?_
      simp -implicitDefEqProofs
      have hev : evGet s = none := by simp [evGet, rNums, evCount, hg, hg0, hg1, he1]
      rw [hev]
      exact Ans.rfl' _
  · rw [if_neg he0]
    intro fa fe
    simp -implicitDefEqProofs
    refine Gives.done (by simp) ?_
    rw [unr]
    simp -implicitDefEqProofs
    refine fReader_bad hR s 0 _ _ ?_
    simp -implicitDefEqProofs
    refine Gives.done (by simp) ?_
    rw [unr]
    simp -implicitDefEqProofs
    refine fReader_bad hR s 0 _ _ ?_
    simp -implicitDefEqProofs
    refine Gives.done (by simp) ?_
    rw [unr]
    simp -implicitDefEqProofs
    refine fReader_bad hR s 0 _ _ ?_
    simp -implicitDefEqProofs
    refine Gives.done (by simp) ?_
    rw [unr]
    simp -implicitDefEqProofs
    apply c_field_Reader_Done
    unfold p_field_Reader_Done
    simp -implicitDefEqProofs
    refine joinP_go ?_
    simp -implicitDefEqProofs
    have hev : evGet s = none := by simp [evGet, rNums, evCount, hg, hg0, he0]
    rw [hev]
    exact Ans.rfl' _
theorem event_Get_6 (hR : R.Ok) (s : Bs0) (hs : s.length < 8000000000000000000) (t0 : Int) (hg : gNum s 0 = (6, t0, 0)) {h : AHeap A} {K : AVal → AHeap A → Prop} (hk : K (evTup (evGet s)) h) : Tri Pr R n_event_Get [.str s] h K := by
  refine Tri.fn1 hR _ (evTup_ix _) rfl ?_ hk
  have q := gNum_enc hg
  apply c_event_Get
  unfold p_event_Get
  simp -implicitDefEqProofs
  have hf : (.cells t_field_Reader [.str s, .int .i64 0, .nili] : AObj A) = fRead s 0 .nili := rfl
  rw [hf]
  refine fReader_ok hR s (by omega) 0 (by omega) ?_
  rw [hg]
  dsimp only
  rw [if_pos rfl]
  simp -implicitDefEqProofs
  apply c_event_parts
  unfold p_event_parts
  simp -implicitDefEqProofs [appP, appV, srcOf, cellsAt]
  repeat (first | refine joinP_go ?_ | simp -implicitDefEqProofs [appP, appV, srcOf, cellsAt])
  refine loopP_unr 5 ?_
  rw [unr]
  simp -implicitDefEqProofs
  refine fReader_ok hR s (by omega) t0 (by omega) ?_
  obtain ⟨x0, t1, e0, hg0⟩ : ∃ x t e, gNum s t0 = (x, t, e) := ⟨_, _, _, rfl⟩
  rw [hg0]
  dsimp only
  by_cases he0 : e0 = 0
  · subst he0
    have q0 := gNum_enc hg0
    rw [if_pos rfl]
    simp -implicitDefEqProofs
    refine Gives.done (by simp) ?_
    rw [unr]
    simp -implicitDefEqProofs
    refine fReader_ok hR s (by omega) t1 (by omega) ?_
    obtain ⟨x1, t2, e1, hg1⟩ : ∃ x t e, gNum s t1 = (x, t, e) := ⟨_, _, _, rfl⟩
    rw [hg1]
    dsimp only
    by_cases he1 : e1 = 0
    · subst he1
      have q1 := gNum_enc hg1
      rw [if_pos rfl]
      simp -implicitDefEqProofs
      refine Gives.done (by simp) ?_
      rw [unr]
      simp -implicitDefEqProofs
      refine fReader_ok hR s (by omega) t2 (by omega) ?_
      obtain ⟨x2, t3, e2, hg2⟩ : ∃ x t e, gNum s t2 = (x, t, e) := ⟨_, _, _, rfl⟩
      rw [hg2]
      dsimp only
      by_cases he2 : e2 = 0
      · subst he2
        have q2 := gNum_enc hg2
        rw [if_pos rfl]
        simp -implicitDefEqProofs
        refine Gives.done (by simp) ?_
        rw [unr]
        simp -implicitDefEqProofs
        refine fReader_ok hR s (by omega) t3 (by omega) ?_
        obtain ⟨x3, t4, e3, hg3⟩ : ∃ x t e, gNum s t3 = (x, t, e) := ⟨_, _, _, rfl⟩
        rw [hg3]
        dsimp only
        by_cases he3 : e3 = 0
        · subst he3
          have q3 := gNum_enc hg3
          rw [if_pos rfl]
          simp -implicitDefEqProofs
          refine Gives.done (by simp) ?_
          rw [unr]
          simp -implicitDefEqProofs
          apply c_field_Reader_Done
          unfold p_field_Reader_Done
          simp -implicitDefEqProofs
          refine joinP_go ?_
          by_cases hl : t4 = s.length
          · have hl' : (t4 == (s.length : Int)) = true := by simpa using hl
            simp -implicitDefEqProofs [hl']
            refine event_May_ok hR ⟨6, 0, x0, 0, x1, x2, 0, x3⟩ ?_
            have hev : evGet s = if evMay ⟨6, 0, x0, 0, x1, x2, 0, x3⟩ = true then some ⟨6, 0, x0, 0, x1, x2, 0, x3⟩ else none := by simp [evGet, rNums, evCount, evOf, ev0, hg, hg0, hg1, hg2, hg3, hl]
            cases hm : evMay ⟨6, 0, x0, 0, x1, x2, 0, x3⟩ with
            | true => rw [hm] at hev; simp at hev; simp -implicitDefEqProofs; rw [hev]; exact Ans.rfl' _
            | false => rw [hm] at hev; simp at hev; simp -implicitDefEqProofs; rw [hev]; exact Ans.rfl' _
          · have hl' : (t4 == (s.length : Int)) = false := by simpa using hl
            have hev : evGet s = none := by simp [evGet, rNums, evCount, hg, hg0, hg1, hg2, hg3, hl]
            rw [hev]
            simp -implicitDefEqProofs [hl']
            exact Ans.rfl' _
        · rw [if_neg he3]
          intro fa fe
          simp -implicitDefEqProofs
          refine Gives.done (by simp) ?_
          rw [unr]
          simp -implicitDefEqProofs
          apply c_field_Reader_Done
          unfold p_field_Reader_Done
          simp -implicitDefEqProofs
          refine joinP_go ?_
          simp -implicitDefEqProofs
          have hev : evGet s = none := by simp [evGet, rNums, evCount, hg, hg0, hg1, hg2, hg3, he3]
          rw [hev]
          exact Ans.rfl' _
      · rw [if_neg he2]
        intro fa fe
        simp -implicitDefEqProofs
        refine Gives.done (by simp) ?_
        rw [unr]
        simp -implicitDefEqProofs
        refine fReader_bad hR s 0 _ _ ?_
        simp -implicitDefEqProofs
        refine Gives.done (by simp) ?_
        rw [unr]
        simp -implicitDefEqProofs
        apply c_field_Reader_Done
        unfold p_field_Reader_Done
        simp -implicitDefEqProofs
        refine joinP_go ?_
        simp -implicitDefEqProofs
        have hev : evGet s = none := by simp [evGet, rNums, evCount, hg, hg0, hg1, hg2, he2]
        rw [hev]
        exact Ans.rfl' _
    · rw [if_neg he1]
      intro fa fe
      simp -implicitDefEqProofs
      refine Gives.done (by simp) ?_
      rw [unr]
      simp -implicitDefEqProofs
      refine fReader_bad hR s 0 _ _ ?_
      simp -implicitDefEqProofs
      refine Gives.done (by simp) ?_
      rw [unr]
      simp -implicitDefEqProofs
      refine fReader_bad hR s 0 _ _ ?_
      simp -implicitDefEqProofs
      refine Gives.done (by simp) ?_
      rw [unr]
      simp -implicitDefEqProofs
      apply c_field_Reader_Done
      unfold p_field_Reader_Done
      simp -implicitDefEqProofs
      refine joinP_go ?_
      simp -implicitDefEqProofs
      have hev : evGet s = none := by simp [evGet, rNums, evCount, hg, hg0, hg1, he1]
      rw [hev]
      exact Ans.rfl' _
  · rw [if_neg he0]
    intro fa fe
    simp -implicitDefEqProofs
    refine Gives.done (by simp) ?_
    rw [unr]
    simp -implicitDefEqProofs
    refine fReader_bad hR s 0 _ _ ?_
    simp -implicitDefEqProofs
    refine Gives.done (by simp) ?_
    rw [unr]
    simp -implicitDefEqProofs
    refine fReader_bad hR s 0 _ _ ?_
    simp -implicitDefEqProofs
    refine Gives.done (by simp) ?_
    rw [unr]
    simp -implicitDefEqProofs
    refine fReader_bad hR s 0 _ _ ?_
    simp -implicitDefEqProofs
    refine Gives.done (by simp) ?_
    rw [unr]
    simp -implicitDefEqProofs
    apply c_field_Reader_Done
    unfold p_field_Reader_Done
    simp -implicitDefEqProofs
    refine joinP_go ?_
    simp -implicitDefEqProofs
    have hev : evGet s = none := by simp [evGet, rNums, evCount, hg, hg0, he0]
    rw [hev]
    exact Ans.rfl' _
theorem event_Get_7 (hR : R.Ok) (s : Bs0) (hs : s.length < 8000000000000000000) (t0 : Int) (hg : gNum s 0 = (7, t0, 0)) {h : AHeap A} {K : AVal → AHeap A → Prop} (hk : K (evTup (evGet s)) h) : Tri Pr R n_event_Get [.str s] h K := by
  refine Tri.fn1 hR _ (evTup_ix _) rfl ?_ hk
  have q := gNum_enc hg
  apply c_event_Get
  unfold p_event_Get
  simp -implicitDefEqProofs
  have hf : (.cells t_field_Reader [.str s, .int .i64 0, .nili] : AObj A) = fRead s 0 .nili := rfl
  rw [hf]
  refine fReader_ok hR s (by omega) 0 (by omega) ?_
  rw [hg]
  dsimp only
  rw [if_pos rfl]
  simp -implicitDefEqProofs
  apply c_event_parts
  unfold p_event_parts
  simp -implicitDefEqProofs [appP, appV, srcOf, cellsAt]
  repeat (first | refine joinP_go ?_ | simp -implicitDefEqProofs [appP, appV, srcOf, cellsAt])
  refine loopP_unr 5 ?_
  rw [unr]
  simp -implicitDefEqProofs
  refine fReader_ok hR s (by omega) t0 (by omega) ?_
  obtain ⟨x0, t1, e0, hg0⟩ : ∃ x t e, gNum s t0 = (x, t, e) := ⟨_, _, _, rfl⟩
  rw [hg0]
  dsimp only
  by_cases he0 : e0 = 0
  · subst he0
    have q0 := gNum_enc hg0
    rw [if_pos rfl]
    simp -implicitDefEqProofs
    refine Gives.done (by simp) ?_
    rw [unr]
    simp -implicitDefEqProofs
    apply c_field_Reader_Done
    unfold p_field_Reader_Done
    simp -implicitDefEqProofs
    refine joinP_go ?_
    by_cases hl : t1 = s.length
    · have hl' : (t1 == (s.length : Int)) = true := by simpa using hl
      simp -implicitDefEqProofs [hl']
      refine event_May_ok hR ⟨7, x0, 0, 0, 0, 0, 0, 0⟩ ?_
      have hev : evGet s = if evMay ⟨7, x0, 0, 0, 0, 0, 0, 0⟩ = true then some ⟨7, x0, 0, 0, 0, 0, 0, 0⟩ else none := by simp [evGet, rNums, evCount, evOf, ev0, hg, hg0, hl]
      cases hm : evMay ⟨7, x0, 0, 0, 0, 0, 0, 0⟩ with
      | true => rw [hm] at hev; simp at hev; simp -implicitDefEqProofs; rw [hev]; exact Ans.rfl' _
      | false => rw [hm] at hev; simp at hev; simp -implicitDefEqProofs; rw [hev]; exact Ans.rfl' _
    · have hl' : (t1 == (s.length : Int)) = false := by simpa using hl
      have hev : evGet s = none := by simp [evGet, rNums, evCount, hg, hg0, hl]
      rw [hev]
      simp -implicitDefEqProofs [hl']
      exact Ans.rfl' _
  · rw [if_neg he0]
    intro fa fe
    simp -implicitDefEqProofs
    refine Gives.done (by simp) ?_
    rw [unr]
    simp -implicitDefEqProofs
    apply c_field_Reader_Done
    unfold p_field_Reader_Done
    simp -implicitDefEqProofs
    refine joinP_go ?_
    simp -implicitDefEqProofs
    have hev : evGet s = none := by simp [evGet, rNums, evCount, hg, hg0, he0]
    rw [hev]
    exact Ans.rfl' _
theorem event_Get_8 (hR : R.Ok) (s : Bs0) (hs : s.length < 8000000000000000000) (t0 : Int) (hg : gNum s 0 = (8, t0, 0)) {h : AHeap A} {K : AVal → AHeap A → Prop} (hk : K (evTup (evGet s)) h) : Tri Pr R n_event_Get [.str s] h K := by
  refine Tri.fn1 hR _ (evTup_ix _) rfl ?_ hk
  have q := gNum_enc hg
  apply c_event_Get
  unfold p_event_Get
  simp -implicitDefEqProofs
  have hf : (.cells t_field_Reader [.str s, .int .i64 0, .nili] : AObj A) = fRead s 0 .nili := rfl
  rw [hf]
  refine fReader_ok hR s (by omega) 0 (by omega) ?_
  rw [hg]
  dsimp only
  rw [if_pos rfl]
  simp -implicitDefEqProofs
  apply c_event_parts
  unfold p_event_parts
  simp -implicitDefEqProofs [appP, appV, srcOf, cellsAt]
  repeat (first | refine joinP_go ?_ | simp -implicitDefEqProofs [appP, appV, srcOf, cellsAt])
  refine loopP_unr 5 ?_
  rw [unr]
  simp -implicitDefEqProofs
  apply c_field_Reader_Done
  unfold p_field_Reader_Done
  simp -implicitDefEqProofs
  refine joinP_go ?_
  by_cases hl : t0 = s.length
  · have hl' : (t0 == (s.length : Int)) = true := by simpa using hl
    simp -implicitDefEqProofs [hl']
    refine event_May_ok hR ⟨8, 0, 0, 0, 0, 0, 0, 0⟩ ?_
    have hev : evGet s = if evMay ⟨8, 0, 0, 0, 0, 0, 0, 0⟩ = true then some ⟨8, 0, 0, 0, 0, 0, 0, 0⟩ else none := by simp [evGet, rNums, evCount, evOf, ev0, hg, hl]
    cases hm : evMay ⟨8, 0, 0, 0, 0, 0, 0, 0⟩ with
    | true => rw [hm] at hev; simp at hev; simp -implicitDefEqProofs; rw [hev]; exact Ans.rfl' _
    | false => rw [hm] at hev; simp at hev; simp -implicitDefEqProofs; rw [hev]; exact Ans.rfl' _
  · have hl' : (t0 == (s.length : Int)) = false := by simpa using hl
    have hev : evGet s = none := by simp [evGet, rNums, evCount, hg, hl]
    rw [hev]
    simp -implicitDefEqProofs [hl']
    exact Ans.rfl' _
theorem event_Get_9 (hR : R.Ok) (s : Bs0) (hs : s.length < 8000000000000000000) (t0 : Int) (hg : gNum s 0 = (9, t0, 0)) {h : AHeap A} {K : AVal → AHeap A → Prop} (hk : K (evTup (evGet s)) h) : Tri Pr R n_event_Get [.str s] h K := by
  refine Tri.fn1 hR _ (evTup_ix _) rfl ?_ hk
  have q := gNum_enc hg
  apply c_event_Get
  unfold p_event_Get
  simp -implicitDefEqProofs
  have hf : (.cells t_field_Reader [.str s, .int .i64 0, .nili] : AObj A) = fRead s 0 .nili := rfl
  rw [hf]
  refine fReader_ok hR s (by omega) 0 (by omega) ?_
  rw [hg]
  dsimp only
  rw [if_pos rfl]
  simp -implicitDefEqProofs
  apply c_event_parts
  unfold p_event_parts
  simp -implicitDefEqProofs [appP, appV, srcOf, cellsAt]
  repeat (first | refine joinP_go ?_ | simp -implicitDefEqProofs [appP, appV, srcOf, cellsAt])
  refine loopP_unr 5 ?_
  rw [unr]
  simp -implicitDefEqProofs
  refine fReader_ok hR s (by omega) t0 (by omega) ?_
  obtain ⟨x0, t1, e0, hg0⟩ : ∃ x t e, gNum s t0 = (x, t, e) := ⟨_, _, _, rfl⟩
  rw [hg0]
  dsimp only
  by_cases he0 : e0 = 0
  · subst he0
    have q0 := gNum_enc hg0
    rw [if_pos rfl]
    simp -implicitDefEqProofs
    refine Gives.done (by simp) ?_
    rw [unr]
    simp -implicitDefEqProofs
    apply c_field_Reader_Done
    unfold p_field_Reader_Done
    simp -implicitDefEqProofs
    refine joinP_go ?_
    by_cases hl : t1 = s.length
    · have hl' : (t1 == (s.length : Int)) = true := by simpa using hl
      simp -implicitDefEqProofs [hl']
      refine event_May_ok hR ⟨9, 0, x0, 0, 0, 0, 0, 0⟩ ?_
      have hev : evGet s = if evMay ⟨9, 0, x0, 0, 0, 0, 0, 0⟩ = true then some ⟨9, 0, x0, 0, 0, 0, 0, 0⟩ else none := by simp [evGet, rNums, evCount, evOf, ev0, hg, hg0, hl]
      cases hm : evMay ⟨9, 0, x0, 0, 0, 0, 0, 0⟩ with
      | true => rw [hm] at hev; simp at hev; simp -implicitDefEqProofs; rw [hev]; exact Ans.rfl' _
      | false => rw [hm] at hev; simp at hev; simp -implicitDefEqProofs; rw [hev]; exact Ans.rfl' _
    · have hl' : (t1 == (s.length : Int)) = false := by simpa using hl
      have hev : evGet s = none := by simp [evGet, rNums, evCount, hg, hg0, hl]
      rw [hev]
      simp -implicitDefEqProofs [hl']
      exact Ans.rfl' _
  · rw [if_neg he0]
    intro fa fe
    simp -implicitDefEqProofs
    refine Gives.done (by simp) ?_
    rw [unr]
    simp -implicitDefEqProofs
    apply c_field_Reader_Done
    unfold p_field_Reader_Done
    simp -implicitDefEqProofs
    refine joinP_go ?_
    simp -implicitDefEqProofs
    have hev : evGet s = none := by simp [evGet, rNums, evCount, hg, hg0, he0]
    rw [hev]
    exact Ans.rfl' _
end Go.AI

/- Events are read; the document's events (printed by gen/event_gen3.py). -/
set_option linter.all false
namespace Go.AI
variable {A : Type} {R : Adts A}
theorem event_Get_ok (hR : R.Ok) (s : Bs0) (hs : s.length < 8000000000000000000) {h : AHeap A} {K : AVal → AHeap A → Prop} (hk : K (evTup (evGet s)) h) : Tri Pr R n_event_Get [.str s] h K := by
  obtain ⟨k, t0, e, hg⟩ : ∃ k t e, gNum s 0 = (k, t, e) := ⟨_, _, _, rfl⟩
  by_cases he : e = 0
  · subst he
    have q := gNum_enc hg
    have hk0 : 0 ≤ k := by have := q.1; simp [nMay] at this; omega
    by_cases h9 : 9 < k
    · have f0 : (k == 0) = false := by simp; omega
      have f1 : (k == 1) = false := by simp; omega
      have f2 : (k == 2) = false := by simp; omega
      have f3 : (k == 3) = false := by simp; omega
      have f4 : (k == 4) = false := by simp; omega
      have f5 : (k == 5) = false := by simp; omega
      have f6 : (k == 6) = false := by simp; omega
      have f7 : (k == 7) = false := by simp; omega
      have f9 : (k == 9) = false := by simp; omega
      have hmf : ∀ l, evMay (evOf k l) = false := by
        intro l
        cases hm : evMay (evOf k l) with
        | false => rfl
        | true => have := evMay_kind hm; rw [evOf_kind] at this; omega
      have hc : evCount k = 0 := by unfold evCount; rw [if_neg (by omega), if_neg (by omega), if_neg (by omega)]
      have hev : evGet s = none := by simp [evGet, rNums, hg, hc, hmf]
      rw [hev] at hk
      refine Tri.fn1 hR _ (evTup_ix none) rfl ?_ hk
      apply c_event_Get
      unfold p_event_Get
      simp -implicitDefEqProofs
      have hf : (.cells t_field_Reader [.str s, .int .i64 0, .nili] : AObj A) = fRead s 0 .nili := rfl
      rw [hf]
      refine fReader_ok hR s (by omega) 0 (by omega) ?_
      rw [hg]
      dsimp only
      rw [if_pos rfl]
      simp -implicitDefEqProofs
      apply c_event_parts
      unfold p_event_parts
      simp -implicitDefEqProofs [f0, f1, f2, f3, f4, f5, f6, f7, f9]
      repeat (first | refine joinP_go ?_ | simp -implicitDefEqProofs [f0, f1, f2, f3, f4, f5, f6, f7, f9])
      refine loopP_unr 5 ?_
      rw [unr]
      simp -implicitDefEqProofs
      apply c_field_Reader_Done
      unfold p_field_Reader_Done
      simp -implicitDefEqProofs
      refine joinP_go ?_
      by_cases hl : t0 = s.length
      · have hl' : (t0 == (s.length : Int)) = true := by simpa using hl
        simp -implicitDefEqProofs [hl']
        refine event_May_ok hR ⟨k, 0, 0, 0, 0, 0, 0, 0⟩ ?_
        have hm : evMay ⟨k, 0, 0, 0, 0, 0, 0, 0⟩ = false := by
          cases hm : evMay ⟨k, 0, 0, 0, 0, 0, 0, 0⟩ with
          | false => rfl
          | true => have := evMay_kind hm; simp at this; omega
        rw [hm]
        simp -implicitDefEqProofs
        exact Ans.rfl' _
      · have hl' : (t0 == (s.length : Int)) = false := by simpa using hl
        simp -implicitDefEqProofs [hl']
        exact Ans.rfl' _
    · have hc2 : k = 0 ∨ k = 1 ∨ k = 2 ∨ k = 3 ∨ k = 4 ∨ k = 5 ∨ k = 6 ∨ k = 7 ∨ k = 8 ∨ k = 9 := by omega
      rcases hc2 with rfl | rfl | rfl | rfl | rfl | rfl | rfl | rfl | rfl | rfl
      · exact event_Get_0 hR s hs t0 hg hk
      · exact event_Get_1 hR s hs t0 hg hk
      · exact event_Get_2 hR s hs t0 hg hk
      · exact event_Get_3 hR s hs t0 hg hk
      · exact event_Get_4 hR s hs t0 hg hk
      · exact event_Get_5 hR s hs t0 hg hk
      · exact event_Get_6 hR s hs t0 hg hk
      · exact event_Get_7 hR s hs t0 hg hk
      · exact event_Get_8 hR s hs t0 hg hk
      · exact event_Get_9 hR s hs t0 hg hk
  · have hev : evGet s = none := by simp [evGet, rNums, hg, he]
    rw [hev] at hk
    refine Tri.fn1 hR _ (evTup_ix none) rfl ?_ hk
    apply c_event_Get
    unfold p_event_Get
    simp -implicitDefEqProofs
    have hf : (.cells t_field_Reader [.str s, .int .i64 0, .nili] : AObj A) = fRead s 0 .nili := rfl
    rw [hf]
    refine fReader_ok hR s (by omega) 0 (by omega) ?_
    rw [hg]
    dsimp only
    rw [if_neg he]
    intro fa fe
    simp -implicitDefEqProofs
    apply c_event_parts
    unfold p_event_parts
    simp -implicitDefEqProofs [appP, appV, srcOf, cellsAt]
    repeat (first | refine joinP_go ?_ | simp -implicitDefEqProofs [appP, appV, srcOf, cellsAt])
    refine loopP_unr 5 ?_
    rw [unr]
    simp -implicitDefEqProofs
    refine fReader_bad hR s 0 _ _ ?_
    simp -implicitDefEqProofs
    refine Gives.done (by simp) ?_
    rw [unr]
    simp -implicitDefEqProofs
    apply c_field_Reader_Done
    unfold p_field_Reader_Done
    simp -implicitDefEqProofs
    refine joinP_go ?_
    simp -implicitDefEqProofs
    exact Ans.rfl' _
theorem ref1_part_0 (hR : R.Ok) (u s ad a b c t : Int) {h : AHeap A} {K : AVal → AHeap A → Prop} (hk : K (.tup [.agg (Ev.row ⟨0, 0, 0, 0, 0, 0, 0, t⟩), .bool true]) h) : Tri Pr R n_ref1_part [.agg (Ev.row ⟨0, u, s, ad, a, b, c, t⟩)] h K := by
  refine Tri.fn1 hR _ rfl rfl ?_ hk
  apply c_ref1_part
  unfold p_ref1_part
  simp -implicitDefEqProofs [Ev.row]
  repeat (first | refine joinP_go ?_ | simp -implicitDefEqProofs)
  exact Ans.rfl' _
theorem ref1_part_1 (hR : R.Ok) (u s ad a b c t : Int) {h : AHeap A} {K : AVal → AHeap A → Prop} (hk : K (.tup [.agg (Ev.row ⟨1, u, 0, 0, a, b, c, 0⟩), .bool true]) h) : Tri Pr R n_ref1_part [.agg (Ev.row ⟨1, u, s, ad, a, b, c, t⟩)] h K := by
  refine Tri.fn1 hR _ rfl rfl ?_ hk
  apply c_ref1_part
  unfold p_ref1_part
  simp -implicitDefEqProofs [Ev.row]
  repeat (first | refine joinP_go ?_ | simp -implicitDefEqProofs)
  exact Ans.rfl' _
theorem ref1_part_2 (hR : R.Ok) (u s ad a b c t : Int) {h : AHeap A} {K : AVal → AHeap A → Prop} (hk : K (.tup [.agg (Ev.row ⟨2, u, 0, 0, 0, 0, 0, t⟩), .bool true]) h) : Tri Pr R n_ref1_part [.agg (Ev.row ⟨2, u, s, ad, a, b, c, t⟩)] h K := by
  refine Tri.fn1 hR _ rfl rfl ?_ hk
  apply c_ref1_part
  unfold p_ref1_part
  simp -implicitDefEqProofs [Ev.row]
  repeat (first | refine joinP_go ?_ | simp -implicitDefEqProofs)
  exact Ans.rfl' _
theorem ref1_part_3 (hR : R.Ok) (u s ad a b c t : Int) {h : AHeap A} {K : AVal → AHeap A → Prop} (hk : K (.tup [.agg (Ev.row ⟨3, u, 0, 0, a, 0, 0, 0⟩), .bool true]) h) : Tri Pr R n_ref1_part [.agg (Ev.row ⟨3, u, s, ad, a, b, c, t⟩)] h K := by
  refine Tri.fn1 hR _ rfl rfl ?_ hk
  apply c_ref1_part
  unfold p_ref1_part
  simp -implicitDefEqProofs [Ev.row]
  repeat (first | refine joinP_go ?_ | simp -implicitDefEqProofs)
  exact Ans.rfl' _
theorem ref1_part_4 (hR : R.Ok) (u s ad a b c t : Int) {h : AHeap A} {K : AVal → AHeap A → Prop} (hk : K (.tup [.agg (Ev.row ⟨4, u, 0, 0, 0, 0, 0, 0⟩), .bool true]) h) : Tri Pr R n_ref1_part [.agg (Ev.row ⟨4, u, s, ad, a, b, c, t⟩)] h K := by
  refine Tri.fn1 hR _ rfl rfl ?_ hk
  apply c_ref1_part
  unfold p_ref1_part
  simp -implicitDefEqProofs [Ev.row]
  repeat (first | refine joinP_go ?_ | simp -implicitDefEqProofs)
  exact Ans.rfl' _
theorem ref1_part_5 (hR : R.Ok) (u s ad a b c t : Int) {h : AHeap A} {K : AVal → AHeap A → Prop} (hk : K (.tup [.agg (Ev.row ⟨5, u, s, ad, 0, 0, 0, t⟩), .bool true]) h) : Tri Pr R n_ref1_part [.agg (Ev.row ⟨5, u, s, ad, a, b, c, t⟩)] h K := by
  refine Tri.fn1 hR _ rfl rfl ?_ hk
  apply c_ref1_part
  unfold p_ref1_part
  simp -implicitDefEqProofs [Ev.row]
  repeat (first | refine joinP_go ?_ | simp -implicitDefEqProofs)
  exact Ans.rfl' _
theorem ref1_part_6 (hR : R.Ok) (u s ad a b c t : Int) {h : AHeap A} {K : AVal → AHeap A → Prop} (hk : K (.tup [.agg (Ev.row ⟨6, 0, s, 0, a, b, 0, t⟩), .bool true]) h) : Tri Pr R n_ref1_part [.agg (Ev.row ⟨6, u, s, ad, a, b, c, t⟩)] h K := by
  refine Tri.fn1 hR _ rfl rfl ?_ hk
  apply c_ref1_part
  unfold p_ref1_part
  simp -implicitDefEqProofs [Ev.row]
  repeat (first | refine joinP_go ?_ | simp -implicitDefEqProofs)
  exact Ans.rfl' _
theorem ref1_part_7 (hR : R.Ok) (u s ad a b c t : Int) {h : AHeap A} {K : AVal → AHeap A → Prop} (hk : K (.tup [.agg (Ev.row ⟨7, u, 0, 0, 0, 0, 0, 0⟩), .bool true]) h) : Tri Pr R n_ref1_part [.agg (Ev.row ⟨7, u, s, ad, a, b, c, t⟩)] h K := by
  refine Tri.fn1 hR _ rfl rfl ?_ hk
  apply c_ref1_part
  unfold p_ref1_part
  simp -implicitDefEqProofs [Ev.row]
  repeat (first | refine joinP_go ?_ | simp -implicitDefEqProofs)
  exact Ans.rfl' _
theorem ref1_part_8 (hR : R.Ok) (u s ad a b c t : Int) {h : AHeap A} {K : AVal → AHeap A → Prop} (hk : K (.tup [.agg (Ev.row ⟨8, 0, 0, 0, 0, 0, 0, 0⟩), .bool true]) h) : Tri Pr R n_ref1_part [.agg (Ev.row ⟨8, u, s, ad, a, b, c, t⟩)] h K := by
  refine Tri.fn1 hR _ rfl rfl ?_ hk
  apply c_ref1_part
  unfold p_ref1_part
  simp -implicitDefEqProofs [Ev.row]
  repeat (first | refine joinP_go ?_ | simp -implicitDefEqProofs)
  exact Ans.rfl' _
theorem ref1_part_9 (hR : R.Ok) (u s ad a b c t : Int) {h : AHeap A} {K : AVal → AHeap A → Prop} (hk : K (.tup [.agg (Ev.row ⟨9, 0, s, 0, 0, 0, 0, 0⟩), .bool true]) h) : Tri Pr R n_ref1_part [.agg (Ev.row ⟨9, u, s, ad, a, b, c, t⟩)] h K := by
  refine Tri.fn1 hR _ rfl rfl ?_ hk
  apply c_ref1_part
  unfold p_ref1_part
  simp -implicitDefEqProofs [Ev.row]
  repeat (first | refine joinP_go ?_ | simp -implicitDefEqProofs)
  exact Ans.rfl' _
theorem ref1_part_ok (hR : R.Ok) (e : Ev) {h : AHeap A} {K : AVal → AHeap A → Prop} (hk : if 0 ≤ e.kind ∧ e.kind ≤ 9 then K (.tup [.agg (evPlain e).row, .bool true]) h else ∀ f : Ev, K (.tup [.agg f.row, .bool false]) h) : Tri Pr R n_ref1_part [.agg e.row] h K := by
  obtain ⟨k, u, s, ad, a, b, c, t⟩ := e
  simp only at hk
  by_cases hc : 0 ≤ k ∧ k ≤ 9
  · rw [if_pos hc] at hk
    have hc2 : k = 0 ∨ k = 1 ∨ k = 2 ∨ k = 3 ∨ k = 4 ∨ k = 5 ∨ k = 6 ∨ k = 7 ∨ k = 8 ∨ k = 9 := by omega
    rcases hc2 with rfl | rfl | rfl | rfl | rfl | rfl | rfl | rfl | rfl | rfl
    · exact ref1_part_0 hR u s ad a b c t hk
    · exact ref1_part_1 hR u s ad a b c t hk
    · exact ref1_part_2 hR u s ad a b c t hk
    · exact ref1_part_3 hR u s ad a b c t hk
    · exact ref1_part_4 hR u s ad a b c t hk
    · exact ref1_part_5 hR u s ad a b c t hk
    · exact ref1_part_6 hR u s ad a b c t hk
    · exact ref1_part_7 hR u s ad a b c t hk
    · exact ref1_part_8 hR u s ad a b c t hk
    · exact ref1_part_9 hR u s ad a b c t hk
  · rw [if_neg hc] at hk
    have f0 : (k == 0) = false := by simp; omega
    have f1 : (k == 1) = false := by simp; omega
    have f2 : (k == 2) = false := by simp; omega
    have f3 : (k == 3) = false := by simp; omega
    have f4 : (k == 4) = false := by simp; omega
    have f5 : (k == 5) = false := by simp; omega
    have f6 : (k == 6) = false := by simp; omega
    have f7 : (k == 7) = false := by simp; omega
    have f8 : (k == 8) = false := by simp; omega
    have f9 : (k == 9) = false := by simp; omega
    refine Tri.fn1 hR _ rfl rfl ?_ (hk ⟨k, 0, 0, 0, 0, 0, 0, 0⟩)
    apply c_ref1_part
    unfold p_ref1_part
    simp -implicitDefEqProofs [Ev.row, f0, f1, f2, f3, f4, f5, f6, f7, f8, f9]
    repeat (first | refine joinP_go ?_ | simp -implicitDefEqProofs [f0, f1, f2, f3, f4, f5, f6, f7, f8, f9])
    exact Ans.rfl' _
theorem evMay_iff (e : Ev) : evMay e = true ↔ (0 ≤ e.kind ∧ e.kind ≤ 9) ∧ e = evPlain e ∧ (0 ≤ e.user ∧ e.user < 8) ∧ (0 ≤ e.address ∧ e.address < 16) ∧ (0 ≤ e.tick ∧ e.tick ≤ 1048575) ∧ nMay e.session = true ∧ nMay e.a = true ∧ nMay e.b = true ∧ (0 ≤ e.c ∧ e.c ≤ 1048576) ∧ (e.kind = 6 → e.b ≤ 4) := by
  obtain ⟨k, u, s, ad, a, b, c, t⟩ := e
  constructor
  · intro h
    have h1 := evMay_kind h
    have h2 := evMay_plain h
    have h3 := evMay_parts h
    have h4 : (k = 6 → b ≤ 4) ∧ u < 8 ∧ ad < 16 ∧ t ≤ 1048575 ∧ c ≤ 1048576 := by
      unfold evMay at h
      simp only [Bool.and_eq_true, Bool.not_eq_true', Bool.and_eq_false_iff, decide_eq_true_eq, decide_eq_false_iff_not] at h
      obtain ⟨⟨⟨⟨⟨⟨⟨_, a1⟩, _⟩, a2⟩, a3⟩, a4⟩, a5⟩, _⟩ := h
      refine ⟨fun hk => ?_, a2, a3, a4, a5⟩
      rcases a1 with a1 | a1 <;> omega
    simp only at h1
    have hc2 : k = 0 ∨ k = 1 ∨ k = 2 ∨ k = 3 ∨ k = 4 ∨ k = 5 ∨ k = 6 ∨ k = 7 ∨ k = 8 ∨ k = 9 := by omega
    refine ⟨h1, h2, ?_⟩
    rcases hc2 with rfl | rfl | rfl | rfl | rfl | rfl | rfl | rfl | rfl | rfl <;>
      (simp [evPlain, evParts, evOf, ev0] at h2 h3 ⊢; simp [nMay] at h3 ⊢; omega)
  · rintro ⟨h1, h2, h3, h4, h5, h6, h7, h8, h9, h10⟩
    simp only at h1 h3 h4 h5 h6 h7 h8 h9 h10
    unfold evMay
    rw [← h2]
    have hc2 : k = 0 ∨ k = 1 ∨ k = 2 ∨ k = 3 ∨ k = 4 ∨ k = 5 ∨ k = 6 ∨ k = 7 ∨ k = 8 ∨ k = 9 := by omega
    rcases hc2 with rfl | rfl | rfl | rfl | rfl | rfl | rfl | rfl | rfl | rfl <;>
      (simp [evParts]; simp [nMay] at h6 h7 h8 ⊢; omega)
theorem ref1_EventMay_ok (hR : R.Ok) (e : Ev) {h : AHeap A} {K : AVal → AHeap A → Prop} (hk : K (.bool (evMay e)) h) : Tri Pr R n_ref1_EventMay [.agg e.row] h K := by
  refine Tri.fn1 hR _ rfl rfl ?_ hk
  have no : evMay e = true → _ := (evMay_iff e).1
  have bad : ¬ (evMay e = true) → Ans (.bool (evMay e)) (.bool false) := fun h => Ans.of (by simp at h; rw [h])
  apply c_ref1_EventMay
  unfold p_ref1_EventMay
  simp -implicitDefEqProofs [Ev.row]
  refine ref1_part_ok hR e ?_
  by_cases c0 : 0 ≤ e.kind ∧ e.kind ≤ 9
  · rw [if_pos c0]
    have he := shEv (evPlain e) e
    simp only [Ev.row] at he
    by_cases c1 : evPlain e = e
    · have c1' : decide (evPlain e = e) = true := by simpa using c1
      simp -implicitDefEqProofs [Ev.row, he, c1']
      by_cases c2 : e.user < 0
      · simp -implicitDefEqProofs [c2]; exact bad fun h => by have := no h; omega
      by_cases c3 : 8 ≤ e.user
      · simp -implicitDefEqProofs [c2, c3]; exact bad fun h => by have := no h; omega
      by_cases c4 : e.address < 0
      · simp -implicitDefEqProofs [c2, c3, c4]; exact bad fun h => by have := no h; omega
      by_cases c5 : 16 ≤ e.address
      · simp -implicitDefEqProofs [c2, c3, c4, c5]; exact bad fun h => by have := no h; omega
      by_cases c6 : e.tick < 0
      · simp -implicitDefEqProofs [c2, c3, c4, c5, c6]; exact bad fun h => by have := no h; omega
      by_cases c7 : 1048575 < e.tick
      · simp -implicitDefEqProofs [c2, c3, c4, c5, c6, c7]; exact bad fun h => by have := no h; omega
      simp -implicitDefEqProofs [c2, c3, c4, c5, c6, c7]
      refine ref1_num_ok _ ?_
      cases c8 : nMay e.session with
      | false => simp -implicitDefEqProofs; exact bad fun h => by have := no h; simp [c8] at this
      | true =>
        simp -implicitDefEqProofs
        refine ref1_num_ok _ ?_
        cases c9 : nMay e.a with
        | false => simp -implicitDefEqProofs; exact bad fun h => by have := no h; simp [c9] at this
        | true =>
          simp -implicitDefEqProofs
          refine ref1_num_ok _ ?_
          cases c10 : nMay e.b with
          | false => simp -implicitDefEqProofs; exact bad fun h => by have := no h; simp [c10] at this
          | true =>
            simp -implicitDefEqProofs
            by_cases c11 : e.c < 0
            · simp -implicitDefEqProofs [c11]; exact bad fun h => by have := no h; omega
            by_cases c12 : 1048576 < e.c
            · simp -implicitDefEqProofs [c11, c12]; exact bad fun h => by have := no h; omega
            by_cases c13 : e.kind = 6
            · have c13' : (e.kind != 6) = false := by simp [c13]
              by_cases c14 : e.b ≤ 4
              · simp -implicitDefEqProofs [c11, c12, c13', c14]
                exact Ans.of (by rw [(evMay_iff e).2 ⟨c0, c1.symm, by omega, by omega, by omega, c8, c9, c10, by omega, fun _ => c14⟩])
              · simp -implicitDefEqProofs [c11, c12, c13', c14]; exact bad fun h => by have := no h; omega
            · have c13' : (e.kind != 6) = true := by simpa using c13
              simp -implicitDefEqProofs [c11, c12, c13']
              exact Ans.of (by rw [(evMay_iff e).2 ⟨c0, c1.symm, by omega, by omega, by omega, c8, c9, c10, by omega, fun h => absurd h c13⟩])
    · have c1' : decide (evPlain e = e) = false := by simpa using c1
      simp -implicitDefEqProofs [Ev.row, he, c1']
      exact bad fun h => c1 (no h).2.1.symm
  · rw [if_neg c0]
    intro f
    simp -implicitDefEqProofs [Ev.row]
    exact bad fun h => c0 (no h).1
end Go.AI

/- The document's events are written, are read (printed by gen/event_gen4.py). -/
set_option linter.all false
namespace Go.AI
variable {A : Type} {R : Adts A}
theorem ref1_PutEvent_0 (hR : R.Ok) (u s ad a b c t : Int) (hm : evMay ⟨0, u, s, ad, a, b, c, t⟩ = true) {h : AHeap A} {K : AVal → AHeap A → Prop} (hk : K (.tup [.str (evPut ⟨0, u, s, ad, a, b, c, t⟩), .int .i64 0]) h) : Tri Pr R n_ref1_PutEvent [.agg (Ev.row ⟨0, u, s, ad, a, b, c, t⟩)] h K := by
  refine Tri.fn1 hR _ rfl rfl ?_ hk
  apply c_ref1_PutEvent
  unfold p_ref1_PutEvent
  simp -implicitDefEqProofs [Ev.row]
  refine ref1_EventMay_ok hR ⟨0, u, s, ad, a, b, c, t⟩ ?_
  rw [hm]
  simp -implicitDefEqProofs
  have l0 := nAll_len [0]
  have l1 := nAll_len [t]
  simp only [List.length_cons, List.length_nil] at l0 l1
  have g : (nAll [0]).length + (nAll [t]).length < 9223372036854775808 := by omega
  refine ref1_Nums_ok hR [0] (by simp) true (t := t_int) (by simp) ?_
  repeat (first | refine joinP_go ?_ | simp -implicitDefEqProofs)
  refine ref1_Nums_ok hR [t] (by simp) true (t := t_int) (by simp) ?_
  simp -implicitDefEqProofs [g]
  exact Ans.of (by simp [evPut, nAll, evParts])
theorem ref1_PutEvent_1 (hR : R.Ok) (u s ad a b c t : Int) (hm : evMay ⟨1, u, s, ad, a, b, c, t⟩ = true) {h : AHeap A} {K : AVal → AHeap A → Prop} (hk : K (.tup [.str (evPut ⟨1, u, s, ad, a, b, c, t⟩), .int .i64 0]) h) : Tri Pr R n_ref1_PutEvent [.agg (Ev.row ⟨1, u, s, ad, a, b, c, t⟩)] h K := by
  refine Tri.fn1 hR _ rfl rfl ?_ hk
  apply c_ref1_PutEvent
  unfold p_ref1_PutEvent
  simp -implicitDefEqProofs [Ev.row]
  refine ref1_EventMay_ok hR ⟨1, u, s, ad, a, b, c, t⟩ ?_
  rw [hm]
  simp -implicitDefEqProofs
  have l0 := nAll_len [1]
  have l1 := nAll_len [u, a, b, c]
  simp only [List.length_cons, List.length_nil] at l0 l1
  have g : (nAll [1]).length + (nAll [u, a, b, c]).length < 9223372036854775808 := by omega
  refine ref1_Nums_ok hR [1] (by simp) true (t := t_int) (by simp) ?_
  repeat (first | refine joinP_go ?_ | simp -implicitDefEqProofs)
  refine ref1_Nums_ok hR [u, a, b, c] (by simp) true (t := t_int) (by simp) ?_
  simp -implicitDefEqProofs [g]
  exact Ans.of (by simp [evPut, nAll, evParts])
theorem ref1_PutEvent_2 (hR : R.Ok) (u s ad a b c t : Int) (hm : evMay ⟨2, u, s, ad, a, b, c, t⟩ = true) {h : AHeap A} {K : AVal → AHeap A → Prop} (hk : K (.tup [.str (evPut ⟨2, u, s, ad, a, b, c, t⟩), .int .i64 0]) h) : Tri Pr R n_ref1_PutEvent [.agg (Ev.row ⟨2, u, s, ad, a, b, c, t⟩)] h K := by
  refine Tri.fn1 hR _ rfl rfl ?_ hk
  apply c_ref1_PutEvent
  unfold p_ref1_PutEvent
  simp -implicitDefEqProofs [Ev.row]
  refine ref1_EventMay_ok hR ⟨2, u, s, ad, a, b, c, t⟩ ?_
  rw [hm]
  simp -implicitDefEqProofs
  have l0 := nAll_len [2]
  have l1 := nAll_len [u, t]
  simp only [List.length_cons, List.length_nil] at l0 l1
  have g : (nAll [2]).length + (nAll [u, t]).length < 9223372036854775808 := by omega
  refine ref1_Nums_ok hR [2] (by simp) true (t := t_int) (by simp) ?_
  repeat (first | refine joinP_go ?_ | simp -implicitDefEqProofs)
  refine ref1_Nums_ok hR [u, t] (by simp) true (t := t_int) (by simp) ?_
  simp -implicitDefEqProofs [g]
  exact Ans.of (by simp [evPut, nAll, evParts])
theorem ref1_PutEvent_3 (hR : R.Ok) (u s ad a b c t : Int) (hm : evMay ⟨3, u, s, ad, a, b, c, t⟩ = true) {h : AHeap A} {K : AVal → AHeap A → Prop} (hk : K (.tup [.str (evPut ⟨3, u, s, ad, a, b, c, t⟩), .int .i64 0]) h) : Tri Pr R n_ref1_PutEvent [.agg (Ev.row ⟨3, u, s, ad, a, b, c, t⟩)] h K := by
  refine Tri.fn1 hR _ rfl rfl ?_ hk
  apply c_ref1_PutEvent
  unfold p_ref1_PutEvent
  simp -implicitDefEqProofs [Ev.row]
  refine ref1_EventMay_ok hR ⟨3, u, s, ad, a, b, c, t⟩ ?_
  rw [hm]
  simp -implicitDefEqProofs
  have l0 := nAll_len [3]
  have l1 := nAll_len [u, a]
  simp only [List.length_cons, List.length_nil] at l0 l1
  have g : (nAll [3]).length + (nAll [u, a]).length < 9223372036854775808 := by omega
  refine ref1_Nums_ok hR [3] (by simp) true (t := t_int) (by simp) ?_
  repeat (first | refine joinP_go ?_ | simp -implicitDefEqProofs)
  refine ref1_Nums_ok hR [u, a] (by simp) true (t := t_int) (by simp) ?_
  simp -implicitDefEqProofs [g]
  exact Ans.of (by simp [evPut, nAll, evParts])
theorem ref1_PutEvent_4 (hR : R.Ok) (u s ad a b c t : Int) (hm : evMay ⟨4, u, s, ad, a, b, c, t⟩ = true) {h : AHeap A} {K : AVal → AHeap A → Prop} (hk : K (.tup [.str (evPut ⟨4, u, s, ad, a, b, c, t⟩), .int .i64 0]) h) : Tri Pr R n_ref1_PutEvent [.agg (Ev.row ⟨4, u, s, ad, a, b, c, t⟩)] h K := by
  refine Tri.fn1 hR _ rfl rfl ?_ hk
  apply c_ref1_PutEvent
  unfold p_ref1_PutEvent
  simp -implicitDefEqProofs [Ev.row]
  refine ref1_EventMay_ok hR ⟨4, u, s, ad, a, b, c, t⟩ ?_
  rw [hm]
  simp -implicitDefEqProofs
  have l0 := nAll_len [4]
  have l1 := nAll_len [u]
  simp only [List.length_cons, List.length_nil] at l0 l1
  have g : (nAll [4]).length + (nAll [u]).length < 9223372036854775808 := by omega
  refine ref1_Nums_ok hR [4] (by simp) true (t := t_int) (by simp) ?_
  repeat (first | refine joinP_go ?_ | simp -implicitDefEqProofs)
  refine ref1_Nums_ok hR [u] (by simp) true (t := t_int) (by simp) ?_
  simp -implicitDefEqProofs [g]
  exact Ans.of (by simp [evPut, nAll, evParts])
theorem ref1_PutEvent_5 (hR : R.Ok) (u s ad a b c t : Int) (hm : evMay ⟨5, u, s, ad, a, b, c, t⟩ = true) {h : AHeap A} {K : AVal → AHeap A → Prop} (hk : K (.tup [.str (evPut ⟨5, u, s, ad, a, b, c, t⟩), .int .i64 0]) h) : Tri Pr R n_ref1_PutEvent [.agg (Ev.row ⟨5, u, s, ad, a, b, c, t⟩)] h K := by
  refine Tri.fn1 hR _ rfl rfl ?_ hk
  apply c_ref1_PutEvent
  unfold p_ref1_PutEvent
  simp -implicitDefEqProofs [Ev.row]
  refine ref1_EventMay_ok hR ⟨5, u, s, ad, a, b, c, t⟩ ?_
  rw [hm]
  simp -implicitDefEqProofs
  have l0 := nAll_len [5]
  have l1 := nAll_len [s, u, ad, t]
  simp only [List.length_cons, List.length_nil] at l0 l1
  have g : (nAll [5]).length + (nAll [s, u, ad, t]).length < 9223372036854775808 := by omega
  refine ref1_Nums_ok hR [5] (by simp) true (t := t_int) (by simp) ?_
  repeat (first | refine joinP_go ?_ | simp -implicitDefEqProofs)
  refine ref1_Nums_ok hR [s, u, ad, t] (by simp) true (t := t_int) (by simp) ?_
  simp -implicitDefEqProofs [g]
  exact Ans.of (by simp [evPut, nAll, evParts])
theorem ref1_PutEvent_6 (hR : R.Ok) (u s ad a b c t : Int) (hm : evMay ⟨6, u, s, ad, a, b, c, t⟩ = true) {h : AHeap A} {K : AVal → AHeap A → Prop} (hk : K (.tup [.str (evPut ⟨6, u, s, ad, a, b, c, t⟩), .int .i64 0]) h) : Tri Pr R n_ref1_PutEvent [.agg (Ev.row ⟨6, u, s, ad, a, b, c, t⟩)] h K := by
  refine Tri.fn1 hR _ rfl rfl ?_ hk
  apply c_ref1_PutEvent
  unfold p_ref1_PutEvent
  simp -implicitDefEqProofs [Ev.row]
  refine ref1_EventMay_ok hR ⟨6, u, s, ad, a, b, c, t⟩ ?_
  rw [hm]
  simp -implicitDefEqProofs
  have l0 := nAll_len [6]
  have l1 := nAll_len [s, a, b, t]
  simp only [List.length_cons, List.length_nil] at l0 l1
  have g : (nAll [6]).length + (nAll [s, a, b, t]).length < 9223372036854775808 := by omega
  refine ref1_Nums_ok hR [6] (by simp) true (t := t_int) (by simp) ?_
  repeat (first | refine joinP_go ?_ | simp -implicitDefEqProofs)
  refine ref1_Nums_ok hR [s, a, b, t] (by simp) true (t := t_int) (by simp) ?_
  simp -implicitDefEqProofs [g]
  exact Ans.of (by simp [evPut, nAll, evParts])
theorem ref1_PutEvent_7 (hR : R.Ok) (u s ad a b c t : Int) (hm : evMay ⟨7, u, s, ad, a, b, c, t⟩ = true) {h : AHeap A} {K : AVal → AHeap A → Prop} (hk : K (.tup [.str (evPut ⟨7, u, s, ad, a, b, c, t⟩), .int .i64 0]) h) : Tri Pr R n_ref1_PutEvent [.agg (Ev.row ⟨7, u, s, ad, a, b, c, t⟩)] h K := by
  refine Tri.fn1 hR _ rfl rfl ?_ hk
  apply c_ref1_PutEvent
  unfold p_ref1_PutEvent
  simp -implicitDefEqProofs [Ev.row]
  refine ref1_EventMay_ok hR ⟨7, u, s, ad, a, b, c, t⟩ ?_
  rw [hm]
  simp -implicitDefEqProofs
  have l0 := nAll_len [7]
  have l1 := nAll_len [u]
  simp only [List.length_cons, List.length_nil] at l0 l1
  have g : (nAll [7]).length + (nAll [u]).length < 9223372036854775808 := by omega
  refine ref1_Nums_ok hR [7] (by simp) true (t := t_int) (by simp) ?_
  repeat (first | refine joinP_go ?_ | simp -implicitDefEqProofs)
  refine ref1_Nums_ok hR [u] (by simp) true (t := t_int) (by simp) ?_
  simp -implicitDefEqProofs [g]
  exact Ans.of (by simp [evPut, nAll, evParts])
theorem ref1_PutEvent_8 (hR : R.Ok) (u s ad a b c t : Int) (hm : evMay ⟨8, u, s, ad, a, b, c, t⟩ = true) {h : AHeap A} {K : AVal → AHeap A → Prop} (hk : K (.tup [.str (evPut ⟨8, u, s, ad, a, b, c, t⟩), .int .i64 0]) h) : Tri Pr R n_ref1_PutEvent [.agg (Ev.row ⟨8, u, s, ad, a, b, c, t⟩)] h K := by
  refine Tri.fn1 hR _ rfl rfl ?_ hk
  apply c_ref1_PutEvent
  unfold p_ref1_PutEvent
  simp -implicitDefEqProofs [Ev.row]
  refine ref1_EventMay_ok hR ⟨8, u, s, ad, a, b, c, t⟩ ?_
  rw [hm]
  simp -implicitDefEqProofs
  refine ref1_Nums_ok hR [8] (by simp) true (t := t_int) (by simp) ?_
  repeat (first | refine joinP_go ?_ | simp -implicitDefEqProofs)
  exact Ans.of (by simp [evPut, nAll, evParts])
theorem ref1_PutEvent_9 (hR : R.Ok) (u s ad a b c t : Int) (hm : evMay ⟨9, u, s, ad, a, b, c, t⟩ = true) {h : AHeap A} {K : AVal → AHeap A → Prop} (hk : K (.tup [.str (evPut ⟨9, u, s, ad, a, b, c, t⟩), .int .i64 0]) h) : Tri Pr R n_ref1_PutEvent [.agg (Ev.row ⟨9, u, s, ad, a, b, c, t⟩)] h K := by
  refine Tri.fn1 hR _ rfl rfl ?_ hk
  apply c_ref1_PutEvent
  unfold p_ref1_PutEvent
  simp -implicitDefEqProofs [Ev.row]
  refine ref1_EventMay_ok hR ⟨9, u, s, ad, a, b, c, t⟩ ?_
  rw [hm]
  simp -implicitDefEqProofs
  have l0 := nAll_len [9]
  have l1 := nAll_len [s]
  simp only [List.length_cons, List.length_nil] at l0 l1
  have g : (nAll [9]).length + (nAll [s]).length < 9223372036854775808 := by omega
  refine ref1_Nums_ok hR [9] (by simp) true (t := t_int) (by simp) ?_
  repeat (first | refine joinP_go ?_ | simp -implicitDefEqProofs)
  refine ref1_Nums_ok hR [s] (by simp) true (t := t_int) (by simp) ?_
  simp -implicitDefEqProofs [g]
  exact Ans.of (by simp [evPut, nAll, evParts])
theorem ref1_PutEvent_ok (hR : R.Ok) (e : Ev) {h : AHeap A} {K : AVal → AHeap A → Prop} (hk : if evMay e = true then K (.tup [.str (evPut e), .int .i64 0]) h else K (.tup [.str [], .int .i64 700]) h) : Tri Pr R n_ref1_PutEvent [.agg e.row] h K := by
  cases hm : evMay e with
  | false =>
    rw [hm] at hk
    simp at hk
    refine Tri.fn1 hR _ rfl rfl ?_ hk
    obtain ⟨k, u, s, ad, a, b, c, t⟩ := e
    apply c_ref1_PutEvent
    unfold p_ref1_PutEvent
    simp -implicitDefEqProofs [Ev.row]
    refine ref1_EventMay_ok hR ⟨k, u, s, ad, a, b, c, t⟩ ?_
    rw [hm]
    simp -implicitDefEqProofs
    exact Ans.rfl' _
  | true =>
    rw [if_pos hm] at hk
    have hc := evMay_kind hm
    obtain ⟨k, u, s, ad, a, b, c, t⟩ := e
    simp only at hc
    have hc2 : k = 0 ∨ k = 1 ∨ k = 2 ∨ k = 3 ∨ k = 4 ∨ k = 5 ∨ k = 6 ∨ k = 7 ∨ k = 8 ∨ k = 9 := by omega
    rcases hc2 with rfl | rfl | rfl | rfl | rfl | rfl | rfl | rfl | rfl | rfl
    · exact ref1_PutEvent_0 hR u s ad a b c t hm hk
    · exact ref1_PutEvent_1 hR u s ad a b c t hm hk
    · exact ref1_PutEvent_2 hR u s ad a b c t hm hk
    · exact ref1_PutEvent_3 hR u s ad a b c t hm hk
    · exact ref1_PutEvent_4 hR u s ad a b c t hm hk
    · exact ref1_PutEvent_5 hR u s ad a b c t hm hk
    · exact ref1_PutEvent_6 hR u s ad a b c t hm hk
    · exact ref1_PutEvent_7 hR u s ad a b c t hm hk
    · exact ref1_PutEvent_8 hR u s ad a b c t hm hk
    · exact ref1_PutEvent_9 hR u s ad a b c t hm hk
theorem ref1_GetEvent_0 (hR : R.Ok) (s : Bs0) (hs : s.length < 8000000000000000000) (t0 : Int) (hg : gNum s 0 = (0, t0, 0)) {h : AHeap A} {K : AVal → AHeap A → Prop} (hk : K (evTup (evGet s)) h) : Tri Pr R n_ref1_GetEvent [.str s] h K := by
  refine Tri.fn1 hR _ (evTup_ix _) rfl ?_ hk
  have q := gNum_enc hg
  apply c_ref1_GetEvent
  unfold p_ref1_GetEvent
  simp -implicitDefEqProofs
  have hf : (.cells t_bastionref1_Reader [.str s, .int .i64 0, .bool false] : AObj A) = rRead s 0 false := rfl
  rw [hf]
  refine rReader_ok hR s (by omega) 0 (by omega) false ?_
  rw [hg]
  dsimp only
  rw [if_pos ⟨rfl, rfl⟩]
  simp -implicitDefEqProofs
  repeat (first | refine joinP_go ?_ | simp -implicitDefEqProofs)
  refine rReader_ok hR s (by omega) t0 (by omega) false ?_
  obtain ⟨x0, t1, e0, hg0⟩ : ∃ x t e, gNum s t0 = (x, t, e) := ⟨_, _, _, rfl⟩
  rw [hg0]
  dsimp only
  by_cases he0 : e0 = 0
  · subst he0
    have q0 := gNum_enc hg0
    rw [if_pos ⟨rfl, rfl⟩]
    simp -implicitDefEqProofs
    by_cases hl : t1 = s.length
    · have hl' : (t1 != (s.length : Int)) = false := by simp [hl]
      simp -implicitDefEqProofs [hl']
      refine ref1_EventMay_ok hR ⟨0, 0, 0, 0, 0, 0, 0, x0⟩ ?_
      have hev : evGet s = if evMay ⟨0, 0, 0, 0, 0, 0, 0, x0⟩ = true then some ⟨0, 0, 0, 0, 0, 0, 0, x0⟩ else none := by simp [evGet, rNums, evCount, evOf, ev0, hg, hg0, hl]
      cases hm : evMay ⟨0, 0, 0, 0, 0, 0, 0, x0⟩ with
      | true => rw [hm] at hev; simp at hev; simp -implicitDefEqProofs; rw [hev]; exact Ans.rfl' _
      | false => rw [hm] at hev; simp at hev; simp -implicitDefEqProofs; rw [hev]; exact Ans.rfl' _
    · have hl' : (t1 != (s.length : Int)) = true := by simpa using hl
      have hev : evGet s = none := by simp [evGet, rNums, evCount, hg, hg0, hl]
      rw [hev]
      simp -implicitDefEqProofs [hl']
      exact Ans.rfl' _
  · rw [if_neg (by simp [he0])]
    simp -implicitDefEqProofs
    have hev : evGet s = none := by simp [evGet, rNums, evCount, hg, hg0, he0]
    rw [hev]
    exact Ans.rfl' _
theorem ref1_GetEvent_1 (hR : R.Ok) (s : Bs0) (hs : s.length < 8000000000000000000) (t0 : Int) (hg : gNum s 0 = (1, t0, 0)) {h : AHeap A} {K : AVal → AHeap A → Prop} (hk : K (evTup (evGet s)) h) : Tri Pr R n_ref1_GetEvent [.str s] h K := by
  refine Tri.fn1 hR _ (evTup_ix _) rfl ?_ hk
  have q := gNum_enc hg
  apply c_ref1_GetEvent
  unfold p_ref1_GetEvent
  simp -implicitDefEqProofs
  have hf : (.cells t_bastionref1_Reader [.str s, .int .i64 0, .bool false] : AObj A) = rRead s 0 false := rfl
  rw [hf]
  refine rReader_ok hR s (by omega) 0 (by omega) false ?_
  rw [hg]
  dsimp only
  rw [if_pos ⟨rfl, rfl⟩]
  simp -implicitDefEqProofs
  repeat (first | refine joinP_go ?_ | simp -implicitDefEqProofs)
  refine rReader_ok hR s (by omega) t0 (by omega) false ?_
  obtain ⟨x0, t1, e0, hg0⟩ : ∃ x t e, gNum s t0 = (x, t, e) := ⟨_, _, _, rfl⟩
  rw [hg0]
  dsimp only
  by_cases he0 : e0 = 0
  · subst he0
    have q0 := gNum_enc hg0
    rw [if_pos ⟨rfl, rfl⟩]
    simp -implicitDefEqProofs
    refine rReader_ok hR s (by omega) t1 (by omega) false ?_
    obtain ⟨x1, t2, e1, hg1⟩ : ∃ x t e, gNum s t1 = (x, t, e) := ⟨_, _, _, rfl⟩
    rw [hg1]
    dsimp only
    by_cases he1 : e1 = 0
    · subst he1
      have q1 := gNum_enc hg1
      rw [if_pos ⟨rfl, rfl⟩]
      simp -implicitDefEqProofs
      refine rReader_ok hR s (by omega) t2 (by omega) false ?_
      obtain ⟨x2, t3, e2, hg2⟩ : ∃ x t e, gNum s t2 = (x, t, e) := ⟨_, _, _, rfl⟩
      rw [hg2]
      dsimp only
      by_cases he2 : e2 = 0
      · subst he2
        have q2 := gNum_enc hg2
        rw [if_pos ⟨rfl, rfl⟩]
        simp -implicitDefEqProofs
        refine rReader_ok hR s (by omega) t3 (by omega) false ?_
        obtain ⟨x3, t4, e3, hg3⟩ : ∃ x t e, gNum s t3 = (x, t, e) := ⟨_, _, _, rfl⟩
        rw [hg3]
        dsimp only
        by_cases he3 : e3 = 0
        · subst he3
          have q3 := gNum_enc hg3
          rw [if_pos ⟨rfl, rfl⟩]
          simp -implicitDefEqProofs
          by_cases hl : t4 = s.length
          · have hl' : (t4 != (s.length : Int)) = false := by simp [hl]
            simp -implicitDefEqProofs [hl']
            refine ref1_EventMay_ok hR ⟨1, x0, 0, 0, x1, x2, x3, 0⟩ ?_
            have hev : evGet s = if evMay ⟨1, x0, 0, 0, x1, x2, x3, 0⟩ = true then some ⟨1, x0, 0, 0, x1, x2, x3, 0⟩ else none := by simp [evGet, rNums, evCount, evOf, ev0, hg, hg0, hg1, hg2, hg3, hl]
            cases hm : evMay ⟨1, x0, 0, 0, x1, x2, x3, 0⟩ with
            | true => rw [hm] at hev; simp at hev; simp -implicitDefEqProofs; rw [hev]; exact Ans.rfl' _
            | false => rw [hm] at hev; simp at hev; simp -implicitDefEqProofs; rw [hev]; exact Ans.rfl' _
          · have hl' : (t4 != (s.length : Int)) = true := by simpa using hl
            have hev : evGet s = none := by simp [evGet, rNums, evCount, hg, hg0, hg1, hg2, hg3, hl]
            rw [hev]
            simp -implicitDefEqProofs [hl']
            exact Ans.rfl' _
        · rw [if_neg (by simp [he3])]
          simp -implicitDefEqProofs
          have hev : evGet s = none := by simp [evGet, rNums, evCount, hg, hg0, hg1, hg2, hg3, he3]
          rw [hev]
          exact Ans.rfl' _
      · rw [if_neg (by simp [he2])]
        simp -implicitDefEqProofs
        refine rReader_ok hR s (by omega) t2 (by omega) true ?_
        rw [if_neg (by simp)]
        simp -implicitDefEqProofs
        have hev : evGet s = none := by simp [evGet, rNums, evCount, hg, hg0, hg1, hg2, he2]
        rw [hev]
        exact Ans.rfl' _
    · rw [if_neg (by simp [he1])]
      simp -implicitDefEqProofs
      refine rReader_ok hR s (by omega) t1 (by omega) true ?_
      rw [if_neg (by simp)]
      simp -implicitDefEqProofs
      refine rReader_ok hR s (by omega) t1 (by omega) true ?_
      rw [if_neg (by simp)]
      simp -implicitDefEqProofs
      have hev : evGet s = none := by simp [evGet, rNums, evCount, hg, hg0, hg1, he1]
      rw [hev]
      exact Ans.rfl' _
  · rw [if_neg (by simp [he0])]
    simp -implicitDefEqProofs
    refine rReader_ok hR s (by omega) t0 (by omega) true ?_
    rw [if_neg (by simp)]
    simp -implicitDefEqProofs
    refine rReader_ok hR s (by omega) t0 (by omega) true ?_
    rw [if_neg (by simp)]
    simp -implicitDefEqProofs
    refine rReader_ok hR s (by omega) t0 (by omega) true ?_
    rw [if_neg (by simp)]
    simp -implicitDefEqProofs
    have hev : evGet s = none := by simp [evGet, rNums, evCount, hg, hg0, he0]
    rw [hev]
    exact Ans.rfl' _
theorem ref1_GetEvent_2 (hR : R.Ok) (s : Bs0) (hs : s.length < 8000000000000000000) (t0 : Int) (hg : gNum s 0 = (2, t0, 0)) {h : AHeap A} {K : AVal → AHeap A → Prop} (hk : K (evTup (evGet s)) h) : Tri Pr R n_ref1_GetEvent [.str s] h K := by
  refine Tri.fn1 hR _ (evTup_ix _) rfl ?_ hk
  have q := gNum_enc hg
  apply c_ref1_GetEvent
  unfold p_ref1_GetEvent
  simp -implicitDefEqProofs
  have hf : (.cells t_bastionref1_Reader [.str s, .int .i64 0, .bool false] : AObj A) = rRead s 0 false := rfl
  rw [hf]
  refine rReader_ok hR s (by omega) 0 (by omega) false ?_
  rw [hg]
  dsimp only
  rw [if_pos ⟨rfl, rfl⟩]
  simp -implicitDefEqProofs
  repeat (first | refine joinP_go ?_ | simp -implicitDefEqProofs)
  refine rReader_ok hR s (by omega) t0 (by omega) false ?_
  obtain ⟨x0, t1, e0, hg0⟩ : ∃ x t e, gNum s t0 = (x, t, e) := ⟨_, _, _, rfl⟩
  rw [hg0]
  dsimp only
  by_cases he0 : e0 = 0
  · subst he0
    have q0 := gNum_enc hg0
    rw [if_pos ⟨rfl, rfl⟩]
    simp -implicitDefEqProofs
    refine rReader_ok hR s (by omega) t1 (by omega) false ?_
    obtain ⟨x1, t2, e1, hg1⟩ : ∃ x t e, gNum s t1 = (x, t, e) := ⟨_, _, _, rfl⟩
    rw [hg1]
    dsimp only
    by_cases he1 : e1 = 0
    · subst he1
      have q1 := gNum_enc hg1
      rw [if_pos ⟨rfl, rfl⟩]
      simp -implicitDefEqProofs
      by_cases hl : t2 = s.length
      · have hl' : (t2 != (s.length : Int)) = false := by simp [hl]
        simp -implicitDefEqProofs [hl']
        refine ref1_EventMay_ok hR ⟨2, x0, 0, 0, 0, 0, 0, x1⟩ ?_
        have hev : evGet s = if evMay ⟨2, x0, 0, 0, 0, 0, 0, x1⟩ = true then some ⟨2, x0, 0, 0, 0, 0, 0, x1⟩ else none := by simp [evGet, rNums, evCount, evOf, ev0, hg, hg0, hg1, hl]
        cases hm : evMay ⟨2, x0, 0, 0, 0, 0, 0, x1⟩ with
        | true => rw [hm] at hev; simp at hev; simp -implicitDefEqProofs; rw [hev]; exact Ans.rfl' _
        | false => rw [hm] at hev; simp at hev; simp -implicitDefEqProofs; rw [hev]; exact Ans.rfl' _
      · have hl' : (t2 != (s.length : Int)) = true := by simpa using hl
        have hev : evGet s = none := by simp [evGet, rNums, evCount, hg, hg0, hg1, hl]
        rw [hev]
        simp -implicitDefEqProofs [hl']
        exact Ans.rfl' _
    · rw [if_neg (by simp [he1])]
      simp -implicitDefEqProofs
      have hev : evGet s = none := by simp [evGet, rNums, evCount, hg, hg0, hg1, he1]
      rw [hev]
      exact Ans.rfl' _
  · rw [if_neg (by simp [he0])]
    simp -implicitDefEqProofs
    refine rReader_ok hR s (by omega) t0 (by omega) true ?_
    rw [if_neg (by simp)]
    simp -implicitDefEqProofs
    have hev : evGet s = none := by simp [evGet, rNums, evCount, hg, hg0, he0]
    rw [hev]
    exact Ans.rfl' _
theorem ref1_GetEvent_3 (hR : R.Ok) (s : Bs0) (hs : s.length < 8000000000000000000) (t0 : Int) (hg : gNum s 0 = (3, t0, 0)) {h : AHeap A} {K : AVal → AHeap A → Prop} (hk : K (evTup (evGet s)) h) : Tri Pr R n_ref1_GetEvent [.str s] h K := by
  refine Tri.fn1 hR _ (evTup_ix _) rfl ?_ hk
  have q := gNum_enc hg
  apply c_ref1_GetEvent
  unfold p_ref1_GetEvent
  simp -implicitDefEqProofs
  have hf : (.cells t_bastionref1_Reader [.str s, .int .i64 0, .bool false] : AObj A) = rRead s 0 false := rfl
  rw [hf]
  refine rReader_ok hR s (by omega) 0 (by omega) false ?_
  rw [hg]
  dsimp only
  rw [if_pos ⟨rfl, rfl⟩]
  simp -implicitDefEqProofs
  repeat (first | refine joinP_go ?_ | simp -implicitDefEqProofs)
  refine rReader_ok hR s (by omega) t0 (by omega) false ?_
  obtain ⟨x0, t1, e0, hg0⟩ : ∃ x t e, gNum s t0 = (x, t, e) := ⟨_, _, _, rfl⟩
  rw [hg0]
  dsimp only
  by_cases he0 : e0 = 0
  · subst he0
    have q0 := gNum_enc hg0
    rw [if_pos ⟨rfl, rfl⟩]
    simp -implicitDefEqProofs
    refine rReader_ok hR s (by omega) t1 (by omega) false ?_
    obtain ⟨x1, t2, e1, hg1⟩ : ∃ x t e, gNum s t1 = (x, t, e) := ⟨_, _, _, rfl⟩
    rw [hg1]
    dsimp only
    by_cases he1 : e1 = 0
    · subst he1
      have q1 := gNum_enc hg1
      rw [if_pos ⟨rfl, rfl⟩]
      simp -implicitDefEqProofs
      by_cases hl : t2 = s.length
      · have hl' : (t2 != (s.length : Int)) = false := by simp [hl]
        simp -implicitDefEqProofs [hl']
        refine ref1_EventMay_ok hR ⟨3, x0, 0, 0, x1, 0, 0, 0⟩ ?_
        have hev : evGet s = if evMay ⟨3, x0, 0, 0, x1, 0, 0, 0⟩ = true then some ⟨3, x0, 0, 0, x1, 0, 0, 0⟩ else none := by simp [evGet, rNums, evCount, evOf, ev0, hg, hg0, hg1, hl]
        cases hm : evMay ⟨3, x0, 0, 0, x1, 0, 0, 0⟩ with
        | true => rw [hm] at hev; simp at hev; simp -implicitDefEqProofs; rw [hev]; exact Ans.rfl' _
        | false => rw [hm] at hev; simp at hev; simp -implicitDefEqProofs; rw [hev]; exact Ans.rfl' _
      · have hl' : (t2 != (s.length : Int)) = true := by simpa using hl
        have hev : evGet s = none := by simp [evGet, rNums, evCount, hg, hg0, hg1, hl]
        rw [hev]
        simp -implicitDefEqProofs [hl']
        exact Ans.rfl' _
    · rw [if_neg (by simp [he1])]
      simp -implicitDefEqProofs
      have hev : evGet s = none := by simp [evGet, rNums, evCount, hg, hg0, hg1, he1]
      rw [hev]
      exact Ans.rfl' _
  · rw [if_neg (by simp [he0])]
    simp -implicitDefEqProofs
    refine rReader_ok hR s (by omega) t0 (by omega) true ?_
    rw [if_neg (by simp)]
    simp -implicitDefEqProofs
    have hev : evGet s = none := by simp [evGet, rNums, evCount, hg, hg0, he0]
    rw [hev]
    exact Ans.rfl' _
theorem ref1_GetEvent_4 (hR : R.Ok) (s : Bs0) (hs : s.length < 8000000000000000000) (t0 : Int) (hg : gNum s 0 = (4, t0, 0)) {h : AHeap A} {K : AVal → AHeap A → Prop} (hk : K (evTup (evGet s)) h) : Tri Pr R n_ref1_GetEvent [.str s] h K := by
  refine Tri.fn1 hR _ (evTup_ix _) rfl ?_ hk
  have q := gNum_enc hg
  apply c_ref1_GetEvent
  unfold p_ref1_GetEvent
  simp -implicitDefEqProofs
  have hf : (.cells t_bastionref1_Reader [.str s, .int .i64 0, .bool false] : AObj A) = rRead s 0 false := rfl
  rw [hf]
  refine rReader_ok hR s (by omega) 0 (by omega) false ?_
  rw [hg]
  dsimp only
  rw [if_pos ⟨rfl, rfl⟩]
  simp -implicitDefEqProofs
  repeat (first | refine joinP_go ?_ | simp -implicitDefEqProofs)
  refine rReader_ok hR s (by omega) t0 (by omega) false ?_
  obtain ⟨x0, t1, e0, hg0⟩ : ∃ x t e, gNum s t0 = (x, t, e) := ⟨_, _, _, rfl⟩
  rw [hg0]
  dsimp only
  by_cases he0 : e0 = 0
  · subst he0
    have q0 := gNum_enc hg0
    rw [if_pos ⟨rfl, rfl⟩]
    simp -implicitDefEqProofs
    by_cases hl : t1 = s.length
    · have hl' : (t1 != (s.length : Int)) = false := by simp [hl]
      simp -implicitDefEqProofs [hl']
      refine ref1_EventMay_ok hR ⟨4, x0, 0, 0, 0, 0, 0, 0⟩ ?_
      have hev : evGet s = if evMay ⟨4, x0, 0, 0, 0, 0, 0, 0⟩ = true then some ⟨4, x0, 0, 0, 0, 0, 0, 0⟩ else none := by simp [evGet, rNums, evCount, evOf, ev0, hg, hg0, hl]
      cases hm : evMay ⟨4, x0, 0, 0, 0, 0, 0, 0⟩ with
      | true => rw [hm] at hev; simp at hev; simp -implicitDefEqProofs; rw [hev]; exact Ans.rfl' _
      | false => rw [hm] at hev; simp at hev; simp -implicitDefEqProofs; rw [hev]; exact Ans.rfl' _
    · have hl' : (t1 != (s.length : Int)) = true := by simpa using hl
      have hev : evGet s = none := by simp [evGet, rNums, evCount, hg, hg0, hl]
      rw [hev]
      simp -implicitDefEqProofs [hl']
      exact Ans.rfl' _
  · rw [if_neg (by simp [he0])]
    simp -implicitDefEqProofs
    have hev : evGet s = none := by simp [evGet, rNums, evCount, hg, hg0, he0]
    rw [hev]
    exact Ans.rfl' _
theorem ref1_GetEvent_5 (hR : R.Ok) (s : Bs0) (hs : s.length < 8000000000000000000) (t0 : Int) (hg : gNum s 0 = (5, t0, 0)) {h : AHeap A} {K : AVal → AHeap A → Prop} (hk : K (evTup (evGet s)) h) : Tri Pr R n_ref1_GetEvent [.str s] h K := by
  refine Tri.fn1 hR _ (evTup_ix _) rfl ?_ hk
  have q := gNum_enc hg
  apply c_ref1_GetEvent
  unfold p_ref1_GetEvent
  simp -implicitDefEqProofs
  have hf : (.cells t_bastionref1_Reader [.str s, .int .i64 0, .bool false] : AObj A) = rRead s 0 false := rfl
  rw [hf]
  refine rReader_ok hR s (by omega) 0 (by omega) false ?_
  rw [hg]
  dsimp only
  rw [if_pos ⟨rfl, rfl⟩]
  simp -implicitDefEqProofs
  repeat (first | refine joinP_go ?_ | simp -implicitDefEqProofs)
  refine rReader_ok hR s (by omega) t0 (by omega) false ?_
  obtain ⟨x0, t1, e0, hg0⟩ : ∃ x t e, gNum s t0 = (x, t, e) := ⟨_, _, _, rfl⟩
  rw [hg0]
  dsimp only
  by_cases he0 : e0 = 0
  · subst he0
    have q0 := gNum_enc hg0
    rw [if_pos ⟨rfl, rfl⟩]
    simp -implicitDefEqProofs
    refine rReader_ok hR s (by omega) t1 (by omega) false ?_
    obtain ⟨x1, t2, e1, hg1⟩ : ∃ x t e, gNum s t1 = (x, t, e) := ⟨_, _, _, rfl⟩
    rw [hg1]
    dsimp only
    by_cases he1 : e1 = 0
    · subst he1
      have q1 := gNum_enc hg1
      rw [if_pos ⟨rfl, rfl⟩]
      simp -implicitDefEqProofs
      refine rReader_ok hR s (by omega) t2 (by omega) false ?_
      obtain ⟨x2, t3, e2, hg2⟩ : ∃ x t e, gNum s t2 = (x, t, e) := ⟨_, _, _, rfl⟩
      rw [hg2]
      dsimp only
      by_cases he2 : e2 = 0
      · subst he2
        have q2 := gNum_enc hg2
        rw [if_pos ⟨rfl, rfl⟩]
        simp -implicitDefEqProofs
        refine rReader_ok hR s (by omega) t3 (by omega) false ?_
        obtain ⟨x3, t4, e3, hg3⟩ : ∃ x t e, gNum s t3 = (x, t, e) := ⟨_, _, _, rfl⟩
        rw [hg3]
        dsimp only
        by_cases he3 : e3 = 0
        · subst he3
          have q3 := gNum_enc hg3
          rw [if_pos ⟨rfl, rfl⟩]
          simp -implicitDefEqProofs
          by_cases hl : t4 = s.length
          · have hl' : (t4 != (s.length : Int)) = false := by simp [hl]
            simp -implicitDefEqProofs [hl']
            refine ref1_EventMay_ok hR ⟨5, x1, x0, x2, 0, 0, 0, x3⟩ ?_
            have hev : evGet s = if evMay ⟨5, x1, x0, x2, 0, 0, 0, x3⟩ = true then some ⟨5, x1, x0, x2, 0, 0, 0, x3⟩ else none := by simp [evGet, rNums, evCount, evOf, ev0, hg, hg0, hg1, hg2, hg3, hl]
            cases hm : evMay ⟨5, x1, x0, x2, 0, 0, 0, x3⟩ with
            | true => rw [hm] at hev; simp at hev; simp -implicitDefEqProofs; rw [hev]; exact Ans.rfl' _
            | false => rw [hm] at hev; simp at hev; simp -implicitDefEqProofs; rw [hev]; exact Ans.rfl' _
          · have hl' : (t4 != (s.length : Int)) = true := by simpa using hl
            have hev : evGet s = none := by simp [evGet, rNums, evCount, hg, hg0, hg1, hg2, hg3, hl]
            rw [hev]
            simp -implicitDefEqProofs [hl']
            exact Ans.rfl' _
        · rw [if_neg (by simp [he3])]
          simp -implicitDefEqProofs
          have hev : evGet s = none := by simp [evGet, rNums, evCount, hg, hg0, hg1, hg2, hg3, he3]
          rw [hev]
          exact Ans.rfl' _
      · rw [if_neg (by simp [he2])]
        simp -implicitDefEqProofs
        refine rReader_ok hR s (by omega) t2 (by omega) true ?_
        rw [if_neg (by simp)]
        simp -implicitDefEqProofs
        have hev : evGet s = none := by simp [evGet, rNums, evCount, hg, hg0, hg1, hg2, he2]
        rw [hev]
        exact Ans.rfl' _
    · rw [if_neg (by simp [he1])]
      simp -implicitDefEqProofs
      refine rReader_ok hR s (by omega) t1 (by omega) true ?_
      rw [if_neg (by simp)]
      simp -implicitDefEqProofs
      refine rReader_ok hR s (by omega) t1 (by omega) true ?_
      rw [if_neg (by simp)]
      simp -implicitDefEqProofs
      have hev : evGet s = none := by simp [evGet, rNums, evCount, hg, hg0, hg1, he1]
      rw [hev]
      exact Ans.rfl' _
  · rw [if_neg (by simp [he0])]
    simp -implicitDefEqProofs
    refine rReader_ok hR s (by omega) t0 (by omega) true ?_
    rw [if_neg (by simp)]
    simp -implicitDefEqProofs
    refine rReader_ok hR s (by omega) t0 (by omega) true ?_
    rw [if_neg (by simp)]
    simp -implicitDefEqProofs
    refine rReader_ok hR s (by omega) t0 (by omega) true ?_
    rw [if_neg (by simp)]
    simp -implicitDefEqProofs
    have hev : evGet s = none := by simp [evGet, rNums, evCount, hg, hg0, he0]
    rw [hev]
    exact Ans.rfl' _
theorem ref1_GetEvent_6 (hR : R.Ok) (s : Bs0) (hs : s.length < 8000000000000000000) (t0 : Int) (hg : gNum s 0 = (6, t0, 0)) {h : AHeap A} {K : AVal → AHeap A → Prop} (hk : K (evTup (evGet s)) h) : Tri Pr R n_ref1_GetEvent [.str s] h K := by
  refine Tri.fn1 hR _ (evTup_ix _) rfl ?_ hk
  have q := gNum_enc hg
  apply c_ref1_GetEvent
  unfold p_ref1_GetEvent
  simp -implicitDefEqProofs
  have hf : (.cells t_bastionref1_Reader [.str s, .int .i64 0, .bool false] : AObj A) = rRead s 0 false := rfl
  rw [hf]
  refine rReader_ok hR s (by omega) 0 (by omega) false ?_
  rw [hg]
  dsimp only
  rw [if_pos ⟨rfl, rfl⟩]
  simp -implicitDefEqProofs
  repeat (first | refine joinP_go ?_ | simp -implicitDefEqProofs)
  refine rReader_ok hR s (by omega) t0 (by omega) false ?_
  obtain ⟨x0, t1, e0, hg0⟩ : ∃ x t e, gNum s t0 = (x, t, e) := ⟨_, _, _, rfl⟩
  rw [hg0]
  dsimp only
  by_cases he0 : e0 = 0
  · subst he0
    have q0 := gNum_enc hg0
    rw [if_pos ⟨rfl, rfl⟩]
    simp -implicitDefEqProofs
    refine rReader_ok hR s (by omega) t1 (by omega) false ?_
    obtain ⟨x1, t2, e1, hg1⟩ : ∃ x t e, gNum s t1 = (x, t, e) := ⟨_, _, _, rfl⟩
    rw [hg1]
    dsimp only
    by_cases he1 : e1 = 0
    · subst he1
      have q1 := gNum_enc hg1
      rw [if_pos ⟨rfl, rfl⟩]
      simp -implicitDefEqProofs
      refine rReader_ok hR s (by omega) t2 (by omega) false ?_
      obtain ⟨x2, t3, e2, hg2⟩ : ∃ x t e, gNum s t2 = (x, t, e) := ⟨_, _, _, rfl⟩
      rw [hg2]
      dsimp only
      by_cases he2 : e2 = 0
      · subst he2
        have q2 := gNum_enc hg2
        rw [if_pos ⟨rfl, rfl⟩]
        simp -implicitDefEqProofs
        refine rReader_ok hR s (by omega) t3 (by omega) false ?_
        obtain ⟨x3, t4, e3, hg3⟩ : ∃ x t e, gNum s t3 = (x, t, e) := ⟨_, _, _, rfl⟩
        rw [hg3]
        dsimp only
        by_cases he3 : e3 = 0
        · subst he3
          have q3 := gNum_enc hg3
          rw [if_pos ⟨rfl, rfl⟩]
          simp -implicitDefEqProofs
          by_cases hl : t4 = s.length
          · have hl' : (t4 != (s.length : Int)) = false := by simp [hl]
            simp -implicitDefEqProofs [hl']
            refine ref1_EventMay_ok hR ⟨6, 0, x0, 0, x1, x2, 0, x3⟩ ?_
            have hev : evGet s = if evMay ⟨6, 0, x0, 0, x1, x2, 0, x3⟩ = true then some ⟨6, 0, x0, 0, x1, x2, 0, x3⟩ else none := by simp [evGet, rNums, evCount, evOf, ev0, hg, hg0, hg1, hg2, hg3, hl]
            cases hm : evMay ⟨6, 0, x0, 0, x1, x2, 0, x3⟩ with
            | true => rw [hm] at hev; simp at hev; simp -implicitDefEqProofs; rw [hev]; exact Ans.rfl' _
            | false => rw [hm] at hev; simp at hev; simp -implicitDefEqProofs; rw [hev]; exact Ans.rfl' _
          · have hl' : (t4 != (s.length : Int)) = true := by simpa using hl
            have hev : evGet s = none := by simp [evGet, rNums, evCount, hg, hg0, hg1, hg2, hg3, hl]
            rw [hev]
            simp -implicitDefEqProofs [hl']
            exact Ans.rfl' _
        · rw [if_neg (by simp [he3])]
          simp -implicitDefEqProofs
          have hev : evGet s = none := by simp [evGet, rNums, evCount, hg, hg0, hg1, hg2, hg3, he3]
          rw [hev]
          exact Ans.rfl' _
      · rw [if_neg (by simp [he2])]
        simp -implicitDefEqProofs
        refine rReader_ok hR s (by omega) t2 (by omega) true ?_
        rw [if_neg (by simp)]
        simp -implicitDefEqProofs
        have hev : evGet s = none := by simp [evGet, rNums, evCount, hg, hg0, hg1, hg2, he2]
        rw [hev]
        exact Ans.rfl' _
    · rw [if_neg (by simp [he1])]
      simp -implicitDefEqProofs
      refine rReader_ok hR s (by omega) t1 (by omega) true ?_
      rw [if_neg (by simp)]
      simp -implicitDefEqProofs
      refine rReader_ok hR s (by omega) t1 (by omega) true ?_
      rw [if_neg (by simp)]
      simp -implicitDefEqProofs
      have hev : evGet s = none := by simp [evGet, rNums, evCount, hg, hg0, hg1, he1]
      rw [hev]
      exact Ans.rfl' _
  · rw [if_neg (by simp [he0])]
    simp -implicitDefEqProofs
    refine rReader_ok hR s (by omega) t0 (by omega) true ?_
    rw [if_neg (by simp)]
    simp -implicitDefEqProofs
    refine rReader_ok hR s (by omega) t0 (by omega) true ?_
    rw [if_neg (by simp)]
    simp -implicitDefEqProofs
    refine rReader_ok hR s (by omega) t0 (by omega) true ?_
    rw [if_neg (by simp)]
    simp -implicitDefEqProofs
    have hev : evGet s = none := by simp [evGet, rNums, evCount, hg, hg0, he0]
    rw [hev]
    exact Ans.rfl' _
theorem ref1_GetEvent_7 (hR : R.Ok) (s : Bs0) (hs : s.length < 8000000000000000000) (t0 : Int) (hg : gNum s 0 = (7, t0, 0)) {h : AHeap A} {K : AVal → AHeap A → Prop} (hk : K (evTup (evGet s)) h) : Tri Pr R n_ref1_GetEvent [.str s] h K := by
  refine Tri.fn1 hR _ (evTup_ix _) rfl ?_ hk
  have q := gNum_enc hg
  apply c_ref1_GetEvent
  unfold p_ref1_GetEvent
  simp -implicitDefEqProofs
  have hf : (.cells t_bastionref1_Reader [.str s, .int .i64 0, .bool false] : AObj A) = rRead s 0 false := rfl
  rw [hf]
  refine rReader_ok hR s (by omega) 0 (by omega) false ?_
  rw [hg]
  dsimp only
  rw [if_pos ⟨rfl, rfl⟩]
  simp -implicitDefEqProofs
  repeat (first | refine joinP_go ?_ | simp -implicitDefEqProofs)
  refine rReader_ok hR s (by omega) t0 (by omega) false ?_
  obtain ⟨x0, t1, e0, hg0⟩ : ∃ x t e, gNum s t0 = (x, t, e) := ⟨_, _, _, rfl⟩
  rw [hg0]
  dsimp only
  by_cases he0 : e0 = 0
  · subst he0
    have q0 := gNum_enc hg0
    rw [if_pos ⟨rfl, rfl⟩]
    simp -implicitDefEqProofs
    by_cases hl : t1 = s.length
    · have hl' : (t1 != (s.length : Int)) = false := by simp [hl]
      simp -implicitDefEqProofs [hl']
      refine ref1_EventMay_ok hR ⟨7, x0, 0, 0, 0, 0, 0, 0⟩ ?_
      have hev : evGet s = if evMay ⟨7, x0, 0, 0, 0, 0, 0, 0⟩ = true then some ⟨7, x0, 0, 0, 0, 0, 0, 0⟩ else none := by simp [evGet, rNums, evCount, evOf, ev0, hg, hg0, hl]
      cases hm : evMay ⟨7, x0, 0, 0, 0, 0, 0, 0⟩ with
      | true => rw [hm] at hev; simp at hev; simp -implicitDefEqProofs; rw [hev]; exact Ans.rfl' _
      | false => rw [hm] at hev; simp at hev; simp -implicitDefEqProofs; rw [hev]; exact Ans.rfl' _
    · have hl' : (t1 != (s.length : Int)) = true := by simpa using hl
      have hev : evGet s = none := by simp [evGet, rNums, evCount, hg, hg0, hl]
      rw [hev]
      simp -implicitDefEqProofs [hl']
      exact Ans.rfl' _
  · rw [if_neg (by simp [he0])]
    simp -implicitDefEqProofs
    have hev : evGet s = none := by simp [evGet, rNums, evCount, hg, hg0, he0]
    rw [hev]
    exact Ans.rfl' _
theorem ref1_GetEvent_8 (hR : R.Ok) (s : Bs0) (hs : s.length < 8000000000000000000) (t0 : Int) (hg : gNum s 0 = (8, t0, 0)) {h : AHeap A} {K : AVal → AHeap A → Prop} (hk : K (evTup (evGet s)) h) : Tri Pr R n_ref1_GetEvent [.str s] h K := by
  refine Tri.fn1 hR _ (evTup_ix _) rfl ?_ hk
  have q := gNum_enc hg
  apply c_ref1_GetEvent
  unfold p_ref1_GetEvent
  simp -implicitDefEqProofs
  have hf : (.cells t_bastionref1_Reader [.str s, .int .i64 0, .bool false] : AObj A) = rRead s 0 false := rfl
  rw [hf]
  refine rReader_ok hR s (by omega) 0 (by omega) false ?_
  rw [hg]
  dsimp only
  rw [if_pos ⟨rfl, rfl⟩]
  simp -implicitDefEqProofs
  repeat (first | refine joinP_go ?_ | simp -implicitDefEqProofs)
  by_cases hl : t0 = s.length
  · have hl' : (t0 != (s.length : Int)) = false := by simp [hl]
    simp -implicitDefEqProofs [hl']
    refine ref1_EventMay_ok hR ⟨8, 0, 0, 0, 0, 0, 0, 0⟩ ?_
    have hev : evGet s = if evMay ⟨8, 0, 0, 0, 0, 0, 0, 0⟩ = true then some ⟨8, 0, 0, 0, 0, 0, 0, 0⟩ else none := by simp [evGet, rNums, evCount, evOf, ev0, hg, hl]
    cases hm : evMay ⟨8, 0, 0, 0, 0, 0, 0, 0⟩ with
    | true => rw [hm] at hev; simp at hev; simp -implicitDefEqProofs; rw [hev]; exact Ans.rfl' _
    | false => rw [hm] at hev; simp at hev; simp -implicitDefEqProofs; rw [hev]; exact Ans.rfl' _
  · have hl' : (t0 != (s.length : Int)) = true := by simpa using hl
    have hev : evGet s = none := by simp [evGet, rNums, evCount, hg, hl]
    rw [hev]
    simp -implicitDefEqProofs [hl']
    exact Ans.rfl' _
theorem ref1_GetEvent_9 (hR : R.Ok) (s : Bs0) (hs : s.length < 8000000000000000000) (t0 : Int) (hg : gNum s 0 = (9, t0, 0)) {h : AHeap A} {K : AVal → AHeap A → Prop} (hk : K (evTup (evGet s)) h) : Tri Pr R n_ref1_GetEvent [.str s] h K := by
  refine Tri.fn1 hR _ (evTup_ix _) rfl ?_ hk
  have q := gNum_enc hg
  apply c_ref1_GetEvent
  unfold p_ref1_GetEvent
  simp -implicitDefEqProofs
  have hf : (.cells t_bastionref1_Reader [.str s, .int .i64 0, .bool false] : AObj A) = rRead s 0 false := rfl
  rw [hf]
  refine rReader_ok hR s (by omega) 0 (by omega) false ?_
  rw [hg]
  dsimp only
  rw [if_pos ⟨rfl, rfl⟩]
  simp -implicitDefEqProofs
  repeat (first | refine joinP_go ?_ | simp -implicitDefEqProofs)
  refine rReader_ok hR s (by omega) t0 (by omega) false ?_
  obtain ⟨x0, t1, e0, hg0⟩ : ∃ x t e, gNum s t0 = (x, t, e) := ⟨_, _, _, rfl⟩
  rw [hg0]
  dsimp only
  by_cases he0 : e0 = 0
  · subst he0
    have q0 := gNum_enc hg0
    rw [if_pos ⟨rfl, rfl⟩]
    simp -implicitDefEqProofs
    by_cases hl : t1 = s.length
    · have hl' : (t1 != (s.length : Int)) = false := by simp [hl]
      simp -implicitDefEqProofs [hl']
      refine ref1_EventMay_ok hR ⟨9, 0, x0, 0, 0, 0, 0, 0⟩ ?_
      have hev : evGet s = if evMay ⟨9, 0, x0, 0, 0, 0, 0, 0⟩ = true then some ⟨9, 0, x0, 0, 0, 0, 0, 0⟩ else none := by simp [evGet, rNums, evCount, evOf, ev0, hg, hg0, hl]
      cases hm : evMay ⟨9, 0, x0, 0, 0, 0, 0, 0⟩ with
      | true => rw [hm] at hev; simp at hev; simp -implicitDefEqProofs; rw [hev]; exact Ans.rfl' _
      | false => rw [hm] at hev; simp at hev; simp -implicitDefEqProofs; rw [hev]; exact Ans.rfl' _
    · have hl' : (t1 != (s.length : Int)) = true := by simpa using hl
      have hev : evGet s = none := by simp [evGet, rNums, evCount, hg, hg0, hl]
      rw [hev]
      simp -implicitDefEqProofs [hl']
      exact Ans.rfl' _
  · rw [if_neg (by simp [he0])]
    simp -implicitDefEqProofs
    have hev : evGet s = none := by simp [evGet, rNums, evCount, hg, hg0, he0]
    rw [hev]
    exact Ans.rfl' _
theorem ref1_GetEvent_ok (hR : R.Ok) (s : Bs0) (hs : s.length < 8000000000000000000) {h : AHeap A} {K : AVal → AHeap A → Prop} (hk : K (evTup (evGet s)) h) : Tri Pr R n_ref1_GetEvent [.str s] h K := by
  obtain ⟨k, t0, e, hg⟩ : ∃ k t e, gNum s 0 = (k, t, e) := ⟨_, _, _, rfl⟩
  by_cases he : e = 0
  · subst he
    have q := gNum_enc hg
    have hk0 : 0 ≤ k := by have := q.1; simp [nMay] at this; omega
    by_cases h9 : 9 < k
    · have f0 : (k == 0) = false := by simp; omega
      have f1 : (k == 1) = false := by simp; omega
      have f2 : (k == 2) = false := by simp; omega
      have f3 : (k == 3) = false := by simp; omega
      have f4 : (k == 4) = false := by simp; omega
      have f5 : (k == 5) = false := by simp; omega
      have f6 : (k == 6) = false := by simp; omega
      have f7 : (k == 7) = false := by simp; omega
      have f9 : (k == 9) = false := by simp; omega
      have hmf : ∀ l, evMay (evOf k l) = false := by
        intro l
        cases hm : evMay (evOf k l) with
        | false => rfl
        | true => have := evMay_kind hm; rw [evOf_kind] at this; omega
      have hc : evCount k = 0 := by unfold evCount; rw [if_neg (by omega), if_neg (by omega), if_neg (by omega)]
      have hev : evGet s = none := by simp [evGet, rNums, hg, hc, hmf]
      rw [hev] at hk
      refine Tri.fn1 hR _ (evTup_ix none) rfl ?_ hk
      apply c_ref1_GetEvent
      unfold p_ref1_GetEvent
      simp -implicitDefEqProofs
      have hf : (.cells t_bastionref1_Reader [.str s, .int .i64 0, .bool false] : AObj A) = rRead s 0 false := rfl
      rw [hf]
      refine rReader_ok hR s (by omega) 0 (by omega) false ?_
      rw [hg]
      dsimp only
      rw [if_pos ⟨rfl, rfl⟩]
      simp -implicitDefEqProofs
      repeat (first | refine joinP_go ?_ | simp -implicitDefEqProofs [f0, f1, f2, f3, f4, f5, f6, f7, f9])
      by_cases hl : t0 = s.length
      · have hl' : (t0 != (s.length : Int)) = false := by simp [hl]
        simp -implicitDefEqProofs [hl']
        refine ref1_EventMay_ok hR ⟨k, 0, 0, 0, 0, 0, 0, 0⟩ ?_
        have hm : evMay ⟨k, 0, 0, 0, 0, 0, 0, 0⟩ = false := by
          cases hm : evMay ⟨k, 0, 0, 0, 0, 0, 0, 0⟩ with
          | false => rfl
          | true => have := evMay_kind hm; simp at this; omega
        rw [hm]
        simp -implicitDefEqProofs
        exact Ans.rfl' _
      · have hl' : (t0 != (s.length : Int)) = true := by simpa using hl
        simp -implicitDefEqProofs [hl']
        exact Ans.rfl' _
    · have hc2 : k = 0 ∨ k = 1 ∨ k = 2 ∨ k = 3 ∨ k = 4 ∨ k = 5 ∨ k = 6 ∨ k = 7 ∨ k = 8 ∨ k = 9 := by omega
      rcases hc2 with rfl | rfl | rfl | rfl | rfl | rfl | rfl | rfl | rfl | rfl
      · exact ref1_GetEvent_0 hR s hs t0 hg hk
      · exact ref1_GetEvent_1 hR s hs t0 hg hk
      · exact ref1_GetEvent_2 hR s hs t0 hg hk
      · exact ref1_GetEvent_3 hR s hs t0 hg hk
      · exact ref1_GetEvent_4 hR s hs t0 hg hk
      · exact ref1_GetEvent_5 hR s hs t0 hg hk
      · exact ref1_GetEvent_6 hR s hs t0 hg hk
      · exact ref1_GetEvent_7 hR s hs t0 hg hk
      · exact ref1_GetEvent_8 hR s hs t0 hg hk
      · exact ref1_GetEvent_9 hR s hs t0 hg hk
  · have hev : evGet s = none := by simp [evGet, rNums, hg, he]
    rw [hev] at hk
    refine Tri.fn1 hR _ (evTup_ix none) rfl ?_ hk
    apply c_ref1_GetEvent
    unfold p_ref1_GetEvent
    simp -implicitDefEqProofs
    have hf : (.cells t_bastionref1_Reader [.str s, .int .i64 0, .bool false] : AObj A) = rRead s 0 false := rfl
    rw [hf]
    refine rReader_ok hR s (by omega) 0 (by omega) false ?_
    rw [hg]
    dsimp only
    rw [if_neg (by simp [he])]
    simp -implicitDefEqProofs
    repeat (first | refine joinP_go ?_ | simp -implicitDefEqProofs)
    refine rReader_ok hR s (by omega) 0 (by omega) true ?_
    rw [if_neg (by simp)]
    simp -implicitDefEqProofs
    exact Ans.rfl' _
end Go.AI

/- Texts; readers behind two objects. -/
set_option linter.all false
namespace Go.AI
variable {A : Type} {R : Adts A}
theorem field_All_ok (hR : R.Ok) (l : List Int) (hl : l.length ≤ 1000) (ex : Bool) {t : TypeId} {h : AHeap A} {b : Nat} (hb : h[b]? = some (.cells t (l.map (.int .i64)))) {K : AVal → AHeap A → Prop} (hk : if l.all nMay = true then K (.tup [.str (nAll l), .bool true]) h else K (.tup [.str [], .bool false]) h) :
    Tri Pr R n_field_All [.sl b 0 l.length l.length ex] h K := by
  have hren : ∀ τ, (AObj.cells t (l.map (.int .i64)) : AObj A).ren R τ = .cells t (l.map (.int .i64)) := fun τ => by
    simp only [AObj.ren]; rw [rens_ix0 τ _ (by simp [ixs_all, AVal.ix])]
  have hix : (AObj.cells t (l.map (.int .i64)) : AObj A).ix R 1 := by show ixs 1 _ = true; simp [ixs_all, AVal.ix]
  refine Tri.own hR (as2 := [.sl 0 0 l.length l.length ex]) (Q := fun v o => v = (if l.all nMay = true then .tup [.str (nAll l), .bool true] else .tup [.str [], .bool false]) ∧ o = .cells t (l.map (.int .i64))) rfl hix ?_ hren ?_ hb (by simp [rens, AVal.ren]) ?_
  · rintro _ _ ⟨rfl, rfl⟩; exact ⟨by split <;> rfl, hren⟩
  · obtain ⟨v0, hv0⟩ : ∃ v0 : AVal, (if l.all nMay = true then .tup [.str (nAll l), .bool true] else .tup [.str [], .bool false]) = v0 := ⟨_, rfl⟩
    rw [hv0]
    apply c_field_All
    unfold p_field_All
    refine loopP_go (fun m y g => ∃ i : Nat, y = [.str (nAll (l.take i)), .int .i64 i] ∧ g = [.cells t (l.map (.int .i64))] ∧ i ≤ l.length ∧ m = l.length - i ∧ (l.take i).all nMay = true) l.length (Gives.done (by simp) ⟨0, by simp [nAll], rfl, by omega, by omega, rfl⟩) ?_
    rintro m y g ⟨i, rfl, rfl, hi, rfl, hall⟩
    by_cases h1 : i < l.length
    · have e1 := w64 (n := (i : Int) + 1) (by omega)
      have hlen := nAll_len (l.take i)
      have hlen2 := nS_len l[i]
      have htk : (l.take i).length = i := by simp; omega
      have hsp : nAll (l.take (i + 1)) = nAll (l.take i) ++ nS l[i] := by rw [← List.take_append_getElem h1]; simp only [nAll, List.flatMap_append]; simp
      have hadd : (nAll (l.take i)).length + (nS l[i]).length < 9223372036854775808 := by omega
      simp -implicitDefEqProofs [h1]
      refine field_Num_any hR _ ?_
      cases hc : nMay l[i] with
      | true =>
        simp -implicitDefEqProofs [e1, hadd]
        refine Gives.done (by simp) ⟨l.length - (i + 1), by omega, i + 1, by rw [hsp]; simp, rfl, by omega, rfl, ?_⟩
        intro x hx
        rw [← List.take_append_getElem h1] at hx
        rcases List.mem_append.1 hx with hx | hx
        · exact List.all_eq_true.1 hall x hx
        · simp at hx; subst hx; exact hc
      | false =>
        have : l.all nMay = false := by
          rw [Bool.eq_false_iff]
          intro h2
          have := List.all_eq_true.1 h2 l[i] (List.getElem_mem h1)
          rw [hc] at this; simp at this
        rw [this] at hv0
        simp at hv0
        subst hv0
        simp -implicitDefEqProofs
    · obtain rfl : i = l.length := by omega
      rw [List.take_length] at hall
      rw [hall] at hv0
      simp at hv0
      subst hv0
      simp -implicitDefEqProofs
  · rintro _ _ ⟨rfl, rfl⟩
    have : h.set b (.cells t (l.map (.int .i64))) = h := set_same hb
    rw [this]
    split at hk <;> rename_i h1 <;> simp [h1] <;> exact hk
theorem field_Text_ok (hR : R.Ok) (s : Bs0) (hs : s.length ≤ 65536) {h : AHeap A} {K : AVal → AHeap A → Prop} (hk : K (.tup [.str (nS s.length ++ s), .int .i64 0]) h) : Tri Pr R n_field_Text [.str s] h K := by
  refine Tri.fn1 hR _ rfl rfl ?_ hk
  apply c_field_Text
  unfold p_field_Text
  have h1 : ¬ (65536 : Int) < s.length := by omega
  have hl := nS_len (s.length : Int)
  have h2 : (nS (s.length : Int)).length + s.length < 9223372036854775808 := by omega
  have hm : nMay (s.length : Int) = true := by simp [nMay]; omega
  simp -implicitDefEqProofs [h1]
  refine field_Num_any hR _ ?_
  simp -implicitDefEqProofs [h2, hm]
  exact Ans.rfl' _
theorem ref1_Text_ok (hR : R.Ok) (s : Bs0) (hs : s.length ≤ 65536) {h : AHeap A} {K : AVal → AHeap A → Prop} (hk : K (.tup [.str (nS s.length ++ s), .int .i64 0]) h) : Tri Pr R n_ref1_Text [.str s] h K := by
  refine Tri.fn1 hR _ rfl rfl ?_ hk
  apply c_ref1_Text
  unfold p_ref1_Text
  have h1 : ¬ (65536 : Int) < s.length := by omega
  have hl := nS_len (s.length : Int)
  have h2 : (nS (s.length : Int)).length + s.length < 9223372036854775808 := by omega
  simp -implicitDefEqProofs [h1]
  refine ref1_Nums_ok hR [(s.length : Int)] (by simp) true (t := t_int) (by simp) ?_
  have : nAll [(s.length : Int)] = nS s.length := by simp [nAll]
  rw [this]
  simp -implicitDefEqProofs [h2]
  exact Ans.rfl' _
theorem ref1_GetText_ok (hR : R.Ok) (s : Bs0) (hs : s.length < 8000000000000000000) (at_ : Int) (ha : -8000000000000000000 ≤ at_ ∧ at_ < 8000000000000000000) {h : AHeap A} {K : AVal → AHeap A → Prop}
    (hk : K (.tup [.str (gText s at_).1, .int .i64 (gText s at_).2.1, .int .i64 (gText s at_).2.2]) h) : Tri Pr R n_ref1_GetText [.str s, .int .i64 at_] h K := by
  refine Tri.fn1 hR _ rfl rfl ?_ hk
  apply c_ref1_GetText
  unfold p_ref1_GetText
  refine ref1_GetNum_ok hR s (by omega) at_ (by omega) ?_
  obtain ⟨r, hr⟩ : ∃ r, gText s at_ = r := ⟨_, rfl⟩
  rw [hr]
  unfold gText at hr
  obtain ⟨n, t1, e, hg⟩ : ∃ x t1 e, gNum s at_ = (x, t1, e) := ⟨_, _, _, rfl⟩
  rw [hg] at hr ⊢
  dsimp only at hr ⊢
  by_cases c1 : e = 0
  · subst c1
    obtain ⟨q1, q2, q3, q4, q5⟩ := gNum_enc hg
    have hn : 0 ≤ n ∧ n ≤ 1073741823 := by simpa [nMay] using q1
    rw [if_neg (by simp)] at hr
    have e1 := w64 (n := (s.length : Int) - t1) (by omega)
    have e2 := w64 (n := t1 + n) (by omega)
    by_cases c2 : 65536 < n
    · rw [if_pos c2] at hr; subst hr
      simp -implicitDefEqProofs [c2]; exact Ans.rfl' _
    · rw [if_neg c2] at hr
      by_cases c3 : (s.length : Int) - t1 < n
      · rw [if_pos c3] at hr; subst hr
        simp -implicitDefEqProofs [c2, e1, c3]; exact Ans.rfl' _
      · rw [if_neg c3] at hr; subst hr
        have d1 : 0 ≤ t1 := by omega
        have d2 : t1 ≤ t1 + n := by omega
        have d3 : t1 + n ≤ s.length := by omega
        have d4 : 0 ≤ n := by omega
        have d5 : (t1 + n).toNat = t1.toNat + n.toNat := by omega
        simp -implicitDefEqProofs [c2, e1, c3, e2, d1, d2, d3, d4, d5]
        exact Ans.of (by rw [List.drop_take]; simp)
  · rw [if_pos c1] at hr; subst hr
    have c1' : (e != 0) = true := by simpa using c1
    simp -implicitDefEqProofs [c1']; exact Ans.rfl' _
theorem field_text_ok (hR : R.Ok) (s : Bs0) (hs : s.length < 8000000000000000000) (at_ : Int) (ha : -8000000000000000000 ≤ at_ ∧ at_ < 8000000000000000000) {h : AHeap A} {K : AVal → AHeap A → Prop}
    (hk : if (gText s at_).2.2 = 0 then K (.tup [.str (gText s at_).1, .int .i64 (gText s at_).2.1, .nili]) h else (∀ f : AObj A, K (.tup [.str [], .int .i64 0, .iface t_p_field_Fault (.ptr h.length 0)]) (h ++ [f])) ∧ ∀ f g : AObj A, K (.tup [.str [], .int .i64 0, .iface t_p_field_Fault (.ptr (h.length + 1) 0)]) (h ++ [f, g])) : Tri Pr R n_field_text [.str s, .int .i64 at_] h K := by
  apply c_field_text
  unfold p_field_text
  refine field_num_ok hR s (by omega) at_ (by omega) ?_
  unfold gText at hk
  obtain ⟨n, t1, e, hg⟩ : ∃ x t1 e, gNum s at_ = (x, t1, e) := ⟨_, _, _, rfl⟩
  rw [hg] at hk ⊢
  dsimp only at hk ⊢
  by_cases c1 : e = 0
  · subst c1
    obtain ⟨q1, q2, q3, q4, q5⟩ := gNum_enc hg
    have hn : 0 ≤ n ∧ n ≤ 1073741823 := by simpa [nMay] using q1
    rw [if_pos rfl]
    rw [if_neg (show ¬ (0 : Int) ≠ 0 by simp)] at hk
    have e1 := w64 (n := (s.length : Int) - t1) (by omega)
    have e2 := w64 (n := t1 + n) (by omega)
    by_cases c2 : 65536 < n
    · rw [if_pos c2] at hk
      simp at hk
      simp -implicitDefEqProofs [c2, mkiP]
      exact hk.1 _
    · rw [if_neg c2] at hk
      by_cases c3 : (s.length : Int) - t1 < n
      · rw [if_pos c3] at hk
        simp at hk
        simp -implicitDefEqProofs [c2, e1, c3, mkiP]
        exact hk.1 _
      · rw [if_neg c3] at hk
        simp at hk
        have d1 : 0 ≤ t1 := by omega
        have d2 : t1 ≤ t1 + n := by omega
        have d3 : t1 + n ≤ s.length := by omega
        have d4 : 0 ≤ n := by omega
        have d5 : (t1 + n).toNat = t1.toNat + n.toNat := by omega
        simp -implicitDefEqProofs [c2, e1, c3, e2, d1, d2, d3, d4, d5]
        rw [List.drop_take]
        simpa using hk
  · rw [if_neg c1]
    rw [if_pos c1] at hk
    simp [c1] at hk
    intro a e'
    simp -implicitDefEqProofs [mkiP]
    exact hk.2 _ _
theorem fReader2_ok (hR : R.Ok) (s : Bs0) (hs : s.length < 9000000000000000000) (at_ : Int) (ha : -9000000000000000000 ≤ at_ ∧ at_ < 9000000000000000000) {o o1 : AObj A} {r : AHeap A} {K : AVal → AHeap A → Prop}
    (hk : if (gNum s at_).2.2 = 0 then K (.int .i64 (gNum s at_).1) (o :: o1 :: fRead s (gNum s at_).2.1 .nili :: r) else ∀ a e, K (.int .i64 0) (o :: o1 :: fRead s 0 (.iface t_p_field_Fault (.ptr (r.length + 3) 0)) :: (r ++ [faultO a e]))) :
    Tri Pr R n_field_Reader_Num [.ptr 2 0] (o :: o1 :: fRead s at_ .nili :: r) K := by
  apply c_field_Reader_Num
  unfold p_field_Reader_Num
  simp -implicitDefEqProofs [fRead]
  refine field_num_ok hR s hs at_ ha ?_
  by_cases h : (gNum s at_).2.2 = 0
  · rw [if_pos h] at hk ⊢
    simp -implicitDefEqProofs
    exact hk
  · rw [if_neg h] at hk ⊢
    intro a e
    simp -implicitDefEqProofs
    simpa [fRead] using hk _ _
theorem fReader2_bad (hR : R.Ok) (s : Bs0) (at_ : Int) (t : TypeId) (v : AVal) {o o1 : AObj A} {r : AHeap A} {K : AVal → AHeap A → Prop}
    (hk : K (.int .i64 0) (o :: o1 :: fRead s at_ (.iface t v) :: r)) : Tri Pr R n_field_Reader_Num [.ptr 2 0] (o :: o1 :: fRead s at_ (.iface t v) :: r) K := by
  apply c_field_Reader_Num
  unfold p_field_Reader_Num
  simp -implicitDefEqProofs [fRead]
  exact hk
theorem fText2_ok (hR : R.Ok) (s : Bs0) (hs : s.length < 8000000000000000000) (at_ : Int) (ha : -8000000000000000000 ≤ at_ ∧ at_ < 8000000000000000000) {o o1 : AObj A} {r : AHeap A} {K : AVal → AHeap A → Prop}
    (hk : if (gText s at_).2.2 = 0 then K (.str (gText s at_).1) (o :: o1 :: fRead s (gText s at_).2.1 .nili :: r) else (∀ f : AObj A, K (.str []) (o :: o1 :: fRead s 0 (.iface t_p_field_Fault (.ptr (r.length + 3) 0)) :: (r ++ [f]))) ∧ ∀ f g : AObj A, K (.str []) (o :: o1 :: fRead s 0 (.iface t_p_field_Fault (.ptr (r.length + 4) 0)) :: (r ++ [f, g]))) :
    Tri Pr R n_field_Reader_Text [.ptr 2 0] (o :: o1 :: fRead s at_ .nili :: r) K := by
  apply c_field_Reader_Text
  unfold p_field_Reader_Text
  simp -implicitDefEqProofs [fRead]
  refine field_text_ok hR s hs at_ ha ?_
  by_cases h : (gText s at_).2.2 = 0
  · rw [if_pos h] at hk ⊢
    simp -implicitDefEqProofs
    exact hk
  · rw [if_neg h] at hk ⊢
    refine ⟨fun f => ?_, fun f g => ?_⟩
    · simp -implicitDefEqProofs
      simpa [fRead] using hk.1 f
    · simp -implicitDefEqProofs
      simpa [fRead] using hk.2 f g
theorem fText2_bad (hR : R.Ok) (s : Bs0) (at_ : Int) (t : TypeId) (v : AVal) {o o1 : AObj A} {r : AHeap A} {K : AVal → AHeap A → Prop}
    (hk : K (.str []) (o :: o1 :: fRead s at_ (.iface t v) :: r)) : Tri Pr R n_field_Reader_Text [.ptr 2 0] (o :: o1 :: fRead s at_ (.iface t v) :: r) K := by
  apply c_field_Reader_Text
  unfold p_field_Reader_Text
  simp -implicitDefEqProofs [fRead]
  exact hk
theorem rReader2_ok (hR : R.Ok) (s : Bs0) (hs : s.length < 9000000000000000000) (at_ : Int) (ha : -9000000000000000000 ≤ at_ ∧ at_ < 9000000000000000000) (bad : Bool) {o o1 : AObj A} {r : AHeap A} {K : AVal → AHeap A → Prop}
    (hk : if bad = false ∧ (gNum s at_).2.2 = 0 then K (.int .i64 (gNum s at_).1) (o :: o1 :: rRead s (gNum s at_).2.1 false :: r) else K (.int .i64 0) (o :: o1 :: rRead s at_ true :: r)) :
    Tri Pr R n_ref1_Reader_Num [.ptr 2 0] (o :: o1 :: rRead s at_ bad :: r) K := by
  apply c_ref1_Reader_Num
  unfold p_ref1_Reader_Num
  simp -implicitDefEqProofs [rRead]
  refine ref1_GetNum_ok hR s hs at_ ha ?_
  simp -implicitDefEqProofs
  cases bad with
  | true =>
    simp at hk
    simp -implicitDefEqProofs
    exact hk
  | false =>
    by_cases h : (gNum s at_).2.2 = 0
    · simp [h] at hk
      simp -implicitDefEqProofs [h]
      exact hk
    · simp [h] at hk
      have h' : ((gNum s at_).2.2 != 0) = true := by simpa using h
      simp -implicitDefEqProofs [h']
      exact hk
theorem rText2_ok (hR : R.Ok) (s : Bs0) (hs : s.length < 8000000000000000000) (at_ : Int) (ha : -8000000000000000000 ≤ at_ ∧ at_ < 8000000000000000000) (bad : Bool) {o o1 : AObj A} {r : AHeap A} {K : AVal → AHeap A → Prop}
    (hk : if bad = false ∧ (gText s at_).2.2 = 0 then K (.str (gText s at_).1) (o :: o1 :: rRead s (gText s at_).2.1 false :: r) else K (.str []) (o :: o1 :: rRead s at_ true :: r)) :
    Tri Pr R n_ref1_Reader_Text [.ptr 2 0] (o :: o1 :: rRead s at_ bad :: r) K := by
  apply c_ref1_Reader_Text
  unfold p_ref1_Reader_Text
  simp -implicitDefEqProofs [rRead]
  refine ref1_GetText_ok hR s hs at_ ha ?_
  simp -implicitDefEqProofs
  cases bad with
  | true =>
    simp at hk
    simp -implicitDefEqProofs
    exact hk
  | false =>
    by_cases h : (gText s at_).2.2 = 0
    · simp [h] at hk
      simp -implicitDefEqProofs [h]
      exact hk
    · simp [h] at hk
      have h' : ((gText s at_).2.2 != 0) = true := by simpa using h
      simp -implicitDefEqProofs [h']
      exact hk
end Go.AI

/- Records. -/
set_option linter.all false
namespace Go.AI
variable {A : Type} {R : Adts A}
theorem recRow_ix (r : Rec) (n : Nat) : ixs n r.row = true := rfl
theorem record_body_ok (hR : R.Ok) (r : Rec) {h : AHeap A} {b : Nat} (hb : h[b]? = some (.cells t_api_Record r.row)) {K : AVal → AHeap A → Prop}
    (hk : if recMay r = true then K (.tup [.str (recBody r), .bool true]) h else K (.tup [.str [], .bool false]) h) : Tri Pr R n_record_body [.ptr b 0] h K := by
  have hren : ∀ τ, (AObj.cells t_api_Record r.row : AObj A).ren R τ = .cells t_api_Record r.row := fun τ => by
    simp only [AObj.ren]; rw [rens_ix0 τ _ (recRow_ix r 0)]
  refine Tri.own hR (as2 := [.ptr 0 0]) (Q := fun v o => v = (if recMay r = true then .tup [.str (recBody r), .bool true] else .tup [.str [], .bool false]) ∧ o = .cells t_api_Record r.row) rfl (show (AObj.cells t_api_Record r.row : AObj A).ix R 1 from recRow_ix r 1) ?_ hren ?_ hb (by simp [rens, AVal.ren]) ?_
  · rintro _ _ ⟨rfl, rfl⟩; exact ⟨by split <;> rfl, hren⟩
  · obtain ⟨v0, hv0⟩ : ∃ v0 : AVal, (if recMay r = true then .tup [.str (recBody r), .bool true] else .tup [.str [], .bool false]) = v0 := ⟨_, rfl⟩
    rw [hv0]
    have fin : ∀ (rs : AHeap A), v0.ix 0 = true → Gives Pr R 1 (.cells t_api_Record r.row :: rs) [v0] fun vs h2 => ∃ v, vs = [v] ∧ ∃ o', (v = v0 ∧ o' = .cells t_api_Record r.row) ∧ h2 = [o'] := fun rs hv =>
      Gives.cut hR (m := 1) (by omega) (by simp) (by simp [ixs, ix_mono (Nat.zero_le 1) _ hv]) (by simp; exact ⟨recRow_ix r 1, fun τ _ => hren τ⟩) ⟨_, rfl, _, ⟨rfl, rfl⟩, rfl⟩
    have hvix : v0.ix 0 = true := by rw [← hv0]; split <;> rfl
    refine Tri.post ?_
    apply c_record_body
    unfold p_record_body
    have bad : recMay r = false → v0 = .tup [.str [], .bool false] := fun h => by rw [← hv0, h]; rfl
    simp -implicitDefEqProofs [Rec.row, Ev.row]
    refine event_Put_ok hR r.ev ?_
    have go : ∀ (s : Bs0) (e : Int), ((e = 0 ∧ evMay r.ev = true ∧ s = evPut r.ev) ∨ (e ≠ 0 ∧ evMay r.ev = false)) → True := fun _ _ _ => trivial
    cases hm : evMay r.ev with
    | false =>
      have hr : recMay r = false := by simp [recMay, hm]
      have hv := bad hr
      rw [if_neg (by simp)]
      simp -implicitDefEqProofs
      refine field_All_ok hR [r.seq, r.boot, r.prev] (by simp) true (t := t_int) (by simp) ?_
      split
      · simp -implicitDefEqProofs; rw [← hv]; exact fin _ hvix
      · simp -implicitDefEqProofs; rw [← hv]; exact fin _ hvix
    | true =>
      rw [if_pos rfl]
      simp -implicitDefEqProofs
      refine field_All_ok hR [r.seq, r.boot, r.prev] (by simp) true (t := t_int) (by simp) ?_
      cases ha : [r.seq, r.boot, r.prev].all nMay with
      | false =>
        have hr : recMay r = false := by
          rw [Bool.eq_false_iff]
          intro h
          obtain ⟨_, _, a1, _, a2, a3, _⟩ := recMay_all h
          simp [a1, a2, a3] at ha
        have hv := bad hr
        rw [if_neg (by simp)]
        simp -implicitDefEqProofs; rw [← hv]; exact fin _ hvix
      | true =>
        rw [if_pos rfl]
        have hl := evPut_len hm
        have c3 : ¬ (44 : Int) < (evPut r.ev).length := by omega
        by_cases c1 : r.seq < 1
        · have hr : recMay r = false := by
            rw [Bool.eq_false_iff]; intro h
            have := (recMay_all h).2.1; omega
          have hv := bad hr
          simp -implicitDefEqProofs [c1]; rw [← hv]; exact fin _ hvix
        by_cases c2 : r.boot < 1
        · have hr : recMay r = false := by
            rw [Bool.eq_false_iff]; intro h
            have := (recMay_all h).2.2.2.1; omega
          have hv := bad hr
          simp -implicitDefEqProofs [c1, c2]; rw [← hv]; exact fin _ hvix
        have hr : recMay r = true := by
          simp at ha
          simp [recMay, hm, ha]; omega
        rw [if_pos hr] at hv0
        simp -implicitDefEqProofs [c1, c2, c3]
        refine field_Text_ok hR _ (by omega) ?_
        have l1 := nAll_len [r.seq, r.boot, r.prev]
        have l2 := nS_len ((evPut r.ev).length : Int)
        simp only [List.length_cons, List.length_nil] at l1
        have g : (nAll [r.seq, r.boot, r.prev]).length + ((nS ((evPut r.ev).length : Int)).length + (evPut r.ev).length) < 9223372036854775808 := by omega
        simp -implicitDefEqProofs [g]
        have hv1 : AVal.tup [.str (nAll [r.seq, r.boot, r.prev] ++ (nS (evPut r.ev).length ++ evPut r.ev)), .bool true] = v0 := hv0
        rw [hv1]
        exact fin _ hvix
  · rintro _ _ ⟨rfl, rfl⟩
    rw [set_same hb]
    split at hk <;> rename_i h1 <;> simp [h1] <;> exact hk
section
variable {mk : Int → List Bs → A}
theorem record_Put_ok (hR : R.Ok) (hB : HasBook R mk) {m : Int} {ts : List Bs} (hok : bOk m ts) (r : Rec) {h : AHeap A} {b : Nat} (hb : h[b]? = some (.adt (mk m ts))) {K : AVal → AHeap A → Prop}
    (hk : K (.tup [.str (recPut m ts r).2.1, .int .i64 (recPut m ts r).2.2.1, .int .i64 (recPut m ts r).2.2.2]) (h.set b (.adt (mk m (recPut m ts r).1)))) : Tri Pr R n_record_Put [.ptr b 0, .agg r.row] h K := by
  refine book_own hR hB rfl rfl ?_ hb hk
  apply c_record_Put
  unfold p_record_Put
  obtain ⟨q, hq⟩ : ∃ q, recPut m ts r = q := ⟨_, rfl⟩
  rw [hq]
  unfold recPut at hq
  simp -implicitDefEqProofs [Rec.row, Ev.row]
  refine record_body_ok hR r rfl ?_
  cases hm : recMay r with
  | false =>
    rw [hm] at hq
    simp at hq; subst hq
    rw [if_neg (by simp)]
    simp -implicitDefEqProofs
  | true =>
    rw [if_pos hm] at hq
    rw [if_pos rfl]
    have hl := recBody_len hm
    have g1 : 6 + (recBody r).length < 9223372036854775808 := by omega
    simp -implicitDefEqProofs [g1]
    refine craft_Hash_ok hR hB hok _ (by simp; omega) rfl ?_
    have hc : 72 :: 114 :: 101 :: 99 :: 111 :: 114 :: 100 :: recBody r = recT r := rfl
    rw [hc]
    by_cases h5 : (cMade m ts (recT r)).2.2 = 0
    · rw [if_pos h5] at hq
      have hl2 := nS_len (cMade m ts (recT r)).2.1
      have g2 : (recBody r).length + (nS (cMade m ts (recT r)).2.1).length < 9223372036854775808 := by omega
      simp -implicitDefEqProofs [h5]
      refine field_Num_any hR _ ?_
      simp -implicitDefEqProofs [g2]
      by_cases h6 : (recBody r ++ nS (cMade m ts (recT r)).2.1).length ≤ 64
      · rw [if_pos h6] at hq; subst hq
        refine record_Fill_ok hR _ h6 ?_
        simp -implicitDefEqProofs
      · rw [if_neg h6] at hq; subst hq
        apply c_record_Fill
        unfold p_record_Fill
        have h7 : (64 : Int) < (recBody r).length + (nS (cMade m ts (recT r)).2.1).length := by simp at h6; omega
        simp -implicitDefEqProofs [h7]
    · rw [if_neg h5] at hq; subst hq
      have h6 : ((cMade m ts (recT r)).2.2 != 0) = true := by simpa using h5
      simp -implicitDefEqProofs [h6]
end
end Go.AI

/- Records are read. -/
set_option linter.all false
namespace Go.AI
variable {A : Type} {R : Adts A}
theorem reps11 : reps 11 (AVal.int IntKind.i64 0) = [.int .i64 0, .int .i64 0, .int .i64 0, .int .i64 0, .int .i64 0, .int .i64 0, .int .i64 0, .int .i64 0, .int .i64 0, .int .i64 0, .int .i64 0] := rfl
def recTup (o : Option (Rec × Int)) : AVal := match o with | some (r, n) => .tup [.agg r.row, .int .i64 n, .bool true] | none => .tup [.agg rec0.row, .int .i64 0, .bool false]
theorem recTup_ix (o : Option (Rec × Int)) : (recTup o).ix 0 = true := by
  match o with
  | some (r, n) => rfl
  | none => rfl
theorem take_two {s x y : Bs0} {t u : Int} (h0 : 0 ≤ t) (h1 : t ≤ u) (hx : s.take t.toNat = x) (hy : (s.drop t.toNat).take (u - t).toNat = y) : s.take u.toNat = x ++ y := by
  rw [← hx, ← hy, ← List.take_add]
  congr 1; omega
section
variable {mk : Int → List Bs → A}
theorem record_read_ok (hR : R.Ok) (hB : HasBook R mk) {m : Int} {ts : List Bs} (s : Bs) (hs : s.length < 7000000000000000000) {h : AHeap A} {b : Nat} (hb : h[b]? = some (.adt (mk m ts))) {K : AVal → AHeap A → Prop}
    (hk : K (recTup (recRead ts s)) h) : Tri Pr R n_record_read [.ptr b 0, .str s] h K := by
  refine book_own hR hB (ts' := ts) rfl (recTup_ix _) ?_ hb (by rw [set_same hb]; exact hk)
  apply c_record_read
  unfold p_record_read
  rw [reps11]
  obtain ⟨o, ho⟩ : ∃ o, recRead ts s = o := ⟨_, rfl⟩
  rw [ho]
  unfold recRead at ho
  simp -implicitDefEqProofs
  have hf : (.cells t_field_Reader [.str s, .int .i64 0, .nili] : AObj A) = fRead s 0 .nili := rfl
  rw [hf]
  have hnil : evGet [] = none := rfl
  obtain ⟨q, t1, e1, hg1⟩ : ∃ x t e, gNum s 0 = (x, t, e) := ⟨_, _, _, rfl⟩
  obtain ⟨bo, t2, e2, hg2⟩ : ∃ x t e, gNum s t1 = (x, t, e) := ⟨_, _, _, rfl⟩
  obtain ⟨p, t3, e3, hg3⟩ : ∃ x t e, gNum s t2 = (x, t, e) := ⟨_, _, _, rfl⟩
  refine fReader2_ok hR s (by omega) 0 (by omega) ?_
  rw [hg1]
  dsimp only
  rcases (by omega : e1 ≠ 0 ∨ e1 = 0) with c1 | c1
  · rw [if_neg c1]
    have : o = none := by rw [← ho]; simp [rNums, hg1, c1]
    subst this
    intro p1 r1
    simp -implicitDefEqProofs
    refine fReader2_bad hR s 0 _ _ ?_
    simp -implicitDefEqProofs
    refine fReader2_bad hR s 0 _ _ ?_
    simp -implicitDefEqProofs
    refine fText2_bad hR s 0 _ _ ?_
    refine event_Get_ok hR [] (by decide) ?_
    rw [hnil]
    simp -implicitDefEqProofs [evTup, Ev.row, ev0]
    refine fReader2_bad hR s 0 _ _ ?_
    simp -implicitDefEqProofs [recTup, rec0, Rec.row, Ev.row, ev0]
  subst c1
  have q1 := gNum_enc hg1
  rw [if_pos rfl]
  refine fReader2_ok hR s (by omega) t1 (by omega) ?_
  rw [hg2]
  dsimp only
  rcases (by omega : e2 ≠ 0 ∨ e2 = 0) with c2 | c2
  · rw [if_neg c2]
    have : o = none := by rw [← ho]; simp [rNums, hg1, hg2, c2]
    subst this
    intro p1 r1
    simp -implicitDefEqProofs
    refine fReader2_bad hR s 0 _ _ ?_
    simp -implicitDefEqProofs
    refine fText2_bad hR s 0 _ _ ?_
    refine event_Get_ok hR [] (by decide) ?_
    rw [hnil]
    simp -implicitDefEqProofs [evTup, Ev.row, ev0]
    refine fReader2_bad hR s 0 _ _ ?_
    simp -implicitDefEqProofs [recTup, rec0, Rec.row, Ev.row, ev0]
  subst c2
  have q2 := gNum_enc hg2
  rw [if_pos rfl]
  refine fReader2_ok hR s (by omega) t2 (by omega) ?_
  rw [hg3]
  dsimp only
  rcases (by omega : e3 ≠ 0 ∨ e3 = 0) with c3 | c3
  · rw [if_neg c3]
    have : o = none := by rw [← ho]; simp [rNums, hg1, hg2, hg3, c3]
    subst this
    intro p1 r1
    simp -implicitDefEqProofs
    refine fText2_bad hR s 0 _ _ ?_
    refine event_Get_ok hR [] (by decide) ?_
    rw [hnil]
    simp -implicitDefEqProofs [evTup, Ev.row, ev0]
    refine fReader2_bad hR s 0 _ _ ?_
    simp -implicitDefEqProofs [recTup, rec0, Rec.row, Ev.row, ev0]
  subst c3
  have q3 := gNum_enc hg3
  rw [if_pos rfl]
  have hn3 : rNums s 3 0 = some ([q, bo, p], t3) := by simp [rNums, hg1, hg2, hg3]
  rw [hn3] at ho
  dsimp only at ho
  simp -implicitDefEqProofs
  refine fText2_ok hR s (by omega) t3 (by omega) ?_
  obtain ⟨x, u, e4, hx⟩ : ∃ x t e, gText s t3 = (x, t, e) := ⟨_, _, _, rfl⟩
  rw [hx] at ho ⊢
  dsimp only at ho ⊢
  rcases (by omega : e4 ≠ 0 ∨ e4 = 0) with c4 | c4
  · rw [if_neg c4]
    rw [if_pos c4] at ho
    subst ho
    refine ⟨fun f => ?_, fun f g => ?_⟩
    · simp -implicitDefEqProofs
      refine event_Get_ok hR [] (by decide) ?_
      rw [hnil]
      simp -implicitDefEqProofs [evTup, Ev.row, ev0]
      refine fReader2_bad hR s 0 _ _ ?_
      simp -implicitDefEqProofs [recTup, rec0, Rec.row, Ev.row, ev0]
    · simp -implicitDefEqProofs
      refine event_Get_ok hR [] (by decide) ?_
      rw [hnil]
      simp -implicitDefEqProofs [evTup, Ev.row, ev0]
      refine fReader2_bad hR s 0 _ _ ?_
      simp -implicitDefEqProofs [recTup, rec0, Rec.row, Ev.row, ev0]
  subst c4
  have q4 := gText_enc hx
  rw [if_pos rfl]
  rw [if_neg (show ¬ (0 : Int) ≠ 0 by simp)] at ho
  have hxl : x.length < 8000000000000000000 := by have := q4.1; simp [nMay] at this; omega
  refine event_Get_ok hR x hxl ?_
  cases hev : evGet x with
  | none =>
    rw [hev] at ho
    dsimp only at ho
    subst ho
    simp -implicitDefEqProofs [evTup, Ev.row, ev0]
    refine fReader2_ok hR s (by omega) u (by omega) ?_
    split
    · simp -implicitDefEqProofs [recTup, rec0, Rec.row, Ev.row, ev0]
    · intro p1 r1
      simp -implicitDefEqProofs [recTup, rec0, Rec.row, Ev.row, ev0]
  | some e =>
    rw [hev] at ho
    dsimp only at ho
    obtain ⟨q5, q6⟩ := evGet_enc hev
    obtain ⟨n, v, e5, hn⟩ : ∃ x t e, gNum s u = (x, t, e) := ⟨_, _, _, rfl⟩
    rw [hn] at ho
    dsimp only at ho
    simp -implicitDefEqProofs [evTup, Ev.row]
    refine fReader2_ok hR s (by omega) u (by omega) ?_
    rw [hn]
    dsimp only
    rcases (by omega : e5 ≠ 0 ∨ e5 = 0) with c5 | c5
    · rw [if_neg c5]
      rw [if_pos c5] at ho
      subst ho
      intro p1 r1
      simp -implicitDefEqProofs [recTup, rec0, Rec.row, Ev.row, ev0]
    subst c5
    have q7 := gNum_enc hn
    rw [if_pos rfl]
    rw [if_neg (show ¬ (0 : Int) ≠ 0 by simp)] at ho
    rcases (by omega : s.length ≠ 64 ∨ s.length = 64) with c6 | c6
    · rw [if_pos (.inl c6)] at ho
      subst ho
      have c6' : ((s.length : Int) != 64) = true := by simp; omega
      simp -implicitDefEqProofs [c6', recTup, rec0, Rec.row, Ev.row, ev0]
    simp -implicitDefEqProofs [c6]
    refine record_body_ok hR ⟨q, bo, p, e⟩ rfl ?_
    cases hm : recMay ⟨q, bo, p, e⟩ with
    | false =>
      rw [if_pos (.inr (.inl hm))] at ho
      subst ho
      rw [if_neg (by simp)]
      simp -implicitDefEqProofs
      refine joinP_go ?_
      simp -implicitDefEqProofs [recTup, rec0, Rec.row, Ev.row, ev0]
    | true =>
      rw [if_pos rfl]
      simp -implicitDefEqProofs
      refine joinP_go ?_
      have hbl := recBody_len hm
      have w0 : s.take t3.toNat = nAll [q, bo, p] := by
        have := (rNums_enc hn3 (by omega)).2.2.2.1
        simpa using this
      have hown : s.take u.toNat = recBody ⟨q, bo, p, e⟩ := by
        rw [take_two (by omega) (by omega) w0 q4.2.2.2.2, q5]
        rfl
      have f1 : 0 ≤ u := by omega
      have f2 : u ≤ 64 := by omega
      have g1 : 6 + (recBody ⟨q, bo, p, e⟩).length < 9223372036854775808 := by omega
      have hc : 72 :: 114 :: 101 :: 99 :: 111 :: 114 :: 100 :: recBody ⟨q, bo, p, e⟩ = recT ⟨q, bo, p, e⟩ := rfl
      simp -implicitDefEqProofs [f1, f2, c6, hown, g1]
      refine craft_IsHash_ok hR hB _ (by simp; omega) n rfl ?_
      rw [hc]
      cases c7 : cIs ts (recT ⟨q, bo, p, e⟩) n with
      | false =>
        rw [if_pos (.inr (.inr (.inl c7)))] at ho
        subst ho
        simp -implicitDefEqProofs [recTup, rec0, Rec.row, Ev.row, ev0]
      | true =>
        have f3 : 0 ≤ v := by omega
        have f4 : v ≤ 64 := by omega
        have e6 := w64 (n := 64 - v) (by omega)
        obtain ⟨z, hz⟩ : ∃ n : Nat, (64 - v).toNat = n := ⟨_, rfl⟩
        have hz2 : 64 - v.toNat = z := by omega
        rw [hz2] at ho
        have f5 : 64 - v ≤ 140737488355328 := by omega
        simp -implicitDefEqProofs [c6, f3, f4, e6, mkslP, f5, hz]
        refine z_readn (by rfl) (zCells_eq z).symm ?_
        by_cases c8 : s.drop v.toNat = List.replicate z 0
        · rw [if_neg (by rintro (h | h | h | h); exact h c6; rw [hm] at h; simp at h; rw [c7] at h; simp at h; exact h c8)] at ho
          subst ho
          simp -implicitDefEqProofs [c8, recTup, Rec.row, Ev.row]
        · rw [if_pos (.inr (.inr (.inr c8)))] at ho
          subst ho
          have c8' : (s.drop v.toNat != List.replicate z 0) = true := by simpa using c8
          simp -implicitDefEqProofs [c8', recTup, rec0, Rec.row, Ev.row, ev0]
def recGTup (x : Rec × Int × Int) : AVal := .tup [.agg x.1.row, .int .i64 x.2.1, .int .i64 x.2.2]
theorem record_Get_ok (hR : R.Ok) (hB : HasBook R mk) {m : Int} {ts : List Bs} (s : Bs) (hs : s.length < 7000000000000000000) (seq prev : Int) {h : AHeap A} {b : Nat} (hb : h[b]? = some (.adt (mk m ts))) {K : AVal → AHeap A → Prop}
    (hk : K (recGTup (recGet ts s seq prev)) h) : Tri Pr R n_record_Get [.ptr b 0, .str s, .int .i64 seq, .int .i64 prev] h K := by
  refine book_own hR hB (ts' := ts) rfl rfl ?_ hb (by rw [set_same hb]; exact hk)
  apply c_record_Get
  unfold p_record_Get
  rw [reps11]
  obtain ⟨o, ho⟩ : ∃ o, recGet ts s seq prev = o := ⟨_, rfl⟩
  rw [ho]
  unfold recGet at ho
  simp -implicitDefEqProofs
  refine record_read_ok hR hB s hs rfl ?_
  cases hr : recRead ts s with
  | none =>
    rw [hr] at ho
    dsimp only at ho
    subst ho
    simp -implicitDefEqProofs [recTup, rec0, Rec.row, Ev.row, ev0, recGTup]
  | some x =>
    obtain ⟨r, n⟩ := x
    rw [hr] at ho
    dsimp only at ho
    by_cases c1 : r.seq = seq
    · by_cases c2 : r.prev = prev
      · rw [if_neg (by simp [c1, c2])] at ho
        subst ho
        have c1' : (r.seq != seq) = false := by simp [c1]
        have c2' : (r.prev != prev) = false := by simp [c2]
        simp -implicitDefEqProofs [recTup, Rec.row, Ev.row, recGTup, c1', c2']
      · rw [if_pos (.inr c2)] at ho
        subst ho
        have c1' : (r.seq != seq) = false := by simp [c1]
        have c2' : (r.prev != prev) = true := by simpa using c2
        simp -implicitDefEqProofs [recTup, rec0, Rec.row, Ev.row, ev0, recGTup, c1', c2']
    · rw [if_pos (.inl c1)] at ho
      subst ho
      have c1' : (r.seq != seq) = true := by simpa using c1
      simp -implicitDefEqProofs [recTup, rec0, Rec.row, Ev.row, ev0, recGTup, c1']
end
end Go.AI

/- The document's records. -/
set_option linter.all false
namespace Go.AI
variable {A : Type} {R : Adts A}
section
variable {mk : Int → List Bs → A}
theorem ref1_PutRecord_ok (hR : R.Ok) (hB : HasRBook R mk) {m : Int} {ts : List Bs} (hok : bOk m ts) (r : Rec) {h : AHeap A} {b : Nat} (hb : h[b]? = some (.adt (mk m ts))) {K : AVal → AHeap A → Prop}
    (hk : K (.tup [.str (recPut m ts r).2.1, .int .i64 (recPut m ts r).2.2.1, .int .i64 (recPut m ts r).2.2.2]) (h.set b (.adt (mk m (recPut m ts r).1)))) : Tri Pr R n_ref1_PutRecord [.ptr b 0, .agg r.row] h K := by
  refine rbook_own hR hB rfl rfl ?_ hb hk
  apply c_ref1_PutRecord
  unfold p_ref1_PutRecord
  obtain ⟨q, hq⟩ : ∃ q, recPut m ts r = q := ⟨_, rfl⟩
  rw [hq]
  unfold recPut at hq
  simp -implicitDefEqProofs [Rec.row, Ev.row]
  refine ref1_PutEvent_ok hR r.ev ?_
  by_cases c1 : r.seq < 1
  · have hm : recMay r = false := by
      cases e : recMay r with
      | false => rfl
      | true => have := (recMay_all e).2.1; omega
    rw [hm] at hq; simp at hq; subst hq
    split <;> simp -implicitDefEqProofs [c1]
  cases c2 : nMay r.seq with
  | false =>
    have hm : recMay r = false := by simp [recMay, c2]
    rw [hm] at hq; simp at hq; subst hq
    split
    · simp -implicitDefEqProofs [c1]
      refine ref1_num_ok _ ?_
      simp -implicitDefEqProofs [c2]
    · simp -implicitDefEqProofs [c1]
      refine ref1_num_ok _ ?_
      simp -implicitDefEqProofs [c2]
  | true =>
  by_cases c3 : r.boot < 1
  · have hm : recMay r = false := by
      cases e : recMay r with
      | false => rfl
      | true => have := (recMay_all e).2.2.2.1; omega
    rw [hm] at hq; simp at hq; subst hq
    split
    · simp -implicitDefEqProofs [c1]
      refine ref1_num_ok _ ?_
      simp -implicitDefEqProofs [c2, c3]
    · simp -implicitDefEqProofs [c1]
      refine ref1_num_ok _ ?_
      simp -implicitDefEqProofs [c2, c3]
  cases c4 : nMay r.boot with
  | false =>
    have hm : recMay r = false := by simp [recMay, c4]
    rw [hm] at hq; simp at hq; subst hq
    split
    · simp -implicitDefEqProofs [c1]
      refine ref1_num_ok _ ?_
      simp -implicitDefEqProofs [c2, c3]
      refine ref1_num_ok _ ?_
      simp -implicitDefEqProofs [c4]
    · simp -implicitDefEqProofs [c1]
      refine ref1_num_ok _ ?_
      simp -implicitDefEqProofs [c2, c3]
      refine ref1_num_ok _ ?_
      simp -implicitDefEqProofs [c4]
  | true =>
  cases c5 : nMay r.prev with
  | false =>
    have hm : recMay r = false := by simp [recMay, c5]
    rw [hm] at hq; simp at hq; subst hq
    split
    · simp -implicitDefEqProofs [c1]
      refine ref1_num_ok _ ?_
      simp -implicitDefEqProofs [c2, c3]
      refine ref1_num_ok _ ?_
      simp -implicitDefEqProofs [c4]
      refine ref1_num_ok _ ?_
      simp -implicitDefEqProofs [c5]
    · simp -implicitDefEqProofs [c1]
      refine ref1_num_ok _ ?_
      simp -implicitDefEqProofs [c2, c3]
      refine ref1_num_ok _ ?_
      simp -implicitDefEqProofs [c4]
      refine ref1_num_ok _ ?_
      simp -implicitDefEqProofs [c5]
  | true =>
  cases c6 : evMay r.ev with
  | false =>
    have hm : recMay r = false := by simp [recMay, c6]
    rw [hm] at hq; simp at hq; subst hq
    rw [if_neg (by simp)]
    simp -implicitDefEqProofs [c1]
    refine ref1_num_ok _ ?_
    simp -implicitDefEqProofs [c2, c3]
    refine ref1_num_ok _ ?_
    simp -implicitDefEqProofs [c4]
    refine ref1_num_ok _ ?_
    simp -implicitDefEqProofs [c5]
  | true =>
  rw [if_pos rfl]
  have hl25 := evPut_len c6
  have hm : recMay r = true := by simp [recMay, c2, c4, c5, c6]; omega
  rw [if_pos hm] at hq
  have c7 : ¬ (44 : Int) < (evPut r.ev).length := by omega
  simp -implicitDefEqProofs [c1]
  refine ref1_num_ok _ ?_
  simp -implicitDefEqProofs [c2, c3]
  refine ref1_num_ok _ ?_
  simp -implicitDefEqProofs [c4]
  refine ref1_num_ok _ ?_
  simp -implicitDefEqProofs [c5, c7]
  refine ref1_Text_ok hR _ (by omega) ?_
  simp -implicitDefEqProofs
  refine ref1_Nums_ok hR [r.seq, r.boot, r.prev] (by simp) true (t := t_int) (by simp) ?_
  have hl := recBody_len hm
  have hbd : nAll [r.seq, r.boot, r.prev] ++ (nS (evPut r.ev).length ++ evPut r.ev) = recBody r := rfl
  have hbl : (nAll [r.seq, r.boot, r.prev]).length + ((nS (evPut r.ev).length).length + (evPut r.ev).length) = (recBody r).length := by rw [← hbd]; simp
  have g1 : 6 + (recBody r).length < 9223372036854775808 := by omega
  have g2 : (nAll [r.seq, r.boot, r.prev]).length + ((nS (evPut r.ev).length).length + (evPut r.ev).length) < 9223372036854775808 := by omega
  simp -implicitDefEqProofs [g2, hbd, g1]
  refine ref1_Hash_ok hR hB hok _ (by simp; omega) rfl ?_
  have hc : 72 :: 114 :: 101 :: 99 :: 111 :: 114 :: 100 :: recBody r = recT r := rfl
  rw [hc]
  by_cases h5 : (cMade m ts (recT r)).2.2 = 0
  · rw [if_pos h5] at hq
    have hl2 := nS_len (cMade m ts (recT r)).2.1
    have g3 : (recBody r).length + (nS (cMade m ts (recT r)).2.1).length < 9223372036854775808 := by omega
    simp -implicitDefEqProofs [h5]
    refine ref1_Nums_ok hR [(cMade m ts (recT r)).2.1] (by simp) true (t := t_int) (by simp) ?_
    rw [nAll_one]
    by_cases h6 : (recBody r ++ nS (cMade m ts (recT r)).2.1).length ≤ 64
    · rw [if_pos h6] at hq; subst hq
      have h7 : ¬ (64 : Int) < (recBody r).length + (nS (cMade m ts (recT r)).2.1).length := by simp at h6; omega
      simp -implicitDefEqProofs [g3, h7]
      refine ref1_sector_ok hR _ h6 ?_
      simp -implicitDefEqProofs
    · rw [if_neg h6] at hq; subst hq
      have h7 : (64 : Int) < (recBody r).length + (nS (cMade m ts (recT r)).2.1).length := by simp at h6; omega
      simp -implicitDefEqProofs [g3, h7]
  · rw [if_neg h5] at hq; subst hq
    have h6 : ((cMade m ts (recT r)).2.2 != 0) = true := by simpa using h5
    simp -implicitDefEqProofs [h6]
theorem ref1_GetRecord_ok (hR : R.Ok) (hB : HasRBook R mk) {m : Int} {ts : List Bs} (hok : bOk m ts) (s : Bs) (hs : s.length < 7000000000000000000) (seq prev : Int) {h : AHeap A} {b : Nat} (hb : h[b]? = some (.adt (mk m ts))) {K : AVal → AHeap A → Prop}
    (hk : K (recGTup (recGet ts s seq prev)) h) : Tri Pr R n_ref1_GetRecord [.ptr b 0, .str s, .int .i64 seq, .int .i64 prev] h K := by
  refine rbook_own hR hB (ts' := ts) rfl rfl ?_ hb (by rw [set_same hb]; exact hk)
  apply c_ref1_GetRecord
  unfold p_ref1_GetRecord
  rw [reps11]
  obtain ⟨o, ho⟩ : ∃ o, recRead ts s = o := ⟨_, rfl⟩
  unfold recGet
  rw [ho]
  unfold recRead at ho
  simp -implicitDefEqProofs
  have hf : (.cells t_bastionref1_Reader [.str s, .int .i64 0, .bool false] : AObj A) = rRead s 0 false := rfl
  rw [hf]
  have hnil : evGet [] = none := rfl
  obtain ⟨q, t1, e1, hg1⟩ : ∃ x t e, gNum s 0 = (x, t, e) := ⟨_, _, _, rfl⟩
  obtain ⟨bo, t2, e2, hg2⟩ : ∃ x t e, gNum s t1 = (x, t, e) := ⟨_, _, _, rfl⟩
  obtain ⟨p, t3, e3, hg3⟩ : ∃ x t e, gNum s t2 = (x, t, e) := ⟨_, _, _, rfl⟩
  refine rReader2_ok hR s (by omega) 0 (by omega) false ?_
  rw [hg1]
  dsimp only
  rcases (by omega : e1 ≠ 0 ∨ e1 = 0) with c1 | c1
  · rw [if_neg (by simp [c1])]
    have : o = none := by rw [← ho]; simp [rNums, hg1, c1]
    subst this
    simp -implicitDefEqProofs
    refine rReader2_ok hR s (by omega) _ (by omega) true ?_
    rw [if_neg (by simp)]
    simp -implicitDefEqProofs
    refine rReader2_ok hR s (by omega) _ (by omega) true ?_
    rw [if_neg (by simp)]
    simp -implicitDefEqProofs
    refine rText2_ok hR s (by omega) _ (by omega) true ?_
    rw [if_neg (by simp)]
    simp -implicitDefEqProofs [rRead]
    change Tri _ _ _ _ (_ :: _ :: rRead s 0 true :: _) _
    refine rReader2_ok hR s (by omega) _ (by omega) true ?_
    rw [if_neg (by simp)]
    refine ref1_GetEvent_ok hR [] (by decide) ?_
    rw [hnil]
    unfold rRead
    simp -implicitDefEqProofs [evTup, Ev.row, ev0]
    refine joinP_go ?_
    rcases (by omega : s.length ≠ 64 ∨ s.length = 64) with c6 | c6
    · have c6' : ((s.length : Int) != 64) = true := by simp; omega
      simp -implicitDefEqProofs [c6', Rec.row, Ev.row, rec0, ev0, recGTup]
    · simp -implicitDefEqProofs [c6, Rec.row, Ev.row, rec0, ev0, recGTup]
  subst c1
  have q1 := gNum_enc hg1
  rw [if_pos ⟨rfl, rfl⟩]
  simp -implicitDefEqProofs
  refine rReader2_ok hR s (by omega) t1 (by omega) false ?_
  rw [hg2]
  dsimp only
  rcases (by omega : e2 ≠ 0 ∨ e2 = 0) with c2 | c2
  · rw [if_neg (by simp [c2])]
    have : o = none := by rw [← ho]; simp [rNums, hg1, hg2, c2]
    subst this
    simp -implicitDefEqProofs
    refine rReader2_ok hR s (by omega) t1 (by omega) true ?_
    rw [if_neg (by simp)]
    simp -implicitDefEqProofs
    refine rText2_ok hR s (by omega) t1 (by omega) true ?_
    rw [if_neg (by simp)]
    simp -implicitDefEqProofs [rRead]
    change Tri _ _ _ _ (_ :: _ :: rRead s t1 true :: _) _
    refine rReader2_ok hR s (by omega) t1 (by omega) true ?_
    rw [if_neg (by simp)]
    refine ref1_GetEvent_ok hR [] (by decide) ?_
    rw [hnil]
    unfold rRead
    simp -implicitDefEqProofs [evTup, Ev.row, ev0]
    refine joinP_go ?_
    rcases (by omega : s.length ≠ 64 ∨ s.length = 64) with c6 | c6
    · have c6' : ((s.length : Int) != 64) = true := by simp; omega
      simp -implicitDefEqProofs [c6', Rec.row, Ev.row, rec0, ev0, recGTup]
    · simp -implicitDefEqProofs [c6, Rec.row, Ev.row, rec0, ev0, recGTup]
  subst c2
  have q2 := gNum_enc hg2
  rw [if_pos ⟨rfl, rfl⟩]
  simp -implicitDefEqProofs
  refine rReader2_ok hR s (by omega) t2 (by omega) false ?_
  rw [hg3]
  dsimp only
  rcases (by omega : e3 ≠ 0 ∨ e3 = 0) with c3 | c3
  · rw [if_neg (by simp [c3])]
    have : o = none := by rw [← ho]; simp [rNums, hg1, hg2, hg3, c3]
    subst this
    simp -implicitDefEqProofs
    refine rText2_ok hR s (by omega) t2 (by omega) true ?_
    rw [if_neg (by simp)]
    simp -implicitDefEqProofs [rRead]
    change Tri _ _ _ _ (_ :: _ :: rRead s t2 true :: _) _
    refine rReader2_ok hR s (by omega) t2 (by omega) true ?_
    rw [if_neg (by simp)]
    refine ref1_GetEvent_ok hR [] (by decide) ?_
    rw [hnil]
    unfold rRead
    simp -implicitDefEqProofs [evTup, Ev.row, ev0]
    refine joinP_go ?_
    rcases (by omega : s.length ≠ 64 ∨ s.length = 64) with c6 | c6
    · have c6' : ((s.length : Int) != 64) = true := by simp; omega
      simp -implicitDefEqProofs [c6', Rec.row, Ev.row, rec0, ev0, recGTup]
    · simp -implicitDefEqProofs [c6, Rec.row, Ev.row, rec0, ev0, recGTup]
  subst c3
  have q3 := gNum_enc hg3
  rw [if_pos ⟨rfl, rfl⟩]
  have hn3 : rNums s 3 0 = some ([q, bo, p], t3) := by simp [rNums, hg1, hg2, hg3]
  rw [hn3] at ho
  dsimp only at ho
  simp -implicitDefEqProofs
  refine rText2_ok hR s (by omega) t3 (by omega) false ?_
  obtain ⟨x, u, e4, hx⟩ : ∃ x t e, gText s t3 = (x, t, e) := ⟨_, _, _, rfl⟩
  rw [hx] at ho ⊢
  dsimp only at ho ⊢
  rcases (by omega : e4 ≠ 0 ∨ e4 = 0) with c4 | c4
  · rw [if_neg (by simp [c4])]
    rw [if_pos c4] at ho
    subst ho
    simp -implicitDefEqProofs [rRead]
    change Tri _ _ _ _ (_ :: _ :: rRead s t3 true :: _) _
    refine rReader2_ok hR s (by omega) t3 (by omega) true ?_
    rw [if_neg (by simp)]
    refine ref1_GetEvent_ok hR [] (by decide) ?_
    rw [hnil]
    unfold rRead
    simp -implicitDefEqProofs [evTup, Ev.row, ev0]
    refine joinP_go ?_
    rcases (by omega : s.length ≠ 64 ∨ s.length = 64) with c6 | c6
    · have c6' : ((s.length : Int) != 64) = true := by simp; omega
      simp -implicitDefEqProofs [c6', Rec.row, Ev.row, rec0, ev0, recGTup]
    · simp -implicitDefEqProofs [c6, Rec.row, Ev.row, rec0, ev0, recGTup]
  subst c4
  have q4 := gText_enc hx
  rw [if_pos ⟨rfl, rfl⟩]
  rw [if_neg (show ¬ (0 : Int) ≠ 0 by simp)] at ho
  have hxl : x.length < 8000000000000000000 := by have := q4.1; simp [nMay] at this; omega
  simp -implicitDefEqProofs [rRead]
  change Tri _ _ _ _ (_ :: _ :: rRead s u false :: _) _
  refine rReader2_ok hR s (by omega) u (by omega) false ?_
  obtain ⟨n, v, e5, hn⟩ : ∃ x t e, gNum s u = (x, t, e) := ⟨_, _, _, rfl⟩
  rw [hn] at ho ⊢
  dsimp only at ho ⊢
  rcases (by omega : e5 ≠ 0 ∨ e5 = 0) with c5 | c5
  · rw [if_neg (by simp [c5])]
    have : o = none := by
      rw [← ho]
      cases evGet x with
      | none => rfl
      | some e => simp [c5]
    subst this
    refine ref1_GetEvent_ok hR x hxl ?_
    unfold rRead
    cases evGet x with
    | none =>
      simp -implicitDefEqProofs [evTup, Ev.row, ev0]
      refine joinP_go ?_
      rcases (by omega : s.length ≠ 64 ∨ s.length = 64) with c6 | c6
      · have c6' : ((s.length : Int) != 64) = true := by simp; omega
        simp -implicitDefEqProofs [c6', Rec.row, Ev.row, rec0, ev0, recGTup]
      · simp -implicitDefEqProofs [c6, Rec.row, Ev.row, rec0, ev0, recGTup]
    | some e =>
      simp -implicitDefEqProofs [evTup, Ev.row, ev0]
      refine joinP_go ?_
      rcases (by omega : s.length ≠ 64 ∨ s.length = 64) with c6 | c6
      · have c6' : ((s.length : Int) != 64) = true := by simp; omega
        simp -implicitDefEqProofs [c6', Rec.row, Ev.row, rec0, ev0, recGTup]
      · simp -implicitDefEqProofs [c6, Rec.row, Ev.row, rec0, ev0, recGTup]
  subst c5
  have q7 := gNum_enc hn
  rw [if_pos ⟨rfl, rfl⟩]
  refine ref1_GetEvent_ok hR x hxl ?_
  unfold rRead
  cases hev : evGet x with
  | none =>
    rw [hev] at ho
    dsimp only at ho
    subst ho
    simp -implicitDefEqProofs [evTup, Ev.row, ev0]
    refine joinP_go ?_
    rcases (by omega : s.length ≠ 64 ∨ s.length = 64) with c6 | c6
    · have c6' : ((s.length : Int) != 64) = true := by simp; omega
      simp -implicitDefEqProofs [c6', Rec.row, Ev.row, rec0, ev0, recGTup]
    · simp -implicitDefEqProofs [c6, Rec.row, Ev.row, rec0, ev0, recGTup]
  | some e =>
    rw [hev] at ho
    dsimp only at ho
    obtain ⟨q5, q6⟩ := evGet_enc hev
    rw [if_neg (show ¬ (0 : Int) ≠ 0 by simp)] at ho
    simp -implicitDefEqProofs [evTup, Ev.row]
    refine joinP_go ?_
    rcases (by omega : s.length ≠ 64 ∨ s.length = 64) with c6 | c6
    · rw [if_pos (.inl c6)] at ho
      subst ho
      have c6' : ((s.length : Int) != 64) = true := by simp; omega
      simp -implicitDefEqProofs [c6', recGTup, rec0, Rec.row, Ev.row, ev0]
    simp -implicitDefEqProofs [c6]
    by_cases d1 : (44 : Int) < x.length
    · have hm : recMay ⟨q, bo, p, e⟩ = false := by
        cases h : recMay ⟨q, bo, p, e⟩ with
        | false => rfl
        | true => have := (recMay_all h).2.2.2.2.2.2; rw [← q5] at this; omega
      rw [if_pos (.inr (.inl hm))] at ho
      subst ho
      simp -implicitDefEqProofs [d1, recGTup, rec0, Rec.row, Ev.row, ev0]
    by_cases d2 : q < 1
    · have hm : recMay ⟨q, bo, p, e⟩ = false := by
        cases h : recMay ⟨q, bo, p, e⟩ with
        | false => rfl
        | true => have := (recMay_all h).2.1; simp only at this; omega
      rw [if_pos (.inr (.inl hm))] at ho
      subst ho
      simp -implicitDefEqProofs [d1, d2, recGTup, rec0, Rec.row, Ev.row, ev0]
    by_cases d3 : bo < 1
    · have hm : recMay ⟨q, bo, p, e⟩ = false := by
        cases h : recMay ⟨q, bo, p, e⟩ with
        | false => rfl
        | true => have := (recMay_all h).2.2.2.1; simp only at this; omega
      rw [if_pos (.inr (.inl hm))] at ho
      subst ho
      simp -implicitDefEqProofs [d1, d2, d3, recGTup, rec0, Rec.row, Ev.row, ev0]
    have hm : recMay ⟨q, bo, p, e⟩ = true := by
      simp only [recMay, q6, q1.1, q2.1, q3.1, Bool.true_and, Bool.and_true, Bool.and_eq_true, decide_eq_true_eq, ← q5]
      refine ⟨⟨?_, ?_⟩, ?_⟩ <;> omega
    have hbl := recBody_len hm
    have w0 : s.take t3.toNat = nAll [q, bo, p] := by
      have := (rNums_enc hn3 (by omega)).2.2.2.1
      simpa using this
    have hown : s.take u.toNat = recBody ⟨q, bo, p, e⟩ := by
      rw [take_two (by omega) (by omega) w0 q4.2.2.2.2, q5]
      rfl
    have f1 : 0 ≤ u := by omega
    have f2 : u ≤ 64 := by omega
    have g1 : 6 + (recBody ⟨q, bo, p, e⟩).length < 9223372036854775808 := by omega
    have hc : 72 :: 114 :: 101 :: 99 :: 111 :: 114 :: 100 :: recBody ⟨q, bo, p, e⟩ = recT ⟨q, bo, p, e⟩ := rfl
    have f3 : 0 ≤ v := by omega
    have f4 : v ≤ 64 := by omega
    have e6 := w64 (n := 64 - v) (by omega)
    obtain ⟨z, hz⟩ : ∃ n : Nat, (64 - v).toNat = n := ⟨_, rfl⟩
    have hz2 : 64 - v.toNat = z := by omega
    rw [hz2] at ho
    have f5 : 64 - v ≤ 140737488355328 := by omega
    simp -implicitDefEqProofs [d1, d2, d3, c6, f3, f4, e6, mkslP, f5, hz]
    refine z_readn (by rfl) (zCells_eq z).symm ?_
    by_cases c8 : s.drop v.toNat = List.replicate z 0
    · simp -implicitDefEqProofs [c8, f1, f2, c6, hown, g1]
      refine ref1_IsHash_ok hR hB hok _ (by simp; omega) n rfl ?_
      rw [hc]
      cases c7 : cIs ts (recT ⟨q, bo, p, e⟩) n with
      | false =>
        rw [if_pos (.inr (.inr (.inl c7)))] at ho
        subst ho
        simp -implicitDefEqProofs [recGTup, rec0, Rec.row, Ev.row, ev0]
      | true =>
        rw [if_neg (by rintro (h | h | h | h); exact h c6; rw [hm] at h; simp at h; rw [c7] at h; simp at h; exact h c8)] at ho
        subst ho
        by_cases k1 : q = seq
        · subst k1
          by_cases k2 : p = prev
          · subst k2
            simp -implicitDefEqProofs [recGTup, Rec.row, Ev.row]
          · have k2' : (p != prev) = true := by simpa using k2
            simp -implicitDefEqProofs [k2', k2, recGTup, rec0, Rec.row, Ev.row, ev0]
        · have k1' : (q != seq) = true := by simpa using k1
          simp -implicitDefEqProofs [k1', k1, recGTup, rec0, Rec.row, Ev.row, ev0]
    · rw [if_pos (.inr (.inr (.inr c8)))] at ho
      subst ho
      have c8' : (s.drop v.toNat != List.replicate z 0) = true := by simpa using c8
      simp -implicitDefEqProofs [c8', recGTup, rec0, Rec.row, Ev.row, ev0]
end
end Go.AI

/- Records: the statements. -/
set_option linter.all false
namespace Go.AI
variable {A : Type} {R : Adts A}
section
variable {mk : Int → List Bs → A}
theorem RPut_at (hR : R.Ok) (hB : HasBook R mk) {m : Int} {ts q : List Bs} {r : Rec} {s : Bs} {n e : Int} (hok : bOk m ts) (he : recPut m ts r = (q, s, n, e)) {h : AHeap A} {b : Nat} (hb : h[b]? = some (.adt (mk m ts))) {K : AVal → AHeap A → Prop}
    (hk : K (.tup [.str s, .int .i64 n, .int .i64 e]) (h.set b (.adt (mk m q)))) : Tri Pr R n_record_Put [.ptr b 0, .agg r.row] h K := by
  refine record_Put_ok hR hB hok r hb ?_
  rw [he]; exact hk
theorem RGet_at (hR : R.Ok) (hB : HasBook R mk) {m : Int} {ts : List Bs} {s : Bs} {seq prev n e : Int} {r : Rec} (hs : s.length < 1000) (he : recGet ts s seq prev = (r, n, e)) {h : AHeap A} {b : Nat} (hb : h[b]? = some (.adt (mk m ts))) {K : AVal → AHeap A → Prop}
    (hk : K (.tup [.agg r.row, .int .i64 n, .int .i64 e]) h) : Tri Pr R n_record_Get [.ptr b 0, .str s, .int .i64 seq, .int .i64 prev] h K := by
  refine record_Get_ok hR hB s (by omega) seq prev hb ?_
  rw [he]; exact hk
theorem bOk_rput {m : Int} {ts q : List Bs} {r : Rec} {s : Bs} {n e : Int} (h : bOk m ts) (he : recPut m ts r = (q, s, n, e)) : bOk m q := by
  have := recPut_ok (r := r) h
  rwa [he] at this
end
section
variable {bk rbk : Int → List Bs → A}
end
end Go.AI

/- Journals: small calls. -/
set_option linter.all false
namespace Go.AI
variable {A : Type} {R : Adts A}
section
variable {mk : List Bs → Ws → Bool → A}
theorem disk_Down_ok (hR : R.Ok) (hB : HasDisk R mk) {k : List Bs} {w : Ws} {d : Bool} {h : AHeap A} {b : Nat} (hb : h[b]? = some (.adt (mk k w d))) {K : AVal → AHeap A → Prop}
    (hk : K (.bool d) h) : Tri Pr R n_disk_Disk_Down [.ptr b 0] h K := by
  refine Tri.own hR (as2 := [.ptr 0 0]) (Q := fun v o => v = .bool d ∧ o = .adt (mk k w d)) rfl (disk_ix hB _ _ _ _) ?_ (disk_ren hB _ _ _) ?_ hb (by simp [rens, AVal.ren]) ?_
  · rintro _ _ ⟨rfl, rfl⟩; exact ⟨rfl, disk_ren hB _ _ _⟩
  · refine Tri.post (Tri.pre (Gives.opened 0 rfl (by simp) fun g hg => ?_))
    obtain rfl := (hB.lay _ _ _ _).1 hg
    refine Gives.done (by simp) ?_
    apply c_disk_Disk_Down
    unfold p_disk_Disk_Down
    by_cases h0 : w = []
    · subst h0
      simp -implicitDefEqProofs [diskG, GC.at]
      exact disk_shut0 hR hB 1 _ rfl rfl rfl (by omega) rfl ⟨_, rfl, _, ⟨rfl, rfl⟩, rfl⟩
    · simp -implicitDefEqProofs [diskG, GC.at, h0]
      exact disk_shut hR hB h0 1 2 _ _ rfl rfl rfl rfl rfl (by omega) rfl ⟨_, rfl, _, ⟨rfl, rfl⟩, rfl⟩
  · rintro _ _ ⟨rfl, rfl⟩; rw [set_same hb]; exact hk
theorem disk_Size_ok (hR : R.Ok) (hB : HasDisk R mk) {k : List Bs} {w : Ws} {d : Bool} {h : AHeap A} {b : Nat} (hb : h[b]? = some (.adt (mk k w d))) {K : AVal → AHeap A → Prop}
    (hk : K (.int .i64 k.length) h) : Tri Pr R n_disk_Disk_Size [.ptr b 0] h K := by
  refine Tri.own hR (as2 := [.ptr 0 0]) (Q := fun v o => v = .int .i64 k.length ∧ o = .adt (mk k w d)) rfl (disk_ix hB _ _ _ _) ?_ (disk_ren hB _ _ _) ?_ hb (by simp [rens, AVal.ren]) ?_
  · rintro _ _ ⟨rfl, rfl⟩; exact ⟨rfl, disk_ren hB _ _ _⟩
  · refine Tri.post (Tri.pre (Gives.opened 0 rfl (by simp) fun g hg => ?_))
    obtain rfl := (hB.lay _ _ _ _).1 hg
    refine Gives.done (by simp) ?_
    apply c_disk_Disk_Size
    unfold p_disk_Disk_Size
    by_cases h0 : w = []
    · subst h0
      simp -implicitDefEqProofs [diskG, GC.at]
      exact disk_shut0 hR hB 1 _ rfl rfl rfl (by omega) rfl ⟨_, rfl, _, ⟨rfl, rfl⟩, rfl⟩
    · simp -implicitDefEqProofs [diskG, GC.at, h0]
      exact disk_shut hR hB h0 1 2 _ _ rfl rfl rfl rfl rfl (by omega) rfl ⟨_, rfl, _, ⟨rfl, rfl⟩, rfl⟩
  · rintro _ _ ⟨rfl, rfl⟩; rw [set_same hb]; exact hk
end
/-- Events that are handed in: by themselves, or in an object behind the first n. -/
structure EvArg (a : AVal) (l : List Ev) (n : Nat) (t : AHeap A) : Prop where
  len : ∀ K : AVal → Prop, lenP a K = K (.int .i64 l.length)
  get : ∀ h : AHeap A, (∀ k o, t[k]? = some o → h[n + k]? = some o) → ∀ (i : Nat) (hi : i < l.length), ∃ p, (∀ K, idxP 8 a (.int .i64 i) K = K p) ∧ ldV 8 true p h = some (.agg l[i].row)
  src : ∀ h : AHeap A, (∀ k o, t[k]? = some o → h[n + k]? = some o) → srcOf 8 h a = some (l.length, l.flatMap Ev.row)
theorem EvArg.nil (n : Nat) (t : AHeap A) : EvArg .nils [] n t := ⟨fun K => by simp, fun h _ i hi => by simp at hi, fun h _ => rfl⟩
theorem EvArg.rows {a : AVal} {l : List Ev} (ha : IsRows Ev.row a l) (n : Nat) (t : AHeap A) : EvArg a l n t := by
  refine ⟨fun K => ha.len K, fun h _ i hi => ?_, fun h _ => ?_⟩
  · obtain ⟨x, b, o, cs, hx, hg⟩ := ha.get (w := 8) (fun x => rfl) (n := (i : Int)) (by omega) (by omega)
    rw [Int.toNat_natCast, List.getElem?_eq_getElem hi] at hx
    obtain rfl := Option.some.inj hx
    exact ⟨_, hg, by simp [ldV, Ev.row]⟩
  · rcases ha with ⟨rfl, rfl⟩ | ⟨b, o, cap, rfl⟩
    · rfl
    · have hl := evs_len l
      show srcOf 8 h (.lst b o l.length cap (l.flatMap Ev.row)) = _
      generalize l.flatMap Ev.row = C at *
      simp [srcOf, hl]
theorem EvArg.sl (l : List Ev) (n cap : Nat) (ex : Bool) (e : TypeId) : EvArg (A := A) (.sl n 0 l.length cap ex) l n [.cells e (l.flatMap Ev.row)] := by
  refine ⟨fun K => by simp, fun h ht i hi => ?_, fun h ht => ?_⟩
  · have h0 := ht 0 _ rfl
    have h1 : ((0 : Int) ≤ (i : Int) ∧ (i : Int) < (l.length : Int)) := by omega
    refine ⟨.ptr n (i * 8), fun K => by simp [idxP, hi], ?_⟩
    have h2 := rows_drop (f := Ev.row) (n := 8) (fun x => rfl) l i hi
    have hl := evs_len l
    have h3 : i * 8 + 8 ≤ (l.flatMap Ev.row).length := by omega
    have h4 : ((l.flatMap Ev.row).drop (i * 8)).take 8 = l[i].row := by rw [h2]; simp [Ev.row]
    rw [Nat.add_zero] at h0
    simp only [ldV, cellsAt, h0, AObj.read, Option.bind_some, h3, if_true, h4]
  · have h0 := ht 0 _ rfl
    rw [Nat.add_zero] at h0
    have hl := evs_len l
    generalize l.flatMap Ev.row = C at *
    have t1 : C.take (l.length * 8) = C := List.take_of_length_le (by omega)
    simp [srcOf, cellsAt, h0, AObj.read, hl, t1]
theorem written_c1_ok (hR : R.Ok) (e : Ev) {h : AHeap A} {K : AVal → AHeap A → Prop} (hk : K (.bool (!evMay e)) h) : Tri Pr R n_journal_Journal_written_c1 [.agg e.row] h K := by
  refine Tri.fn1 hR _ rfl (by simp [ixs, AVal.ix, Ev.row]) ?_ hk
  apply c_journal_Journal_written_c1
  unfold p_journal_Journal_written_c1
  simp -implicitDefEqProofs [Ev.row]
  refine event_May_ok hR e ?_
  simp -implicitDefEqProofs
  exact Ans.rfl' _
def IxI (g : AHeap A) (l : List Ev) (m : Nat) (y : List AVal) (h : AHeap A) : Prop := ∃ i : Nat, y = [.int .i64 i] ∧ h = g ∧ i ≤ l.length ∧ (∀ (j : Nat) (hj : j < l.length), j < i → evMay l[j] = true) ∧ m = l.length - i
theorem IndexFunc_ok (hR : R.Ok) {a : AVal} {l : List Ev} {n : Nat} {t h : AHeap A} (ha : EvArg a l n t) (ht : ∀ k o, t[k]? = some o → h[n + k]? = some o) (hn : l.length < 1000000000) {K : AVal → AHeap A → Prop}
    (hk : ∀ v : Int, decide (0 ≤ v) = !l.all evMay → K (.int .i64 v) h) : Tri Pr R n_slices_IndexFunc_api_Event [a, .fn (.func n_journal_Journal_written_c1) [] []] h K := by
  apply c_slices_IndexFunc_api_Event
  unfold p_slices_IndexFunc_api_Event
  simp -implicitDefEqProofs [ha.len]
  have hc1 : callOk Pr n_journal_Journal_written_c1 = true := by kernel_rfl
  refine loopP_go (IxI h l) l.length (Gives.done (by simp) ⟨0, rfl, rfl, by omega, by omega, by omega⟩) ?_
  rintro m y g ⟨i, rfl, rfl, hi, hall, rfl⟩
  have e1 := w64 (n := (i : Int) + 1) (by omega)
  by_cases h1 : i < l.length
  · obtain ⟨p, hp, hv⟩ := ha.get g ht i h1
    have h1' : (i : Int) < (l.length : Int) := by omega
    simp -implicitDefEqProofs [h1, h1', hp, hv]
    with_reducible refine dynP_go hc1 ?_
    simp -implicitDefEqProofs
    refine written_c1_ok hR _ ?_
    cases hm : evMay l[i] with
    | false =>
      simp -implicitDefEqProofs
      refine hk _ ?_
      have : l.all evMay = false := by
        rw [List.all_eq_false]
        exact ⟨l[i], List.getElem_mem h1, by simp [hm]⟩
      rw [this]; simp
    | true =>
      simp -implicitDefEqProofs [e1]
      refine Gives.done (by simp) ⟨l.length - (i + 1), by omega, i + 1, rfl, rfl, by omega, fun j hj hji => ?_, rfl⟩
      by_cases hji2 : j < i
      · exact hall j hj hji2
      · obtain rfl : j = i := by omega
        exact hm
  · have h1' : ¬ (i : Int) < (l.length : Int) := by omega
    simp -implicitDefEqProofs [h1, h1']
    refine hk _ ?_
    have : l.all evMay = true := by
      rw [List.all_eq_true]
      intro x hx
      obtain ⟨j, hj, rfl⟩ := List.getElem_of_mem hx
      exact hall j hj (by omega)
    rw [this]; rfl
theorem ContainsFunc_ok (hR : R.Ok) {a : AVal} {l : List Ev} {n : Nat} {t h : AHeap A} (ha : EvArg a l n t) (ht : ∀ k o, t[k]? = some o → h[n + k]? = some o) (hn : l.length < 1000000000) {K : AVal → AHeap A → Prop}
    (hk : K (.bool (!l.all evMay)) h) : Tri Pr R n_slices_ContainsFunc_api_Event [a, .fn (.func n_journal_Journal_written_c1) [] []] h K := by
  apply c_slices_ContainsFunc_api_Event
  unfold p_slices_ContainsFunc_api_Event
  refine IndexFunc_ok hR ha ht hn fun v hv => ?_
  simp -implicitDefEqProofs [hv]
  exact hk
end Go.AI
