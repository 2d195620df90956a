/- Events are written, are read (printed by gen/event_gen2.py). -/
import Derived.Test.YtkipdpamkchnoaaSpEvent
set_option linter.all false
namespace Go.AI
variable {A : Type} {R : Adts A}
theorem event_Put_0 (hR : R.Ok) (u s ad a b c t : Int) (hm : evMay ⟨0, u, s, ad, a, b, c, t⟩ = true) {h : AHeap A} {K : AVal → AHeap A → Prop} (hk : K (.tup [.str (evPut ⟨0, u, s, ad, a, b, c, t⟩), .int .i64 0]) h) : Tri Pr R n_event_Put [.agg (Ev.row ⟨0, u, s, ad, a, b, c, t⟩)] h K := by
  refine Tri.fn1 hR _ rfl rfl ?_ hk
  apply c_event_Put
  unfold p_event_Put
  simp -implicitDefEqProofs [Ev.row]
  refine event_May_ok hR ⟨0, u, s, ad, a, b, c, t⟩ ?_
  rw [hm]
  have l0 := nS_len 0
  have l1 := nS_len t
  have g1 : (nS 0).length + (nS t).length < 9223372036854775808 := by omega
  simp -implicitDefEqProofs
  refine field_Num_any hR _ ?_
  simp -implicitDefEqProofs
  apply c_event_parts
  unfold p_event_parts
  simp -implicitDefEqProofs [appP, appV, srcOf, cellsAt]
  repeat (first | refine joinP_go ?_ | simp -implicitDefEqProofs [appP, appV, srcOf, cellsAt])
  refine loopP_unr 5 ?_
  rw [unr]
  simp -implicitDefEqProofs
  refine field_Num_any hR _ ?_
  simp -implicitDefEqProofs [g1]
  refine Gives.done (by simp) ?_
  rw [unr]
  simp -implicitDefEqProofs
  exact Ans.of (by simp [evPut, nAll, evParts])
theorem event_Put_1 (hR : R.Ok) (u s ad a b c t : Int) (hm : evMay ⟨1, u, s, ad, a, b, c, t⟩ = true) {h : AHeap A} {K : AVal → AHeap A → Prop} (hk : K (.tup [.str (evPut ⟨1, u, s, ad, a, b, c, t⟩), .int .i64 0]) h) : Tri Pr R n_event_Put [.agg (Ev.row ⟨1, u, s, ad, a, b, c, t⟩)] h K := by
  refine Tri.fn1 hR _ rfl rfl ?_ hk
  apply c_event_Put
  unfold p_event_Put
  simp -implicitDefEqProofs [Ev.row]
  refine event_May_ok hR ⟨1, u, s, ad, a, b, c, t⟩ ?_
  rw [hm]
  have l0 := nS_len 1
  have l1 := nS_len u
  have l2 := nS_len a
  have l3 := nS_len b
  have l4 := nS_len c
  have g1 : (nS 1).length + (nS u).length < 9223372036854775808 := by omega
  have g2 : (nS 1).length + (nS u).length + (nS a).length < 9223372036854775808 := by omega
  have g3 : (nS 1).length + ((nS u).length + (nS a).length) + (nS b).length < 9223372036854775808 := by omega
  have g4 : (nS 1).length + ((nS u).length + ((nS a).length + (nS b).length)) + (nS c).length < 9223372036854775808 := by omega
  simp -implicitDefEqProofs
  refine field_Num_any hR _ ?_
  simp -implicitDefEqProofs
  apply c_event_parts
  unfold p_event_parts
  simp -implicitDefEqProofs [appP, appV, srcOf, cellsAt]
  repeat (first | refine joinP_go ?_ | simp -implicitDefEqProofs [appP, appV, srcOf, cellsAt])
  refine loopP_unr 5 ?_
  rw [unr]
  simp -implicitDefEqProofs
  refine field_Num_any hR _ ?_
  simp -implicitDefEqProofs [g1]
  refine Gives.done (by simp) ?_
  rw [unr]
  simp -implicitDefEqProofs
  refine field_Num_any hR _ ?_
  simp -implicitDefEqProofs [g2]
  refine Gives.done (by simp) ?_
  rw [unr]
  simp -implicitDefEqProofs
  refine field_Num_any hR _ ?_
  simp -implicitDefEqProofs [g3]
  refine Gives.done (by simp) ?_
  rw [unr]
  simp -implicitDefEqProofs
  refine field_Num_any hR _ ?_
  simp -implicitDefEqProofs [g4]
  refine Gives.done (by simp) ?_
  rw [unr]
  simp -implicitDefEqProofs
  exact Ans.of (by simp [evPut, nAll, evParts])
theorem event_Put_2 (hR : R.Ok) (u s ad a b c t : Int) (hm : evMay ⟨2, u, s, ad, a, b, c, t⟩ = true) {h : AHeap A} {K : AVal → AHeap A → Prop} (hk : K (.tup [.str (evPut ⟨2, u, s, ad, a, b, c, t⟩), .int .i64 0]) h) : Tri Pr R n_event_Put [.agg (Ev.row ⟨2, u, s, ad, a, b, c, t⟩)] h K := by
  refine Tri.fn1 hR _ rfl rfl ?_ hk
  apply c_event_Put
  unfold p_event_Put
  simp -implicitDefEqProofs [Ev.row]
  refine event_May_ok hR ⟨2, u, s, ad, a, b, c, t⟩ ?_
  rw [hm]
  have l0 := nS_len 2
  have l1 := nS_len u
  have l2 := nS_len t
  have g1 : (nS 2).length + (nS u).length < 9223372036854775808 := by omega
  have g2 : (nS 2).length + (nS u).length + (nS t).length < 9223372036854775808 := by omega
  simp -implicitDefEqProofs
  refine field_Num_any hR _ ?_
  simp -implicitDefEqProofs
  apply c_event_parts
  unfold p_event_parts
  simp -implicitDefEqProofs [appP, appV, srcOf, cellsAt]
  repeat (first | refine joinP_go ?_ | simp -implicitDefEqProofs [appP, appV, srcOf, cellsAt])
  refine loopP_unr 5 ?_
  rw [unr]
  simp -implicitDefEqProofs
  refine field_Num_any hR _ ?_
  simp -implicitDefEqProofs [g1]
  refine Gives.done (by simp) ?_
  rw [unr]
  simp -implicitDefEqProofs
  refine field_Num_any hR _ ?_
  simp -implicitDefEqProofs [g2]
  refine Gives.done (by simp) ?_
  rw [unr]
  simp -implicitDefEqProofs
  exact Ans.of (by simp [evPut, nAll, evParts])
theorem event_Put_3 (hR : R.Ok) (u s ad a b c t : Int) (hm : evMay ⟨3, u, s, ad, a, b, c, t⟩ = true) {h : AHeap A} {K : AVal → AHeap A → Prop} (hk : K (.tup [.str (evPut ⟨3, u, s, ad, a, b, c, t⟩), .int .i64 0]) h) : Tri Pr R n_event_Put [.agg (Ev.row ⟨3, u, s, ad, a, b, c, t⟩)] h K := by
  refine Tri.fn1 hR _ rfl rfl ?_ hk
  apply c_event_Put
  unfold p_event_Put
  simp -implicitDefEqProofs [Ev.row]
  refine event_May_ok hR ⟨3, u, s, ad, a, b, c, t⟩ ?_
  rw [hm]
  have l0 := nS_len 3
  have l1 := nS_len u
  have l2 := nS_len a
  have g1 : (nS 3).length + (nS u).length < 9223372036854775808 := by omega
  have g2 : (nS 3).length + (nS u).length + (nS a).length < 9223372036854775808 := by omega
  simp -implicitDefEqProofs
  refine field_Num_any hR _ ?_
  simp -implicitDefEqProofs
  apply c_event_parts
  unfold p_event_parts
  simp -implicitDefEqProofs [appP, appV, srcOf, cellsAt]
  repeat (first | refine joinP_go ?_ | simp -implicitDefEqProofs [appP, appV, srcOf, cellsAt])
  refine loopP_unr 5 ?_
  rw [unr]
  simp -implicitDefEqProofs
  refine field_Num_any hR _ ?_
  simp -implicitDefEqProofs [g1]
  refine Gives.done (by simp) ?_
  rw [unr]
  simp -implicitDefEqProofs
  refine field_Num_any hR _ ?_
  simp -implicitDefEqProofs [g2]
  refine Gives.done (by simp) ?_
  rw [unr]
  simp -implicitDefEqProofs
  exact Ans.of (by simp [evPut, nAll, evParts])
theorem event_Put_4 (hR : R.Ok) (u s ad a b c t : Int) (hm : evMay ⟨4, u, s, ad, a, b, c, t⟩ = true) {h : AHeap A} {K : AVal → AHeap A → Prop} (hk : K (.tup [.str (evPut ⟨4, u, s, ad, a, b, c, t⟩), .int .i64 0]) h) : Tri Pr R n_event_Put [.agg (Ev.row ⟨4, u, s, ad, a, b, c, t⟩)] h K := by
  refine Tri.fn1 hR _ rfl rfl ?_ hk
  apply c_event_Put
  unfold p_event_Put
  simp -implicitDefEqProofs [Ev.row]
  refine event_May_ok hR ⟨4, u, s, ad, a, b, c, t⟩ ?_
  rw [hm]
  have l0 := nS_len 4
  have l1 := nS_len u
  have g1 : (nS 4).length + (nS u).length < 9223372036854775808 := by omega
  simp -implicitDefEqProofs
  refine field_Num_any hR _ ?_
  simp -implicitDefEqProofs
  apply c_event_parts
  unfold p_event_parts
  simp -implicitDefEqProofs [appP, appV, srcOf, cellsAt]
  repeat (first | refine joinP_go ?_ | simp -implicitDefEqProofs [appP, appV, srcOf, cellsAt])
  refine loopP_unr 5 ?_
  rw [unr]
  simp -implicitDefEqProofs
  refine field_Num_any hR _ ?_
  simp -implicitDefEqProofs [g1]
  refine Gives.done (by simp) ?_
  rw [unr]
  simp -implicitDefEqProofs
  exact Ans.of (by simp [evPut, nAll, evParts])
theorem event_Put_5 (hR : R.Ok) (u s ad a b c t : Int) (hm : evMay ⟨5, u, s, ad, a, b, c, t⟩ = true) {h : AHeap A} {K : AVal → AHeap A → Prop} (hk : K (.tup [.str (evPut ⟨5, u, s, ad, a, b, c, t⟩), .int .i64 0]) h) : Tri Pr R n_event_Put [.agg (Ev.row ⟨5, u, s, ad, a, b, c, t⟩)] h K := by
  refine Tri.fn1 hR _ rfl rfl ?_ hk
  apply c_event_Put
  unfold p_event_Put
  simp -implicitDefEqProofs [Ev.row]
  refine event_May_ok hR ⟨5, u, s, ad, a, b, c, t⟩ ?_
  rw [hm]
  have l0 := nS_len 5
  have l1 := nS_len s
  have l2 := nS_len u
  have l3 := nS_len ad
  have l4 := nS_len t
  have g1 : (nS 5).length + (nS s).length < 9223372036854775808 := by omega
  have g2 : (nS 5).length + (nS s).length + (nS u).length < 9223372036854775808 := by omega
  have g3 : (nS 5).length + ((nS s).length + (nS u).length) + (nS ad).length < 9223372036854775808 := by omega
  have g4 : (nS 5).length + ((nS s).length + ((nS u).length + (nS ad).length)) + (nS t).length < 9223372036854775808 := by omega
  simp -implicitDefEqProofs
  refine field_Num_any hR _ ?_
  simp -implicitDefEqProofs
  apply c_event_parts
  unfold p_event_parts
  simp -implicitDefEqProofs [appP, appV, srcOf, cellsAt]
  repeat (first | refine joinP_go ?_ | simp -implicitDefEqProofs [appP, appV, srcOf, cellsAt])
  refine loopP_unr 5 ?_
  rw [unr]
  simp -implicitDefEqProofs
  refine field_Num_any hR _ ?_
  simp -implicitDefEqProofs [g1]
  refine Gives.done (by simp) ?_
  rw [unr]
  simp -implicitDefEqProofs
  refine field_Num_any hR _ ?_
  simp -implicitDefEqProofs [g2]
  refine Gives.done (by simp) ?_
  rw [unr]
  simp -implicitDefEqProofs
  refine field_Num_any hR _ ?_
  simp -implicitDefEqProofs [g3]
  refine Gives.done (by simp) ?_
  rw [unr]
  simp -implicitDefEqProofs
  refine field_Num_any hR _ ?_
  simp -implicitDefEqProofs [g4]
  refine Gives.done (by simp) ?_
  rw [unr]
  simp -implicitDefEqProofs
  exact Ans.of (by simp [evPut, nAll, evParts])
theorem event_Put_6 (hR : R.Ok) (u s ad a b c t : Int) (hm : evMay ⟨6, u, s, ad, a, b, c, t⟩ = true) {h : AHeap A} {K : AVal → AHeap A → Prop} (hk : K (.tup [.str (evPut ⟨6, u, s, ad, a, b, c, t⟩), .int .i64 0]) h) : Tri Pr R n_event_Put [.agg (Ev.row ⟨6, u, s, ad, a, b, c, t⟩)] h K := by
  refine Tri.fn1 hR _ rfl rfl ?_ hk
  apply c_event_Put
  unfold p_event_Put
  simp -implicitDefEqProofs [Ev.row]
  refine event_May_ok hR ⟨6, u, s, ad, a, b, c, t⟩ ?_
  rw [hm]
  have l0 := nS_len 6
  have l1 := nS_len s
  have l2 := nS_len a
  have l3 := nS_len b
  have l4 := nS_len t
  have g1 : (nS 6).length + (nS s).length < 9223372036854775808 := by omega
  have g2 : (nS 6).length + (nS s).length + (nS a).length < 9223372036854775808 := by omega
  have g3 : (nS 6).length + ((nS s).length + (nS a).length) + (nS b).length < 9223372036854775808 := by omega
  have g4 : (nS 6).length + ((nS s).length + ((nS a).length + (nS b).length)) + (nS t).length < 9223372036854775808 := by omega
  simp -implicitDefEqProofs
  refine field_Num_any hR _ ?_
  simp -implicitDefEqProofs
  apply c_event_parts
  unfold p_event_parts
  simp -implicitDefEqProofs [appP, appV, srcOf, cellsAt]
  repeat (first | refine joinP_go ?_ | simp -implicitDefEqProofs [appP, appV, srcOf, cellsAt])
  refine loopP_unr 5 ?_
  rw [unr]
  simp -implicitDefEqProofs
  refine field_Num_any hR _ ?_
  simp -implicitDefEqProofs [g1]
  refine Gives.done (by simp) ?_
  rw [unr]
  simp -implicitDefEqProofs
  refine field_Num_any hR _ ?_
  simp -implicitDefEqProofs [g2]
  refine Gives.done (by simp) ?_
  rw [unr]
  simp -implicitDefEqProofs
  refine field_Num_any hR _ ?_
  simp -implicitDefEqProofs [g3]
  refine Gives.done (by simp) ?_
  rw [unr]
  simp -implicitDefEqProofs
  refine field_Num_any hR _ ?_
  simp -implicitDefEqProofs [g4]
  refine Gives.done (by simp) ?_
  rw [unr]
  simp -implicitDefEqProofs
  exact Ans.of (by simp [evPut, nAll, evParts])
theorem event_Put_7 (hR : R.Ok) (u s ad a b c t : Int) (hm : evMay ⟨7, u, s, ad, a, b, c, t⟩ = true) {h : AHeap A} {K : AVal → AHeap A → Prop} (hk : K (.tup [.str (evPut ⟨7, u, s, ad, a, b, c, t⟩), .int .i64 0]) h) : Tri Pr R n_event_Put [.agg (Ev.row ⟨7, u, s, ad, a, b, c, t⟩)] h K := by
  refine Tri.fn1 hR _ rfl rfl ?_ hk
  apply c_event_Put
  unfold p_event_Put
  simp -implicitDefEqProofs [Ev.row]
  refine event_May_ok hR ⟨7, u, s, ad, a, b, c, t⟩ ?_
  rw [hm]
  have l0 := nS_len 7
  have l1 := nS_len u
  have g1 : (nS 7).length + (nS u).length < 9223372036854775808 := by omega
  simp -implicitDefEqProofs
  refine field_Num_any hR _ ?_
  simp -implicitDefEqProofs
  apply c_event_parts
  unfold p_event_parts
  simp -implicitDefEqProofs [appP, appV, srcOf, cellsAt]
  repeat (first | refine joinP_go ?_ | simp -implicitDefEqProofs [appP, appV, srcOf, cellsAt])
  refine loopP_unr 5 ?_
  rw [unr]
  simp -implicitDefEqProofs
  refine field_Num_any hR _ ?_
  simp -implicitDefEqProofs [g1]
  refine Gives.done (by simp) ?_
  rw [unr]
  simp -implicitDefEqProofs
  exact Ans.of (by simp [evPut, nAll, evParts])
theorem event_Put_8 (hR : R.Ok) (u s ad a b c t : Int) (hm : evMay ⟨8, u, s, ad, a, b, c, t⟩ = true) {h : AHeap A} {K : AVal → AHeap A → Prop} (hk : K (.tup [.str (evPut ⟨8, u, s, ad, a, b, c, t⟩), .int .i64 0]) h) : Tri Pr R n_event_Put [.agg (Ev.row ⟨8, u, s, ad, a, b, c, t⟩)] h K := by
  refine Tri.fn1 hR _ rfl rfl ?_ hk
  apply c_event_Put
  unfold p_event_Put
  simp -implicitDefEqProofs [Ev.row]
  refine event_May_ok hR ⟨8, u, s, ad, a, b, c, t⟩ ?_
  rw [hm]
  have l0 := nS_len 8
  simp -implicitDefEqProofs
  refine field_Num_any hR _ ?_
  simp -implicitDefEqProofs
  apply c_event_parts
  unfold p_event_parts
  simp -implicitDefEqProofs [appP, appV, srcOf, cellsAt]
  repeat (first | refine joinP_go ?_ | simp -implicitDefEqProofs [appP, appV, srcOf, cellsAt])
  refine loopP_unr 5 ?_
  rw [unr]
  simp -implicitDefEqProofs
  exact Ans.of (by simp [evPut, nAll, evParts])
theorem event_Put_9 (hR : R.Ok) (u s ad a b c t : Int) (hm : evMay ⟨9, u, s, ad, a, b, c, t⟩ = true) {h : AHeap A} {K : AVal → AHeap A → Prop} (hk : K (.tup [.str (evPut ⟨9, u, s, ad, a, b, c, t⟩), .int .i64 0]) h) : Tri Pr R n_event_Put [.agg (Ev.row ⟨9, u, s, ad, a, b, c, t⟩)] h K := by
  refine Tri.fn1 hR _ rfl rfl ?_ hk
  apply c_event_Put
  unfold p_event_Put
  simp -implicitDefEqProofs [Ev.row]
  refine event_May_ok hR ⟨9, u, s, ad, a, b, c, t⟩ ?_
  rw [hm]
  have l0 := nS_len 9
  have l1 := nS_len s
  have g1 : (nS 9).length + (nS s).length < 9223372036854775808 := by omega
  simp -implicitDefEqProofs
  refine field_Num_any hR _ ?_
  simp -implicitDefEqProofs
  apply c_event_parts
  unfold p_event_parts
  simp -implicitDefEqProofs [appP, appV, srcOf, cellsAt]
  repeat (first | refine joinP_go ?_ | simp -implicitDefEqProofs [appP, appV, srcOf, cellsAt])
  refine loopP_unr 5 ?_
  rw [unr]
  simp -implicitDefEqProofs
  refine field_Num_any hR _ ?_
  simp -implicitDefEqProofs [g1]
  refine Gives.done (by simp) ?_
  rw [unr]
  simp -implicitDefEqProofs
  exact Ans.of (by simp [evPut, nAll, evParts])
theorem event_Put_ok (hR : R.Ok) (e : Ev) {h : AHeap A} {K : AVal → AHeap A → Prop} (hk : if evMay e = true then K (.tup [.str (evPut e), .int .i64 0]) h else K (.tup [.str [], .int .i64 700]) h) : Tri Pr R n_event_Put [.agg e.row] h K := by
  cases hm : evMay e with
  | false =>
    rw [hm] at hk
    simp at hk
    refine Tri.fn1 hR _ rfl rfl ?_ hk
    obtain ⟨k, u, s, ad, a, b, c, t⟩ := e
    apply c_event_Put
    unfold p_event_Put
    simp -implicitDefEqProofs [Ev.row]
    refine event_May_ok hR ⟨k, u, s, ad, a, b, c, t⟩ ?_
    rw [hm]
    simp -implicitDefEqProofs
    exact Ans.rfl' _
  | true =>
    rw [if_pos hm] at hk
    have hc := evMay_kind hm
    obtain ⟨k, u, s, ad, a, b, c, t⟩ := e
    simp only at hc
    have hc2 : k = 0 ∨ k = 1 ∨ k = 2 ∨ k = 3 ∨ k = 4 ∨ k = 5 ∨ k = 6 ∨ k = 7 ∨ k = 8 ∨ k = 9 := by omega
    rcases hc2 with rfl | rfl | rfl | rfl | rfl | rfl | rfl | rfl | rfl | rfl
    · exact event_Put_0 hR u s ad a b c t hm hk
    · exact event_Put_1 hR u s ad a b c t hm hk
    · exact event_Put_2 hR u s ad a b c t hm hk
    · exact event_Put_3 hR u s ad a b c t hm hk
    · exact event_Put_4 hR u s ad a b c t hm hk
    · exact event_Put_5 hR u s ad a b c t hm hk
    · exact event_Put_6 hR u s ad a b c t hm hk
    · exact event_Put_7 hR u s ad a b c t hm hk
    · exact event_Put_8 hR u s ad a b c t hm hk
    · exact event_Put_9 hR u s ad a b c t hm hk
/-- What reading an event tells. -/
def evTup (o : Option Ev) : AVal := match o with | some e => .tup [.agg e.row, .int .i64 0] | none => .tup [.agg ev0.row, .int .i64 700]
theorem evTup_ix (o : Option Ev) : (evTup o).ix 0 = true := by cases o <;> rfl
theorem event_Get_0 (hR : R.Ok) (s : Bs0) (hs : s.length < 8000000000000000000) (t0 : Int) (hg : gNum s 0 = (0, t0, 0)) {h : AHeap A} {K : AVal → AHeap A → Prop} (hk : K (evTup (evGet s)) h) : Tri Pr R n_event_Get [.str s] h K := by
  refine Tri.fn1 hR _ (evTup_ix _) rfl ?_ hk
  have q := gNum_enc hg
  apply c_event_Get
  unfold p_event_Get
  simp -implicitDefEqProofs
  have hf : (.cells t_field_Reader [.str s, .int .i64 0, .nili] : AObj A) = fRead s 0 .nili := rfl
  rw [hf]
  refine fReader_ok hR s (by omega) 0 (by omega) ?_
  rw [hg]
  dsimp only
  rw [if_pos rfl]
  simp -implicitDefEqProofs
  apply c_event_parts
  unfold p_event_parts
  simp -implicitDefEqProofs [appP, appV, srcOf, cellsAt]
  repeat (first | refine joinP_go ?_ | simp -implicitDefEqProofs [appP, appV, srcOf, cellsAt])
  refine loopP_unr 5 ?_
  rw [unr]
  simp -implicitDefEqProofs
  refine fReader_ok hR s (by omega) t0 (by omega) ?_
  obtain ⟨x0, t1, e0, hg0⟩ : ∃ x t e, gNum s t0 = (x, t, e) := ⟨_, _, _, rfl⟩
  rw [hg0]
  dsimp only
  by_cases he0 : e0 = 0
  · subst he0
    have q0 := gNum_enc hg0
    rw [if_pos rfl]
    simp -implicitDefEqProofs
    refine Gives.done (by simp) ?_
    rw [unr]
    simp -implicitDefEqProofs
    apply c_field_Reader_Done
    unfold p_field_Reader_Done
    simp -implicitDefEqProofs
    refine joinP_go ?_
    by_cases hl : t1 = s.length
    · have hl' : (t1 == (s.length : Int)) = true := by simpa using hl
      simp -implicitDefEqProofs [hl']
      refine event_May_ok hR ⟨0, 0, 0, 0, 0, 0, 0, x0⟩ ?_
      have hev : evGet s = if evMay ⟨0, 0, 0, 0, 0, 0, 0, x0⟩ = true then some ⟨0, 0, 0, 0, 0, 0, 0, x0⟩ else none := by simp [evGet, rNums, evCount, evOf, ev0, hg, hg0, hl]
      cases hm : evMay ⟨0, 0, 0, 0, 0, 0, 0, x0⟩ with
      | true => rw [hm] at hev; simp at hev; simp -implicitDefEqProofs; rw [hev]; exact Ans.rfl' _
      | false => rw [hm] at hev; simp at hev; simp -implicitDefEqProofs; rw [hev]; exact Ans.rfl' _
    · have hl' : (t1 == (s.length : Int)) = false := by simpa using hl
      have hev : evGet s = none := by simp [evGet, rNums, evCount, hg, hg0, hl]
      rw [hev]
      simp -implicitDefEqProofs [hl']
      exact Ans.rfl' _
  · rw [if_neg he0]
    intro fa fe
    simp -implicitDefEqProofs
    refine Gives.done (by simp) ?_
    rw [unr]
    simp -implicitDefEqProofs
    apply c_field_Reader_Done
    unfold p_field_Reader_Done
    simp -implicitDefEqProofs
    refine joinP_go ?_
    simp -implicitDefEqProofs
    have hev : evGet s = none := by simp [evGet, rNums, evCount, hg, hg0, he0]
    rw [hev]
    exact Ans.rfl' _
theorem event_Get_1 (hR : R.Ok) (s : Bs0) (hs : s.length < 8000000000000000000) (t0 : Int) (hg : gNum s 0 = (1, t0, 0)) {h : AHeap A} {K : AVal → AHeap A → Prop} (hk : K (evTup (evGet s)) h) : Tri Pr R n_event_Get [.str s] h K := by
  refine Tri.fn1 hR _ (evTup_ix _) rfl ?_ hk
  have q := gNum_enc hg
  apply c_event_Get
  unfold p_event_Get
  simp -implicitDefEqProofs
  have hf : (.cells t_field_Reader [.str s, .int .i64 0, .nili] : AObj A) = fRead s 0 .nili := rfl
  rw [hf]
  refine fReader_ok hR s (by omega) 0 (by omega) ?_
  rw [hg]
  dsimp only
  rw [if_pos rfl]
  simp -implicitDefEqProofs
  apply c_event_parts
  unfold p_event_parts
  simp -implicitDefEqProofs [appP, appV, srcOf, cellsAt]
  repeat (first | refine joinP_go ?_ | simp -implicitDefEqProofs [appP, appV, srcOf, cellsAt])
  refine loopP_unr 5 ?_
  rw [unr]
  simp -implicitDefEqProofs
  refine fReader_ok hR s (by omega) t0 (by omega) ?_
  obtain ⟨x0, t1, e0, hg0⟩ : ∃ x t e, gNum s t0 = (x, t, e) := ⟨_, _, _, rfl⟩
  rw [hg0]
  dsimp only
  by_cases he0 : e0 = 0
  · subst he0
    have q0 := gNum_enc hg0
    rw [if_pos rfl]
    simp -implicitDefEqProofs
    refine Gives.done (by simp) ?_
    rw [unr]
    simp -implicitDefEqProofs
    refine fReader_ok hR s (by omega) t1 (by omega) ?_
    obtain ⟨x1, t2, e1, hg1⟩ : ∃ x t e, gNum s t1 = (x, t, e) := ⟨_, _, _, rfl⟩
    rw [hg1]
    dsimp only
    by_cases he1 : e1 = 0
    · subst he1
      have q1 := gNum_enc hg1
      rw [if_pos rfl]
      simp -implicitDefEqProofs
      refine Gives.done (by simp) ?_
      rw [unr]
      simp -implicitDefEqProofs
      refine fReader_ok hR s (by omega) t2 (by omega) ?_
      obtain ⟨x2, t3, e2, hg2⟩ : ∃ x t e, gNum s t2 = (x, t, e) := ⟨_, _, _, rfl⟩
      rw [hg2]
      dsimp only
      by_cases he2 : e2 = 0
      · subst he2
        have q2 := gNum_enc hg2
        rw [if_pos rfl]
        simp -implicitDefEqProofs
        refine Gives.done (by simp) ?_
        rw [unr]
        simp -implicitDefEqProofs
        refine fReader_ok hR s (by omega) t3 (by omega) ?_
        obtain ⟨x3, t4, e3, hg3⟩ : ∃ x t e, gNum s t3 = (x, t, e) := ⟨_, _, _, rfl⟩
        rw [hg3]
        dsimp only
        by_cases he3 : e3 = 0
        · subst he3
          have q3 := gNum_enc hg3
          rw [if_pos rfl]
          simp -implicitDefEqProofs
          refine Gives.done (by simp) ?_
          rw [unr]
          simp -implicitDefEqProofs
          apply c_field_Reader_Done
          unfold p_field_Reader_Done
          simp -implicitDefEqProofs
          refine joinP_go ?_
          by_cases hl : t4 = s.length
          · have hl' : (t4 == (s.length : Int)) = true := by simpa using hl
            simp -implicitDefEqProofs [hl']
            refine event_May_ok hR ⟨1, x0, 0, 0, x1, x2, x3, 0⟩ ?_
            have hev : evGet s = if evMay ⟨1, x0, 0, 0, x1, x2, x3, 0⟩ = true then some ⟨1, x0, 0, 0, x1, x2, x3, 0⟩ else none := by simp [evGet, rNums, evCount, evOf, ev0, hg, hg0, hg1, hg2, hg3, hl]
            cases hm : evMay ⟨1, x0, 0, 0, x1, x2, x3, 0⟩ with
            | true => rw [hm] at hev; simp at hev; simp -implicitDefEqProofs; rw [hev]; exact Ans.rfl' _
            | false => rw [hm] at hev; simp at hev; simp -implicitDefEqProofs; rw [hev]; exact Ans.rfl' _
          · have hl' : (t4 == (s.length : Int)) = false := by simpa using hl
            have hev : evGet s = none := by simp [evGet, rNums, evCount, hg, hg0, hg1, hg2, hg3, hl]
            rw [hev]
            simp -implicitDefEqProofs [hl']
            exact Ans.rfl' _
        · rw [if_neg he3]
          intro fa fe
          simp -implicitDefEqProofs
          refine Gives.done (by simp) ?_
          rw [unr]
          simp -implicitDefEqProofs
          apply c_field_Reader_Done
          unfold p_field_Reader_Done
          simp -implicitDefEqProofs
          refine joinP_go ?_
          simp -implicitDefEqProofs
          have hev : evGet s = none := by simp [evGet, rNums, evCount, hg, hg0, hg1, hg2, hg3, he3]
          rw [hev]
          exact Ans.rfl' _
      · rw [if_neg he2]
        intro fa fe
        simp -implicitDefEqProofs
        refine Gives.done (by simp) ?_
        rw [unr]
        simp -implicitDefEqProofs
        refine fReader_bad hR s 0 _ _ ?_
        simp -implicitDefEqProofs
        refine Gives.done (by simp) ?_
        rw [unr]
        simp -implicitDefEqProofs
        apply c_field_Reader_Done
        unfold p_field_Reader_Done
        simp -implicitDefEqProofs
        refine joinP_go ?_
        simp -implicitDefEqProofs
        have hev : evGet s = none := by simp [evGet, rNums, evCount, hg, hg0, hg1, hg2, he2]
        rw [hev]
        exact Ans.rfl' _
    · rw [if_neg he1]
      intro fa fe
      simp -implicitDefEqProofs
      refine Gives.done (by simp) ?_
      rw [unr]
      simp -implicitDefEqProofs
      refine fReader_bad hR s 0 _ _ ?_
      simp -implicitDefEqProofs
      refine Gives.done (by simp) ?_
      rw [unr]
      simp -implicitDefEqProofs
      refine fReader_bad hR s 0 _ _ ?_
      simp -implicitDefEqProofs
      refine Gives.done (by simp) ?_
      rw [unr]
      simp -implicitDefEqProofs
      apply c_field_Reader_Done
      unfold p_field_Reader_Done
      simp -implicitDefEqProofs
      refine joinP_go ?_
      simp -implicitDefEqProofs
      have hev : evGet s = none := by simp [evGet, rNums, evCount, hg, hg0, hg1, he1]
      rw [hev]
      exact Ans.rfl' _
  · rw [if_neg he0]
    intro fa fe
    simp -implicitDefEqProofs
    refine Gives.done (by simp) ?_
    rw [unr]
    simp -implicitDefEqProofs
    refine fReader_bad hR s 0 _ _ ?_
    simp -implicitDefEqProofs
    refine Gives.done (by simp) ?_
    rw [unr]
    simp -implicitDefEqProofs
    refine fReader_bad hR s 0 _ _ ?_
    simp -implicitDefEqProofs
    refine Gives.done (by simp) ?_
    rw [unr]
    simp -implicitDefEqProofs
    refine fReader_bad hR s 0 _ _ ?_
    simp -implicitDefEqProofs
    refine Gives.done (by simp) ?_
    rw [unr]
    simp -implicitDefEqProofs
    apply c_field_Reader_Done
    unfold p_field_Reader_Done
    simp -implicitDefEqProofs
    refine joinP_go ?_
    simp -implicitDefEqProofs
    have hev : evGet s = none := by simp [evGet, rNums, evCount, hg, hg0, he0]
    rw [hev]
    exact Ans.rfl' _
theorem event_Get_2 (hR : R.Ok) (s : Bs0) (hs : s.length < 8000000000000000000) (t0 : Int) (hg : gNum s 0 = (2, t0, 0)) {h : AHeap A} {K : AVal → AHeap A → Prop} (hk : K (evTup (evGet s)) h) : Tri Pr R n_event_Get [.str s] h K := by
  refine Tri.fn1 hR _ (evTup_ix _) rfl ?_ hk
  have q := gNum_enc hg
  apply c_event_Get
  unfold p_event_Get
  simp -implicitDefEqProofs
  have hf : (.cells t_field_Reader [.str s, .int .i64 0, .nili] : AObj A) = fRead s 0 .nili := rfl
  rw [hf]
  refine fReader_ok hR s (by omega) 0 (by omega) ?_
  rw [hg]
  dsimp only
  rw [if_pos rfl]
  simp -implicitDefEqProofs
  apply c_event_parts
  unfold p_event_parts
  simp -implicitDefEqProofs [appP, appV, srcOf, cellsAt]
  repeat (first | refine joinP_go ?_ | simp -implicitDefEqProofs [appP, appV, srcOf, cellsAt])
  refine loopP_unr 5 ?_
  rw [unr]
  simp -implicitDefEqProofs
  refine fReader_ok hR s (by omega) t0 (by omega) ?_
  obtain ⟨x0, t1, e0, hg0⟩ : ∃ x t e, gNum s t0 = (x, t, e) := ⟨_, _, _, rfl⟩
  rw [hg0]
  dsimp only
  by_cases he0 : e0 = 0
  · subst he0
    have q0 := gNum_enc hg0
    rw [if_pos rfl]
    simp -implicitDefEqProofs
    refine Gives.done (by simp) ?_
    rw [unr]
    simp -implicitDefEqProofs
    refine fReader_ok hR s (by omega) t1 (by omega) ?_
    obtain ⟨x1, t2, e1, hg1⟩ : ∃ x t e, gNum s t1 = (x, t, e) := ⟨_, _, _, rfl⟩
    rw [hg1]
    dsimp only
    by_cases he1 : e1 = 0
    · subst he1
      have q1 := gNum_enc hg1
      rw [if_pos rfl]
      simp -implicitDefEqProofs
      refine Gives.done (by simp) ?_
      rw [unr]
      simp -implicitDefEqProofs
      apply c_field_Reader_Done
      unfold p_field_Reader_Done
      simp -implicitDefEqProofs
      refine joinP_go ?_
      by_cases hl : t2 = s.length
      · have hl' : (t2 == (s.length : Int)) = true := by simpa using hl
        simp -implicitDefEqProofs [hl']
        refine event_May_ok hR ⟨2, x0, 0, 0, 0, 0, 0, x1⟩ ?_
        have hev : evGet s = if evMay ⟨2, x0, 0, 0, 0, 0, 0, x1⟩ = true then some ⟨2, x0, 0, 0, 0, 0, 0, x1⟩ else none := by simp [evGet, rNums, evCount, evOf, ev0, hg, hg0, hg1, hl]
        cases hm : evMay ⟨2, x0, 0, 0, 0, 0, 0, x1⟩ with
        | true => rw [hm] at hev; simp at hev; simp -implicitDefEqProofs; rw [hev]; exact Ans.rfl' _
        | false => rw [hm] at hev; simp at hev; simp -implicitDefEqProofs; rw [hev]; exact Ans.rfl' _
      · have hl' : (t2 == (s.length : Int)) = false := by simpa using hl
        have hev : evGet s = none := by simp [evGet, rNums, evCount, hg, hg0, hg1, hl]
        rw [hev]
        simp -implicitDefEqProofs [hl']
        exact Ans.rfl' _
    · rw [if_neg he1]
      intro fa fe
      simp -implicitDefEqProofs
      refine Gives.done (by simp) ?_
      rw [unr]
      simp -implicitDefEqProofs
      apply c_field_Reader_Done
      unfold p_field_Reader_Done
      simp -implicitDefEqProofs
      refine joinP_go ?_
      simp -implicitDefEqProofs
      have hev : evGet s = none := by simp [evGet, rNums, evCount, hg, hg0, hg1, he1]
      rw [hev]
      exact Ans.rfl' _
  · rw [if_neg he0]
    intro fa fe
    simp -implicitDefEqProofs
    refine Gives.done (by simp) ?_
    rw [unr]
    simp -implicitDefEqProofs
    refine fReader_bad hR s 0 _ _ ?_
    simp -implicitDefEqProofs
    refine Gives.done (by simp) ?_
    rw [unr]
    simp -implicitDefEqProofs
    apply c_field_Reader_Done
    unfold p_field_Reader_Done
    simp -implicitDefEqProofs
    refine joinP_go ?_
    simp -implicitDefEqProofs
    have hev : evGet s = none := by simp [evGet, rNums, evCount, hg, hg0, he0]
    rw [hev]
    exact Ans.rfl' _
theorem event_Get_3 (hR : R.Ok) (s : Bs0) (hs : s.length < 8000000000000000000) (t0 : Int) (hg : gNum s 0 = (3, t0, 0)) {h : AHeap A} {K : AVal → AHeap A → Prop} (hk : K (evTup (evGet s)) h) : Tri Pr R n_event_Get [.str s] h K := by
  refine Tri.fn1 hR _ (evTup_ix _) rfl ?_ hk
  have q := gNum_enc hg
  apply c_event_Get
  unfold p_event_Get
  simp -implicitDefEqProofs
  have hf : (.cells t_field_Reader [.str s, .int .i64 0, .nili] : AObj A) = fRead s 0 .nili := rfl
  rw [hf]
  refine fReader_ok hR s (by omega) 0 (by omega) ?_
  rw [hg]
  dsimp only
  rw [if_pos rfl]
  simp -implicitDefEqProofs
  apply c_event_parts
  unfold p_event_parts
  simp -implicitDefEqProofs [appP, appV, srcOf, cellsAt]
  repeat (first | refine joinP_go ?_ | simp -implicitDefEqProofs [appP, appV, srcOf, cellsAt])
  refine loopP_unr 5 ?_
  rw [unr]
  simp -implicitDefEqProofs
  refine fReader_ok hR s (by omega) t0 (by omega) ?_
  obtain ⟨x0, t1, e0, hg0⟩ : ∃ x t e, gNum s t0 = (x, t, e) := ⟨_, _, _, rfl⟩
  rw [hg0]
  dsimp only
  by_cases he0 : e0 = 0
  · subst he0
    have q0 := gNum_enc hg0
    rw [if_pos rfl]
    simp -implicitDefEqProofs
    refine Gives.done (by simp) ?_
    rw [unr]
    simp -implicitDefEqProofs
    refine fReader_ok hR s (by omega) t1 (by omega) ?_
    obtain ⟨x1, t2, e1, hg1⟩ : ∃ x t e, gNum s t1 = (x, t, e) := ⟨_, _, _, rfl⟩
    rw [hg1]
    dsimp only
    by_cases he1 : e1 = 0
    · subst he1
      have q1 := gNum_enc hg1
      rw [if_pos rfl]
      simp -implicitDefEqProofs
      refine Gives.done (by simp) ?_
      rw [unr]
      simp -implicitDefEqProofs
      apply c_field_Reader_Done
      unfold p_field_Reader_Done
      simp -implicitDefEqProofs
      refine joinP_go ?_
      by_cases hl : t2 = s.length
      · have hl' : (t2 == (s.length : Int)) = true := by simpa using hl
        simp -implicitDefEqProofs [hl']
        refine event_May_ok hR ⟨3, x0, 0, 0, x1, 0, 0, 0⟩ ?_
        have hev : evGet s = if evMay ⟨3, x0, 0, 0, x1, 0, 0, 0⟩ = true then some ⟨3, x0, 0, 0, x1, 0, 0, 0⟩ else none := by simp [evGet, rNums, evCount, evOf, ev0, hg, hg0, hg1, hl]
        cases hm : evMay ⟨3, x0, 0, 0, x1, 0, 0, 0⟩ with
        | true => rw [hm] at hev; simp at hev; simp -implicitDefEqProofs; rw [hev]; exact Ans.rfl' _
        | false => rw [hm] at hev; simp at hev; simp -implicitDefEqProofs; rw [hev]; exact Ans.rfl' _
      · have hl' : (t2 == (s.length : Int)) = false := by simpa using hl
        have hev : evGet s = none := by simp [evGet, rNums, evCount, hg, hg0, hg1, hl]
        rw [hev]
        simp -implicitDefEqProofs [hl']
        exact Ans.rfl' _
    · rw [if_neg he1]
      intro fa fe
      simp -implicitDefEqProofs
      refine Gives.done (by simp) ?_
      rw [unr]
      simp -implicitDefEqProofs
      apply c_field_Reader_Done
      unfold p_field_Reader_Done
      simp -implicitDefEqProofs
      refine joinP_go ?_
      simp -implicitDefEqProofs
      have hev : evGet s = none := by simp [evGet, rNums, evCount, hg, hg0, hg1, he1]
      rw [hev]
      exact Ans.rfl' _
  · rw [if_neg he0]
    intro fa fe
    simp -implicitDefEqProofs
    refine Gives.done (by simp) ?_
    rw [unr]
    simp -implicitDefEqProofs
    refine fReader_bad hR s 0 _ _ ?_
    simp -implicitDefEqProofs
    refine Gives.done (by simp) ?_
    rw [unr]
    simp -implicitDefEqProofs
    apply c_field_Reader_Done
    unfold p_field_Reader_Done
    simp -implicitDefEqProofs
    refine joinP_go ?_
    simp -implicitDefEqProofs
    have hev : evGet s = none := by simp [evGet, rNums, evCount, hg, hg0, he0]
    rw [hev]
    exact Ans.rfl' _
theorem event_Get_4 (hR : R.Ok) (s : Bs0) (hs : s.length < 8000000000000000000) (t0 : Int) (hg : gNum s 0 = (4, t0, 0)) {h : AHeap A} {K : AVal → AHeap A → Prop} (hk : K (evTup (evGet s)) h) : Tri Pr R n_event_Get [.str s] h K := by
  refine Tri.fn1 hR _ (evTup_ix _) rfl ?_ hk
  have q := gNum_enc hg
  apply c_event_Get
  unfold p_event_Get
  simp -implicitDefEqProofs
  have hf : (.cells t_field_Reader [.str s, .int .i64 0, .nili] : AObj A) = fRead s 0 .nili := rfl
  rw [hf]
  refine fReader_ok hR s (by omega) 0 (by omega) ?_
  rw [hg]
  dsimp only
  rw [if_pos rfl]
  simp -implicitDefEqProofs
  apply c_event_parts
  unfold p_event_parts
  simp -implicitDefEqProofs [appP, appV, srcOf, cellsAt]
  repeat (first | refine joinP_go ?_ | simp -implicitDefEqProofs [appP, appV, srcOf, cellsAt])
  refine loopP_unr 5 ?_
  rw [unr]
  simp -implicitDefEqProofs
  refine fReader_ok hR s (by omega) t0 (by omega) ?_
  obtain ⟨x0, t1, e0, hg0⟩ : ∃ x t e, gNum s t0 = (x, t, e) := ⟨_, _, _, rfl⟩
  rw [hg0]
  dsimp only
  by_cases he0 : e0 = 0
  · subst he0
    have q0 := gNum_enc hg0
    rw [if_pos rfl]
    simp -implicitDefEqProofs
    refine Gives.done (by simp) ?_
    rw [unr]
    simp -implicitDefEqProofs
    apply c_field_Reader_Done
    unfold p_field_Reader_Done
    simp -implicitDefEqProofs
    refine joinP_go ?_
    by_cases hl : t1 = s.length
    · have hl' : (t1 == (s.length : Int)) = true := by simpa using hl
      simp -implicitDefEqProofs [hl']
      refine event_May_ok hR ⟨4, x0, 0, 0, 0, 0, 0, 0⟩ ?_
      have hev : evGet s = if evMay ⟨4, x0, 0, 0, 0, 0, 0, 0⟩ = true then some ⟨4, x0, 0, 0, 0, 0, 0, 0⟩ else none := by simp [evGet, rNums, evCount, evOf, ev0, hg, hg0, hl]
      cases hm : evMay ⟨4, x0, 0, 0, 0, 0, 0, 0⟩ with
      | true => rw [hm] at hev; simp at hev; simp -implicitDefEqProofs; rw [hev]; exact Ans.rfl' _
      | false => rw [hm] at hev; simp at hev; simp -implicitDefEqProofs; rw [hev]; exact Ans.rfl' _
    · have hl' : (t1 == (s.length : Int)) = false := by simpa using hl
      have hev : evGet s = none := by simp [evGet, rNums, evCount, hg, hg0, hl]
      rw [hev]
      simp -implicitDefEqProofs [hl']
      exact Ans.rfl' _
  · rw [if_neg he0]
    intro fa fe
    simp -implicitDefEqProofs
    refine Gives.done (by simp) ?_
    rw [unr]
    simp -implicitDefEqProofs
    apply c_field_Reader_Done
    unfold p_field_Reader_Done
    simp -implicitDefEqProofs
    refine joinP_go ?_
    simp -implicitDefEqProofs
    have hev : evGet s = none := by simp [evGet, rNums, evCount, hg, hg0, he0]
    rw [hev]
    exact Ans.rfl' _
theorem event_Get_5 (hR : R.Ok) (s : Bs0) (hs : s.length < 8000000000000000000) (t0 : Int) (hg : gNum s 0 = (5, t0, 0)) {h : AHeap A} {K : AVal → AHeap A → Prop} (hk : K (evTup (evGet s)) h) : Tri Pr R n_event_Get [.str s] h K := by
  refine Tri.fn1 hR _ (evTup_ix _) rfl ?_ hk
  have q := gNum_enc hg
  apply c_event_Get
  unfold p_event_Get
  simp -implicitDefEqProofs
  have hf : (.cells t_field_Reader [.str s, .int .i64 0, .nili] : AObj A) = fRead s 0 .nili := rfl
  rw [hf]
  refine fReader_ok hR s (by omega) 0 (by omega) ?_
  rw [hg]
  dsimp only
  rw [if_pos rfl]
  simp -implicitDefEqProofs
  apply c_event_parts
  unfold p_event_parts
  simp -implicitDefEqProofs [appP, appV, srcOf, cellsAt]
  repeat (first | refine joinP_go ?_ | simp -implicitDefEqProofs [appP, appV, srcOf, cellsAt])
  refine loopP_unr 5 ?_
  rw [unr]
  simp -implicitDefEqProofs
  refine fReader_ok hR s (by omega) t0 (by omega) ?_
  obtain ⟨x0, t1, e0, hg0⟩ : ∃ x t e, gNum s t0 = (x, t, e) := ⟨_, _, _, rfl⟩
  rw [hg0]
  dsimp only
  by_cases he0 : e0 = 0
  · subst he0
    have q0 := gNum_enc hg0
    rw [if_pos rfl]
    simp -implicitDefEqProofs
    refine Gives.done (by simp) ?_
    rw [unr]
    simp -implicitDefEqProofs
    refine fReader_ok hR s (by omega) t1 (by omega) ?_
    obtain ⟨x1, t2, e1, hg1⟩ : ∃ x t e, gNum s t1 = (x, t, e) := ⟨_, _, _, rfl⟩
    rw [hg1]
    dsimp only
    by_cases he1 : e1 = 0
    · subst he1
      have q1 := gNum_enc hg1
      rw [if_pos rfl]
      simp -implicitDefEqProofs
      refine Gives.done (by simp) ?_
      rw [unr]
      simp -implicitDefEqProofs
      refine fReader_ok hR s (by omega) t2 (by omega) ?_
      obtain ⟨x2, t3, e2, hg2⟩ : ∃ x t e, gNum s t2 = (x, t, e) := ⟨_, _, _, rfl⟩
      rw [hg2]
      dsimp only
      by_cases he2 : e2 = 0
      · subst he2
        have q2 := gNum_enc hg2
        rw [if_pos rfl]
        simp -implicitDefEqProofs
        refine Gives.done (by simp) ?_
        rw [unr]
        simp -implicitDefEqProofs
        refine fReader_ok hR s (by omega) t3 (by omega) ?_
        obtain ⟨x3, t4, e3, hg3⟩ : ∃ x t e, gNum s t3 = (x, t, e) := ⟨_, _, _, rfl⟩
        rw [hg3]
        dsimp only
        by_cases he3 : e3 = 0
        · subst he3
          have q3 := gNum_enc hg3
          rw [if_pos rfl]
          simp -implicitDefEqProofs
          refine Gives.done (by simp) ?_
          rw [unr]
          simp -implicitDefEqProofs
          apply c_field_Reader_Done
          unfold p_field_Reader_Done
          simp -implicitDefEqProofs
          refine joinP_go ?_
          by_cases hl : t4 = s.length
          · have hl' : (t4 == (s.length : Int)) = true := by simpa using hl
            simp -implicitDefEqProofs [hl']
            refine event_May_ok hR ⟨5, x1, x0, x2, 0, 0, 0, x3⟩ ?_
            have hev : evGet s = if evMay ⟨5, x1, x0, x2, 0, 0, 0, x3⟩ = true then some ⟨5, x1, x0, x2, 0, 0, 0, x3⟩ else none := by simp [evGet, rNums, evCount, evOf, ev0, hg, hg0, hg1, hg2, hg3, hl]
            cases hm : evMay ⟨5, x1, x0, x2, 0, 0, 0, x3⟩ with
            | true => rw [hm] at hev; simp at hev; simp -implicitDefEqProofs; rw [hev]; exact Ans.rfl' _
            | false => rw [hm] at hev; simp at hev; simp -implicitDefEqProofs; rw [hev]; exact Ans.rfl' _
          · have hl' : (t4 == (s.length : Int)) = false := by simpa using hl
            have hev : evGet s = none := by simp [evGet, rNums, evCount, hg, hg0, hg1, hg2, hg3, hl]
            rw [hev]
            simp -implicitDefEqProofs [hl']
            exact Ans.rfl' _
        · rw [if_neg he3]
          intro fa fe
          simp -implicitDefEqProofs
          refine Gives.done (by simp) ?_
          rw [unr]
          simp -implicitDefEqProofs
          apply c_field_Reader_Done
          unfold p_field_Reader_Done
          simp -implicitDefEqProofs
          refine joinP_go ?_
          simp -implicitDefEqProofs
          have hev : evGet s = none := by simp [evGet, rNums, evCount, hg, hg0, hg1, hg2, hg3, he3]
          rw [hev]
          exact Ans.rfl' _
      · rw [if_neg he2]
        intro fa fe
        simp -implicitDefEqProofs
        refine Gives.done (by simp) ?_
        rw [unr]
        simp -implicitDefEqProofs
        refine fReader_bad hR s 0 _ _ ?_
        simp -implicitDefEqProofs
        refine Gives.done (by simp) ?_
        rw [unr]
        simp -implicitDefEqProofs
        apply c_field_Reader_Done
        unfold p_field_Reader_Done
        simp -implicitDefEqProofs
        refine joinP_go ?_
        simp -implicitDefEqProofs
        have hev : evGet s = none := by simp [evGet, rNums, evCount, hg, hg0, hg1, hg2, he2]
        rw [hev]
        exact Ans.rfl' _
    · rw [if_neg he1]
      intro fa fe
      simp -implicitDefEqProofs
      refine Gives.done (by simp) ?_
      rw [unr]
      simp -implicitDefEqProofs
      refine fReader_bad hR s 0 _ _ ?_
      simp -implicitDefEqProofs
      refine Gives.done (by simp) ?_
      rw [unr]
      simp -implicitDefEqProofs
      refine fReader_bad hR s 0 _ _ ?_
      simp -implicitDefEqProofs
      refine Gives.done (by simp) ?_
      rw [unr]
      simp -implicitDefEqProofs
      apply c_field_Reader_Done
      unfold p_field_Reader_Done
      simp -implicitDefEqProofs
      refine joinP_go ?_
      simp -implicitDefEqProofs
      have hev : evGet s = none := by simp [evGet, rNums, evCount, hg, hg0, hg1, he1]
      rw [hev]
      exact Ans.rfl' _
  · rw [if_neg he0]
    intro fa fe
    simp -implicitDefEqProofs
    refine Gives.done (by simp) ?_
    rw [unr]
    simp -implicitDefEqProofs
    refine fReader_bad hR s 0 _ _ ?_
    simp -implicitDefEqProofs
    refine Gives.done (by simp) ?_
    rw [unr]
    simp -implicitDefEqProofs
    refine fReader_bad hR s 0 _ _ ?_
    simp -implicitDefEqProofs
    refine Gives.done (by simp) ?_
    rw [unr]
    simp -implicitDefEqProofs
    refine fReader_bad hR s 0 _ _ ?_
    simp -implicitDefEqProofs
    refine Gives.done (by simp) ?_
    rw [unr]
    simp -implicitDefEqProofs
    apply c_field_Reader_Done
    unfold p_field_Reader_Done
    simp -implicitDefEqProofs
    refine joinP_go ?_
    simp -implicitDefEqProofs
    have hev : evGet s = none := by simp [evGet, rNums, evCount, hg, hg0, he0]
    rw [hev]
    exact Ans.rfl' _
theorem event_Get_6 (hR : R.Ok) (s : Bs0) (hs : s.length < 8000000000000000000) (t0 : Int) (hg : gNum s 0 = (6, t0, 0)) {h : AHeap A} {K : AVal → AHeap A → Prop} (hk : K (evTup (evGet s)) h) : Tri Pr R n_event_Get [.str s] h K := by
  refine Tri.fn1 hR _ (evTup_ix _) rfl ?_ hk
  have q := gNum_enc hg
  apply c_event_Get
  unfold p_event_Get
  simp -implicitDefEqProofs
  have hf : (.cells t_field_Reader [.str s, .int .i64 0, .nili] : AObj A) = fRead s 0 .nili := rfl
  rw [hf]
  refine fReader_ok hR s (by omega) 0 (by omega) ?_
  rw [hg]
  dsimp only
  rw [if_pos rfl]
  simp -implicitDefEqProofs
  apply c_event_parts
  unfold p_event_parts
  simp -implicitDefEqProofs [appP, appV, srcOf, cellsAt]
  repeat (first | refine joinP_go ?_ | simp -implicitDefEqProofs [appP, appV, srcOf, cellsAt])
  refine loopP_unr 5 ?_
  rw [unr]
  simp -implicitDefEqProofs
  refine fReader_ok hR s (by omega) t0 (by omega) ?_
  obtain ⟨x0, t1, e0, hg0⟩ : ∃ x t e, gNum s t0 = (x, t, e) := ⟨_, _, _, rfl⟩
  rw [hg0]
  dsimp only
  by_cases he0 : e0 = 0
  · subst he0
    have q0 := gNum_enc hg0
    rw [if_pos rfl]
    simp -implicitDefEqProofs
    refine Gives.done (by simp) ?_
    rw [unr]
    simp -implicitDefEqProofs
    refine fReader_ok hR s (by omega) t1 (by omega) ?_
    obtain ⟨x1, t2, e1, hg1⟩ : ∃ x t e, gNum s t1 = (x, t, e) := ⟨_, _, _, rfl⟩
    rw [hg1]
    dsimp only
    by_cases he1 : e1 = 0
    · subst he1
      have q1 := gNum_enc hg1
      rw [if_pos rfl]
      simp -implicitDefEqProofs
      refine Gives.done (by simp) ?_
      rw [unr]
      simp -implicitDefEqProofs
      refine fReader_ok hR s (by omega) t2 (by omega) ?_
      obtain ⟨x2, t3, e2, hg2⟩ : ∃ x t e, gNum s t2 = (x, t, e) := ⟨_, _, _, rfl⟩
      rw [hg2]
      dsimp only
      by_cases he2 : e2 = 0
      · subst he2
        have q2 := gNum_enc hg2
        rw [if_pos rfl]
        simp -implicitDefEqProofs
        refine Gives.done (by simp) ?_
        rw [unr]
        simp -implicitDefEqProofs
        refine fReader_ok hR s (by omega) t3 (by omega) ?_
        obtain ⟨x3, t4, e3, hg3⟩ : ∃ x t e, gNum s t3 = (x, t, e) := ⟨_, _, _, rfl⟩
        rw [hg3]
        dsimp only
        by_cases he3 : e3 = 0
        · subst he3
          have q3 := gNum_enc hg3
          rw [if_pos rfl]
          simp -implicitDefEqProofs
          refine Gives.done (by simp) ?_
          rw [unr]
          simp -implicitDefEqProofs
          apply c_field_Reader_Done
          unfold p_field_Reader_Done
          simp -implicitDefEqProofs
          refine joinP_go ?_
          by_cases hl : t4 = s.length
          · have hl' : (t4 == (s.length : Int)) = true := by simpa using hl
            simp -implicitDefEqProofs [hl']
            refine event_May_ok hR ⟨6, 0, x0, 0, x1, x2, 0, x3⟩ ?_
            have hev : evGet s = if evMay ⟨6, 0, x0, 0, x1, x2, 0, x3⟩ = true then some ⟨6, 0, x0, 0, x1, x2, 0, x3⟩ else none := by simp [evGet, rNums, evCount, evOf, ev0, hg, hg0, hg1, hg2, hg3, hl]
            cases hm : evMay ⟨6, 0, x0, 0, x1, x2, 0, x3⟩ with
            | true => rw [hm] at hev; simp at hev; simp -implicitDefEqProofs; rw [hev]; exact Ans.rfl' _
            | false => rw [hm] at hev; simp at hev; simp -implicitDefEqProofs; rw [hev]; exact Ans.rfl' _
          · have hl' : (t4 == (s.length : Int)) = false := by simpa using hl
            have hev : evGet s = none := by simp [evGet, rNums, evCount, hg, hg0, hg1, hg2, hg3, hl]
            rw [hev]
            simp -implicitDefEqProofs [hl']
            exact Ans.rfl' _
        · rw [if_neg he3]
          intro fa fe
          simp -implicitDefEqProofs
          refine Gives.done (by simp) ?_
          rw [unr]
          simp -implicitDefEqProofs
          apply c_field_Reader_Done
          unfold p_field_Reader_Done
          simp -implicitDefEqProofs
          refine joinP_go ?_
          simp -implicitDefEqProofs
          have hev : evGet s = none := by simp [evGet, rNums, evCount, hg, hg0, hg1, hg2, hg3, he3]
          rw [hev]
          exact Ans.rfl' _
      · rw [if_neg he2]
        intro fa fe
        simp -implicitDefEqProofs
        refine Gives.done (by simp) ?_
        rw [unr]
        simp -implicitDefEqProofs
        refine fReader_bad hR s 0 _ _ ?_
        simp -implicitDefEqProofs
        refine Gives.done (by simp) ?_
        rw [unr]
        simp -implicitDefEqProofs
        apply c_field_Reader_Done
        unfold p_field_Reader_Done
        simp -implicitDefEqProofs
        refine joinP_go ?_
        simp -implicitDefEqProofs
        have hev : evGet s = none := by simp [evGet, rNums, evCount, hg, hg0, hg1, hg2, he2]
        rw [hev]
        exact Ans.rfl' _
    · rw [if_neg he1]
      intro fa fe
      simp -implicitDefEqProofs
      refine Gives.done (by simp) ?_
      rw [unr]
      simp -implicitDefEqProofs
      refine fReader_bad hR s 0 _ _ ?_
      simp -implicitDefEqProofs
      refine Gives.done (by simp) ?_
      rw [unr]
      simp -implicitDefEqProofs
      refine fReader_bad hR s 0 _ _ ?_
      simp -implicitDefEqProofs
      refine Gives.done (by simp) ?_
      rw [unr]
      simp -implicitDefEqProofs
      apply c_field_Reader_Done
      unfold p_field_Reader_Done
      simp -implicitDefEqProofs
      refine joinP_go ?_
      simp -implicitDefEqProofs
      have hev : evGet s = none := by simp [evGet, rNums, evCount, hg, hg0, hg1, he1]
      rw [hev]
      exact Ans.rfl' _
  · rw [if_neg he0]
    intro fa fe
    simp -implicitDefEqProofs
    refine Gives.done (by simp) ?_
    rw [unr]
    simp -implicitDefEqProofs
    refine fReader_bad hR s 0 _ _ ?_
    simp -implicitDefEqProofs
    refine Gives.done (by simp) ?_
    rw [unr]
    simp -implicitDefEqProofs
    refine fReader_bad hR s 0 _ _ ?_
    simp -implicitDefEqProofs
    refine Gives.done (by simp) ?_
    rw [unr]
    simp -implicitDefEqProofs
    refine fReader_bad hR s 0 _ _ ?_
    simp -implicitDefEqProofs
    refine Gives.done (by simp) ?_
    rw [unr]
    simp -implicitDefEqProofs
    apply c_field_Reader_Done
    unfold p_field_Reader_Done
    simp -implicitDefEqProofs
    refine joinP_go ?_
    simp -implicitDefEqProofs
    have hev : evGet s = none := by simp [evGet, rNums, evCount, hg, hg0, he0]
    rw [hev]
    exact Ans.rfl' _
theorem event_Get_7 (hR : R.Ok) (s : Bs0) (hs : s.length < 8000000000000000000) (t0 : Int) (hg : gNum s 0 = (7, t0, 0)) {h : AHeap A} {K : AVal → AHeap A → Prop} (hk : K (evTup (evGet s)) h) : Tri Pr R n_event_Get [.str s] h K := by
  refine Tri.fn1 hR _ (evTup_ix _) rfl ?_ hk
  have q := gNum_enc hg
  apply c_event_Get
  unfold p_event_Get
  simp -implicitDefEqProofs
  have hf : (.cells t_field_Reader [.str s, .int .i64 0, .nili] : AObj A) = fRead s 0 .nili := rfl
  rw [hf]
  refine fReader_ok hR s (by omega) 0 (by omega) ?_
  rw [hg]
  dsimp only
  rw [if_pos rfl]
  simp -implicitDefEqProofs
  apply c_event_parts
  unfold p_event_parts
  simp -implicitDefEqProofs [appP, appV, srcOf, cellsAt]
  repeat (first | refine joinP_go ?_ | simp -implicitDefEqProofs [appP, appV, srcOf, cellsAt])
  refine loopP_unr 5 ?_
  rw [unr]
  simp -implicitDefEqProofs
  refine fReader_ok hR s (by omega) t0 (by omega) ?_
  obtain ⟨x0, t1, e0, hg0⟩ : ∃ x t e, gNum s t0 = (x, t, e) := ⟨_, _, _, rfl⟩
  rw [hg0]
  dsimp only
  by_cases he0 : e0 = 0
  · subst he0
    have q0 := gNum_enc hg0
    rw [if_pos rfl]
    simp -implicitDefEqProofs
    refine Gives.done (by simp) ?_
    rw [unr]
    simp -implicitDefEqProofs
    apply c_field_Reader_Done
    unfold p_field_Reader_Done
    simp -implicitDefEqProofs
    refine joinP_go ?_
    by_cases hl : t1 = s.length
    · have hl' : (t1 == (s.length : Int)) = true := by simpa using hl
      simp -implicitDefEqProofs [hl']
      refine event_May_ok hR ⟨7, x0, 0, 0, 0, 0, 0, 0⟩ ?_
      have hev : evGet s = if evMay ⟨7, x0, 0, 0, 0, 0, 0, 0⟩ = true then some ⟨7, x0, 0, 0, 0, 0, 0, 0⟩ else none := by simp [evGet, rNums, evCount, evOf, ev0, hg, hg0, hl]
      cases hm : evMay ⟨7, x0, 0, 0, 0, 0, 0, 0⟩ with
      | true => rw [hm] at hev; simp at hev; simp -implicitDefEqProofs; rw [hev]; exact Ans.rfl' _
      | false => rw [hm] at hev; simp at hev; simp -implicitDefEqProofs; rw [hev]; exact Ans.rfl' _
    · have hl' : (t1 == (s.length : Int)) = false := by simpa using hl
      have hev : evGet s = none := by simp [evGet, rNums, evCount, hg, hg0, hl]
      rw [hev]
      simp -implicitDefEqProofs [hl']
      exact Ans.rfl' _
  · rw [if_neg he0]
    intro fa fe
    simp -implicitDefEqProofs
    refine Gives.done (by simp) ?_
    rw [unr]
    simp -implicitDefEqProofs
    apply c_field_Reader_Done
    unfold p_field_Reader_Done
    simp -implicitDefEqProofs
    refine joinP_go ?_
    simp -implicitDefEqProofs
    have hev : evGet s = none := by simp [evGet, rNums, evCount, hg, hg0, he0]
    rw [hev]
    exact Ans.rfl' _
theorem event_Get_8 (hR : R.Ok) (s : Bs0) (hs : s.length < 8000000000000000000) (t0 : Int) (hg : gNum s 0 = (8, t0, 0)) {h : AHeap A} {K : AVal → AHeap A → Prop} (hk : K (evTup (evGet s)) h) : Tri Pr R n_event_Get [.str s] h K := by
  refine Tri.fn1 hR _ (evTup_ix _) rfl ?_ hk
  have q := gNum_enc hg
  apply c_event_Get
  unfold p_event_Get
  simp -implicitDefEqProofs
  have hf : (.cells t_field_Reader [.str s, .int .i64 0, .nili] : AObj A) = fRead s 0 .nili := rfl
  rw [hf]
  refine fReader_ok hR s (by omega) 0 (by omega) ?_
  rw [hg]
  dsimp only
  rw [if_pos rfl]
  simp -implicitDefEqProofs
  apply c_event_parts
  unfold p_event_parts
  simp -implicitDefEqProofs [appP, appV, srcOf, cellsAt]
  repeat (first | refine joinP_go ?_ | simp -implicitDefEqProofs [appP, appV, srcOf, cellsAt])
  refine loopP_unr 5 ?_
  rw [unr]
  simp -implicitDefEqProofs
  apply c_field_Reader_Done
  unfold p_field_Reader_Done
  simp -implicitDefEqProofs
  refine joinP_go ?_
  by_cases hl : t0 = s.length
  · have hl' : (t0 == (s.length : Int)) = true := by simpa using hl
    simp -implicitDefEqProofs [hl']
    refine event_May_ok hR ⟨8, 0, 0, 0, 0, 0, 0, 0⟩ ?_
    have hev : evGet s = if evMay ⟨8, 0, 0, 0, 0, 0, 0, 0⟩ = true then some ⟨8, 0, 0, 0, 0, 0, 0, 0⟩ else none := by simp [evGet, rNums, evCount, evOf, ev0, hg, hl]
    cases hm : evMay ⟨8, 0, 0, 0, 0, 0, 0, 0⟩ with
    | true => rw [hm] at hev; simp at hev; simp -implicitDefEqProofs; rw [hev]; exact Ans.rfl' _
    | false => rw [hm] at hev; simp at hev; simp -implicitDefEqProofs; rw [hev]; exact Ans.rfl' _
  · have hl' : (t0 == (s.length : Int)) = false := by simpa using hl
    have hev : evGet s = none := by simp [evGet, rNums, evCount, hg, hl]
    rw [hev]
    simp -implicitDefEqProofs [hl']
    exact Ans.rfl' _
theorem event_Get_9 (hR : R.Ok) (s : Bs0) (hs : s.length < 8000000000000000000) (t0 : Int) (hg : gNum s 0 = (9, t0, 0)) {h : AHeap A} {K : AVal → AHeap A → Prop} (hk : K (evTup (evGet s)) h) : Tri Pr R n_event_Get [.str s] h K := by
  refine Tri.fn1 hR _ (evTup_ix _) rfl ?_ hk
  have q := gNum_enc hg
  apply c_event_Get
  unfold p_event_Get
  simp -implicitDefEqProofs
  have hf : (.cells t_field_Reader [.str s, .int .i64 0, .nili] : AObj A) = fRead s 0 .nili := rfl
  rw [hf]
  refine fReader_ok hR s (by omega) 0 (by omega) ?_
  rw [hg]
  dsimp only
  rw [if_pos rfl]
  simp -implicitDefEqProofs
  apply c_event_parts
  unfold p_event_parts
  simp -implicitDefEqProofs [appP, appV, srcOf, cellsAt]
  repeat (first | refine joinP_go ?_ | simp -implicitDefEqProofs [appP, appV, srcOf, cellsAt])
  refine loopP_unr 5 ?_
  rw [unr]
  simp -implicitDefEqProofs
  refine fReader_ok hR s (by omega) t0 (by omega) ?_
  obtain ⟨x0, t1, e0, hg0⟩ : ∃ x t e, gNum s t0 = (x, t, e) := ⟨_, _, _, rfl⟩
  rw [hg0]
  dsimp only
  by_cases he0 : e0 = 0
  · subst he0
    have q0 := gNum_enc hg0
    rw [if_pos rfl]
    simp -implicitDefEqProofs
    refine Gives.done (by simp) ?_
    rw [unr]
    simp -implicitDefEqProofs
    apply c_field_Reader_Done
    unfold p_field_Reader_Done
    simp -implicitDefEqProofs
    refine joinP_go ?_
    by_cases hl : t1 = s.length
    · have hl' : (t1 == (s.length : Int)) = true := by simpa using hl
      simp -implicitDefEqProofs [hl']
      refine event_May_ok hR ⟨9, 0, x0, 0, 0, 0, 0, 0⟩ ?_
      have hev : evGet s = if evMay ⟨9, 0, x0, 0, 0, 0, 0, 0⟩ = true then some ⟨9, 0, x0, 0, 0, 0, 0, 0⟩ else none := by simp [evGet, rNums, evCount, evOf, ev0, hg, hg0, hl]
      cases hm : evMay ⟨9, 0, x0, 0, 0, 0, 0, 0⟩ with
      | true => rw [hm] at hev; simp at hev; simp -implicitDefEqProofs; rw [hev]; exact Ans.rfl' _
      | false => rw [hm] at hev; simp at hev; simp -implicitDefEqProofs; rw [hev]; exact Ans.rfl' _
    · have hl' : (t1 == (s.length : Int)) = false := by simpa using hl
      have hev : evGet s = none := by simp [evGet, rNums, evCount, hg, hg0, hl]
      rw [hev]
      simp -implicitDefEqProofs [hl']
      exact Ans.rfl' _
  · rw [if_neg he0]
    intro fa fe
    simp -implicitDefEqProofs
    refine Gives.done (by simp) ?_
    rw [unr]
    simp -implicitDefEqProofs
    apply c_field_Reader_Done
    unfold p_field_Reader_Done
    simp -implicitDefEqProofs
    refine joinP_go ?_
    simp -implicitDefEqProofs
    have hev : evGet s = none := by simp [evGet, rNums, evCount, hg, hg0, he0]
    rw [hev]
    exact Ans.rfl' _
end Go.AI
