/- The document's events are written, are read (printed by gen/event_gen4.py). -/
import Derived.Test.YtkipdpamkchnoaaSpEvent3
set_option linter.all false
namespace Go.AI
variable {A : Type} {R : Adts A}
theorem ref1_PutEvent_0 (hR : R.Ok) (u s ad a b c t : Int) (hm : evMay ⟨0, u, s, ad, a, b, c, t⟩ = true) {h : AHeap A} {K : AVal → AHeap A → Prop} (hk : K (.tup [.str (evPut ⟨0, u, s, ad, a, b, c, t⟩), .int .i64 0]) h) : Tri Pr R n_ref1_PutEvent [.agg (Ev.row ⟨0, u, s, ad, a, b, c, t⟩)] h K := by
  refine Tri.fn1 hR _ rfl rfl ?_ hk
  apply c_ref1_PutEvent
  unfold p_ref1_PutEvent
  simp -implicitDefEqProofs [Ev.row]
  refine ref1_EventMay_ok hR ⟨0, u, s, ad, a, b, c, t⟩ ?_
  rw [hm]
  simp -implicitDefEqProofs
  have l0 := nAll_len [0]
  have l1 := nAll_len [t]
  simp only [List.length_cons, List.length_nil] at l0 l1
  have g : (nAll [0]).length + (nAll [t]).length < 9223372036854775808 := by omega
  refine ref1_Nums_ok hR [0] (by simp) true (t := t_int) (by simp) ?_
  repeat (first | refine joinP_go ?_ | simp -implicitDefEqProofs)
  refine ref1_Nums_ok hR [t] (by simp) true (t := t_int) (by simp) ?_
  simp -implicitDefEqProofs [g]
  exact Ans.of (by simp [evPut, nAll, evParts])
theorem ref1_PutEvent_1 (hR : R.Ok) (u s ad a b c t : Int) (hm : evMay ⟨1, u, s, ad, a, b, c, t⟩ = true) {h : AHeap A} {K : AVal → AHeap A → Prop} (hk : K (.tup [.str (evPut ⟨1, u, s, ad, a, b, c, t⟩), .int .i64 0]) h) : Tri Pr R n_ref1_PutEvent [.agg (Ev.row ⟨1, u, s, ad, a, b, c, t⟩)] h K := by
  refine Tri.fn1 hR _ rfl rfl ?_ hk
  apply c_ref1_PutEvent
  unfold p_ref1_PutEvent
  simp -implicitDefEqProofs [Ev.row]
  refine ref1_EventMay_ok hR ⟨1, u, s, ad, a, b, c, t⟩ ?_
  rw [hm]
  simp -implicitDefEqProofs
  have l0 := nAll_len [1]
  have l1 := nAll_len [u, a, b, c]
  simp only [List.length_cons, List.length_nil] at l0 l1
  have g : (nAll [1]).length + (nAll [u, a, b, c]).length < 9223372036854775808 := by omega
  refine ref1_Nums_ok hR [1] (by simp) true (t := t_int) (by simp) ?_
  repeat (first | refine joinP_go ?_ | simp -implicitDefEqProofs)
  refine ref1_Nums_ok hR [u, a, b, c] (by simp) true (t := t_int) (by simp) ?_
  simp -implicitDefEqProofs [g]
  exact Ans.of (by simp [evPut, nAll, evParts])
theorem ref1_PutEvent_2 (hR : R.Ok) (u s ad a b c t : Int) (hm : evMay ⟨2, u, s, ad, a, b, c, t⟩ = true) {h : AHeap A} {K : AVal → AHeap A → Prop} (hk : K (.tup [.str (evPut ⟨2, u, s, ad, a, b, c, t⟩), .int .i64 0]) h) : Tri Pr R n_ref1_PutEvent [.agg (Ev.row ⟨2, u, s, ad, a, b, c, t⟩)] h K := by
  refine Tri.fn1 hR _ rfl rfl ?_ hk
  apply c_ref1_PutEvent
  unfold p_ref1_PutEvent
  simp -implicitDefEqProofs [Ev.row]
  refine ref1_EventMay_ok hR ⟨2, u, s, ad, a, b, c, t⟩ ?_
  rw [hm]
  simp -implicitDefEqProofs
  have l0 := nAll_len [2]
  have l1 := nAll_len [u, t]
  simp only [List.length_cons, List.length_nil] at l0 l1
  have g : (nAll [2]).length + (nAll [u, t]).length < 9223372036854775808 := by omega
  refine ref1_Nums_ok hR [2] (by simp) true (t := t_int) (by simp) ?_
  repeat (first | refine joinP_go ?_ | simp -implicitDefEqProofs)
  refine ref1_Nums_ok hR [u, t] (by simp) true (t := t_int) (by simp) ?_
  simp -implicitDefEqProofs [g]
  exact Ans.of (by simp [evPut, nAll, evParts])
theorem ref1_PutEvent_3 (hR : R.Ok) (u s ad a b c t : Int) (hm : evMay ⟨3, u, s, ad, a, b, c, t⟩ = true) {h : AHeap A} {K : AVal → AHeap A → Prop} (hk : K (.tup [.str (evPut ⟨3, u, s, ad, a, b, c, t⟩), .int .i64 0]) h) : Tri Pr R n_ref1_PutEvent [.agg (Ev.row ⟨3, u, s, ad, a, b, c, t⟩)] h K := by
  refine Tri.fn1 hR _ rfl rfl ?_ hk
  apply c_ref1_PutEvent
  unfold p_ref1_PutEvent
  simp -implicitDefEqProofs [Ev.row]
  refine ref1_EventMay_ok hR ⟨3, u, s, ad, a, b, c, t⟩ ?_
  rw [hm]
  simp -implicitDefEqProofs
  have l0 := nAll_len [3]
  have l1 := nAll_len [u, a]
  simp only [List.length_cons, List.length_nil] at l0 l1
  have g : (nAll [3]).length + (nAll [u, a]).length < 9223372036854775808 := by omega
  refine ref1_Nums_ok hR [3] (by simp) true (t := t_int) (by simp) ?_
  repeat (first | refine joinP_go ?_ | simp -implicitDefEqProofs)
  refine ref1_Nums_ok hR [u, a] (by simp) true (t := t_int) (by simp) ?_
  simp -implicitDefEqProofs [g]
  exact Ans.of (by simp [evPut, nAll, evParts])
theorem ref1_PutEvent_4 (hR : R.Ok) (u s ad a b c t : Int) (hm : evMay ⟨4, u, s, ad, a, b, c, t⟩ = true) {h : AHeap A} {K : AVal → AHeap A → Prop} (hk : K (.tup [.str (evPut ⟨4, u, s, ad, a, b, c, t⟩), .int .i64 0]) h) : Tri Pr R n_ref1_PutEvent [.agg (Ev.row ⟨4, u, s, ad, a, b, c, t⟩)] h K := by
  refine Tri.fn1 hR _ rfl rfl ?_ hk
  apply c_ref1_PutEvent
  unfold p_ref1_PutEvent
  simp -implicitDefEqProofs [Ev.row]
  refine ref1_EventMay_ok hR ⟨4, u, s, ad, a, b, c, t⟩ ?_
  rw [hm]
  simp -implicitDefEqProofs
  have l0 := nAll_len [4]
  have l1 := nAll_len [u]
  simp only [List.length_cons, List.length_nil] at l0 l1
  have g : (nAll [4]).length + (nAll [u]).length < 9223372036854775808 := by omega
  refine ref1_Nums_ok hR [4] (by simp) true (t := t_int) (by simp) ?_
  repeat (first | refine joinP_go ?_ | simp -implicitDefEqProofs)
  refine ref1_Nums_ok hR [u] (by simp) true (t := t_int) (by simp) ?_
  simp -implicitDefEqProofs [g]
  exact Ans.of (by simp [evPut, nAll, evParts])
theorem ref1_PutEvent_5 (hR : R.Ok) (u s ad a b c t : Int) (hm : evMay ⟨5, u, s, ad, a, b, c, t⟩ = true) {h : AHeap A} {K : AVal → AHeap A → Prop} (hk : K (.tup [.str (evPut ⟨5, u, s, ad, a, b, c, t⟩), .int .i64 0]) h) : Tri Pr R n_ref1_PutEvent [.agg (Ev.row ⟨5, u, s, ad, a, b, c, t⟩)] h K := by
  refine Tri.fn1 hR _ rfl rfl ?_ hk
  apply c_ref1_PutEvent
  unfold p_ref1_PutEvent
  simp -implicitDefEqProofs [Ev.row]
  refine ref1_EventMay_ok hR ⟨5, u, s, ad, a, b, c, t⟩ ?_
  rw [hm]
  simp -implicitDefEqProofs
  have l0 := nAll_len [5]
  have l1 := nAll_len [s, u, ad, t]
  simp only [List.length_cons, List.length_nil] at l0 l1
  have g : (nAll [5]).length + (nAll [s, u, ad, t]).length < 9223372036854775808 := by omega
  refine ref1_Nums_ok hR [5] (by simp) true (t := t_int) (by simp) ?_
  repeat (first | refine joinP_go ?_ | simp -implicitDefEqProofs)
  refine ref1_Nums_ok hR [s, u, ad, t] (by simp) true (t := t_int) (by simp) ?_
  simp -implicitDefEqProofs [g]
  exact Ans.of (by simp [evPut, nAll, evParts])
theorem ref1_PutEvent_6 (hR : R.Ok) (u s ad a b c t : Int) (hm : evMay ⟨6, u, s, ad, a, b, c, t⟩ = true) {h : AHeap A} {K : AVal → AHeap A → Prop} (hk : K (.tup [.str (evPut ⟨6, u, s, ad, a, b, c, t⟩), .int .i64 0]) h) : Tri Pr R n_ref1_PutEvent [.agg (Ev.row ⟨6, u, s, ad, a, b, c, t⟩)] h K := by
  refine Tri.fn1 hR _ rfl rfl ?_ hk
  apply c_ref1_PutEvent
  unfold p_ref1_PutEvent
  simp -implicitDefEqProofs [Ev.row]
  refine ref1_EventMay_ok hR ⟨6, u, s, ad, a, b, c, t⟩ ?_
  rw [hm]
  simp -implicitDefEqProofs
  have l0 := nAll_len [6]
  have l1 := nAll_len [s, a, b, t]
  simp only [List.length_cons, List.length_nil] at l0 l1
  have g : (nAll [6]).length + (nAll [s, a, b, t]).length < 9223372036854775808 := by omega
  refine ref1_Nums_ok hR [6] (by simp) true (t := t_int) (by simp) ?_
  repeat (first | refine joinP_go ?_ | simp -implicitDefEqProofs)
  refine ref1_Nums_ok hR [s, a, b, t] (by simp) true (t := t_int) (by simp) ?_
  simp -implicitDefEqProofs [g]
  exact Ans.of (by simp [evPut, nAll, evParts])
theorem ref1_PutEvent_7 (hR : R.Ok) (u s ad a b c t : Int) (hm : evMay ⟨7, u, s, ad, a, b, c, t⟩ = true) {h : AHeap A} {K : AVal → AHeap A → Prop} (hk : K (.tup [.str (evPut ⟨7, u, s, ad, a, b, c, t⟩), .int .i64 0]) h) : Tri Pr R n_ref1_PutEvent [.agg (Ev.row ⟨7, u, s, ad, a, b, c, t⟩)] h K := by
  refine Tri.fn1 hR _ rfl rfl ?_ hk
  apply c_ref1_PutEvent
  unfold p_ref1_PutEvent
  simp -implicitDefEqProofs [Ev.row]
  refine ref1_EventMay_ok hR ⟨7, u, s, ad, a, b, c, t⟩ ?_
  rw [hm]
  simp -implicitDefEqProofs
  have l0 := nAll_len [7]
  have l1 := nAll_len [u]
  simp only [List.length_cons, List.length_nil] at l0 l1
  have g : (nAll [7]).length + (nAll [u]).length < 9223372036854775808 := by omega
  refine ref1_Nums_ok hR [7] (by simp) true (t := t_int) (by simp) ?_
  repeat (first | refine joinP_go ?_ | simp -implicitDefEqProofs)
  refine ref1_Nums_ok hR [u] (by simp) true (t := t_int) (by simp) ?_
  simp -implicitDefEqProofs [g]
  exact Ans.of (by simp [evPut, nAll, evParts])
theorem ref1_PutEvent_8 (hR : R.Ok) (u s ad a b c t : Int) (hm : evMay ⟨8, u, s, ad, a, b, c, t⟩ = true) {h : AHeap A} {K : AVal → AHeap A → Prop} (hk : K (.tup [.str (evPut ⟨8, u, s, ad, a, b, c, t⟩), .int .i64 0]) h) : Tri Pr R n_ref1_PutEvent [.agg (Ev.row ⟨8, u, s, ad, a, b, c, t⟩)] h K := by
  refine Tri.fn1 hR _ rfl rfl ?_ hk
  apply c_ref1_PutEvent
  unfold p_ref1_PutEvent
  simp -implicitDefEqProofs [Ev.row]
  refine ref1_EventMay_ok hR ⟨8, u, s, ad, a, b, c, t⟩ ?_
  rw [hm]
  simp -implicitDefEqProofs
  refine ref1_Nums_ok hR [8] (by simp) true (t := t_int) (by simp) ?_
  repeat (first | refine joinP_go ?_ | simp -implicitDefEqProofs)
  exact Ans.of (by simp [evPut, nAll, evParts])
theorem ref1_PutEvent_9 (hR : R.Ok) (u s ad a b c t : Int) (hm : evMay ⟨9, u, s, ad, a, b, c, t⟩ = true) {h : AHeap A} {K : AVal → AHeap A → Prop} (hk : K (.tup [.str (evPut ⟨9, u, s, ad, a, b, c, t⟩), .int .i64 0]) h) : Tri Pr R n_ref1_PutEvent [.agg (Ev.row ⟨9, u, s, ad, a, b, c, t⟩)] h K := by
  refine Tri.fn1 hR _ rfl rfl ?_ hk
  apply c_ref1_PutEvent
  unfold p_ref1_PutEvent
  simp -implicitDefEqProofs [Ev.row]
  refine ref1_EventMay_ok hR ⟨9, u, s, ad, a, b, c, t⟩ ?_
  rw [hm]
  simp -implicitDefEqProofs
  have l0 := nAll_len [9]
  have l1 := nAll_len [s]
  simp only [List.length_cons, List.length_nil] at l0 l1
  have g : (nAll [9]).length + (nAll [s]).length < 9223372036854775808 := by omega
  refine ref1_Nums_ok hR [9] (by simp) true (t := t_int) (by simp) ?_
  repeat (first | refine joinP_go ?_ | simp -implicitDefEqProofs)
  refine ref1_Nums_ok hR [s] (by simp) true (t := t_int) (by simp) ?_
  simp -implicitDefEqProofs [g]
  exact Ans.of (by simp [evPut, nAll, evParts])
theorem ref1_PutEvent_ok (hR : R.Ok) (e : Ev) {h : AHeap A} {K : AVal → AHeap A → Prop} (hk : if evMay e = true then K (.tup [.str (evPut e), .int .i64 0]) h else K (.tup [.str [], .int .i64 700]) h) : Tri Pr R n_ref1_PutEvent [.agg e.row] h K := by
  cases hm : evMay e with
  | false =>
    rw [hm] at hk
    simp at hk
    refine Tri.fn1 hR _ rfl rfl ?_ hk
    obtain ⟨k, u, s, ad, a, b, c, t⟩ := e
    apply c_ref1_PutEvent
    unfold p_ref1_PutEvent
    simp -implicitDefEqProofs [Ev.row]
    refine ref1_EventMay_ok hR ⟨k, u, s, ad, a, b, c, t⟩ ?_
    rw [hm]
    simp -implicitDefEqProofs
    exact Ans.rfl' _
  | true =>
    rw [if_pos hm] at hk
    have hc := evMay_kind hm
    obtain ⟨k, u, s, ad, a, b, c, t⟩ := e
    simp only at hc
    have hc2 : k = 0 ∨ k = 1 ∨ k = 2 ∨ k = 3 ∨ k = 4 ∨ k = 5 ∨ k = 6 ∨ k = 7 ∨ k = 8 ∨ k = 9 := by omega
    rcases hc2 with rfl | rfl | rfl | rfl | rfl | rfl | rfl | rfl | rfl | rfl
    · exact ref1_PutEvent_0 hR u s ad a b c t hm hk
    · exact ref1_PutEvent_1 hR u s ad a b c t hm hk
    · exact ref1_PutEvent_2 hR u s ad a b c t hm hk
    · exact ref1_PutEvent_3 hR u s ad a b c t hm hk
    · exact ref1_PutEvent_4 hR u s ad a b c t hm hk
    · exact ref1_PutEvent_5 hR u s ad a b c t hm hk
    · exact ref1_PutEvent_6 hR u s ad a b c t hm hk
    · exact ref1_PutEvent_7 hR u s ad a b c t hm hk
    · exact ref1_PutEvent_8 hR u s ad a b c t hm hk
    · exact ref1_PutEvent_9 hR u s ad a b c t hm hk
theorem ref1_GetEvent_0 (hR : R.Ok) (s : Bs0) (hs : s.length < 8000000000000000000) (t0 : Int) (hg : gNum s 0 = (0, t0, 0)) {h : AHeap A} {K : AVal → AHeap A → Prop} (hk : K (evTup (evGet s)) h) : Tri Pr R n_ref1_GetEvent [.str s] h K := by
  refine Tri.fn1 hR _ (evTup_ix _) rfl ?_ hk
  have q := gNum_enc hg
  apply c_ref1_GetEvent
  unfold p_ref1_GetEvent
  simp -implicitDefEqProofs
  have hf : (.cells t_bastionref1_Reader [.str s, .int .i64 0, .bool false] : AObj A) = rRead s 0 false := rfl
  rw [hf]
  refine rReader_ok hR s (by omega) 0 (by omega) false ?_
  rw [hg]
  dsimp only
  rw [if_pos ⟨rfl, rfl⟩]
  simp -implicitDefEqProofs
  repeat (first | refine joinP_go ?_ | simp -implicitDefEqProofs)
  refine rReader_ok hR s (by omega) t0 (by omega) false ?_
  obtain ⟨x0, t1, e0, hg0⟩ : ∃ x t e, gNum s t0 = (x, t, e) := ⟨_, _, _, rfl⟩
  rw [hg0]
  dsimp only
  by_cases he0 : e0 = 0
  · subst he0
    have q0 := gNum_enc hg0
    rw [if_pos ⟨rfl, rfl⟩]
    simp -implicitDefEqProofs
    by_cases hl : t1 = s.length
    · have hl' : (t1 != (s.length : Int)) = false := by simp [hl]
      simp -implicitDefEqProofs [hl']
      refine ref1_EventMay_ok hR ⟨0, 0, 0, 0, 0, 0, 0, x0⟩ ?_
      have hev : evGet s = if evMay ⟨0, 0, 0, 0, 0, 0, 0, x0⟩ = true then some ⟨0, 0, 0, 0, 0, 0, 0, x0⟩ else none := by simp [evGet, rNums, evCount, evOf, ev0, hg, hg0, hl]
      cases hm : evMay ⟨0, 0, 0, 0, 0, 0, 0, x0⟩ with
      | true => rw [hm] at hev; simp at hev; simp -implicitDefEqProofs; rw [hev]; exact Ans.rfl' _
      | false => rw [hm] at hev; simp at hev; simp -implicitDefEqProofs; rw [hev]; exact Ans.rfl' _
    · have hl' : (t1 != (s.length : Int)) = true := by simpa using hl
      have hev : evGet s = none := by simp [evGet, rNums, evCount, hg, hg0, hl]
      rw [hev]
      simp -implicitDefEqProofs [hl']
      exact Ans.rfl' _
  · rw [if_neg (by simp [he0])]
    simp -implicitDefEqProofs
    have hev : evGet s = none := by simp [evGet, rNums, evCount, hg, hg0, he0]
    rw [hev]
    exact Ans.rfl' _
theorem ref1_GetEvent_1 (hR : R.Ok) (s : Bs0) (hs : s.length < 8000000000000000000) (t0 : Int) (hg : gNum s 0 = (1, t0, 0)) {h : AHeap A} {K : AVal → AHeap A → Prop} (hk : K (evTup (evGet s)) h) : Tri Pr R n_ref1_GetEvent [.str s] h K := by
  refine Tri.fn1 hR _ (evTup_ix _) rfl ?_ hk
  have q := gNum_enc hg
  apply c_ref1_GetEvent
  unfold p_ref1_GetEvent
  simp -implicitDefEqProofs
  have hf : (.cells t_bastionref1_Reader [.str s, .int .i64 0, .bool false] : AObj A) = rRead s 0 false := rfl
  rw [hf]
  refine rReader_ok hR s (by omega) 0 (by omega) false ?_
  rw [hg]
  dsimp only
  rw [if_pos ⟨rfl, rfl⟩]
  simp -implicitDefEqProofs
  repeat (first | refine joinP_go ?_ | simp -implicitDefEqProofs)
  refine rReader_ok hR s (by omega) t0 (by omega) false ?_
  obtain ⟨x0, t1, e0, hg0⟩ : ∃ x t e, gNum s t0 = (x, t, e) := ⟨_, _, _, rfl⟩
  rw [hg0]
  dsimp only
  by_cases he0 : e0 = 0
  · subst he0
    have q0 := gNum_enc hg0
    rw [if_pos ⟨rfl, rfl⟩]
    simp -implicitDefEqProofs
    refine rReader_ok hR s (by omega) t1 (by omega) false ?_
    obtain ⟨x1, t2, e1, hg1⟩ : ∃ x t e, gNum s t1 = (x, t, e) := ⟨_, _, _, rfl⟩
    rw [hg1]
    dsimp only
    by_cases he1 : e1 = 0
    · subst he1
      have q1 := gNum_enc hg1
      rw [if_pos ⟨rfl, rfl⟩]
      simp -implicitDefEqProofs
      refine rReader_ok hR s (by omega) t2 (by omega) false ?_
      obtain ⟨x2, t3, e2, hg2⟩ : ∃ x t e, gNum s t2 = (x, t, e) := ⟨_, _, _, rfl⟩
      rw [hg2]
      dsimp only
      by_cases he2 : e2 = 0
      · subst he2
        have q2 := gNum_enc hg2
        rw [if_pos ⟨rfl, rfl⟩]
        simp -implicitDefEqProofs
        refine rReader_ok hR s (by omega) t3 (by omega) false ?_
        obtain ⟨x3, t4, e3, hg3⟩ : ∃ x t e, gNum s t3 = (x, t, e) := ⟨_, _, _, rfl⟩
        rw [hg3]
        dsimp only
        by_cases he3 : e3 = 0
        · subst he3
          have q3 := gNum_enc hg3
          rw [if_pos ⟨rfl, rfl⟩]
          simp -implicitDefEqProofs
          by_cases hl : t4 = s.length
          · have hl' : (t4 != (s.length : Int)) = false := by simp [hl]
            simp -implicitDefEqProofs [hl']
            refine ref1_EventMay_ok hR ⟨1, x0, 0, 0, x1, x2, x3, 0⟩ ?_
            have hev : evGet s = if evMay ⟨1, x0, 0, 0, x1, x2, x3, 0⟩ = true then some ⟨1, x0, 0, 0, x1, x2, x3, 0⟩ else none := by simp [evGet, rNums, evCount, evOf, ev0, hg, hg0, hg1, hg2, hg3, hl]
            cases hm : evMay ⟨1, x0, 0, 0, x1, x2, x3, 0⟩ with
            | true => rw [hm] at hev; simp at hev; simp -implicitDefEqProofs; rw [hev]; exact Ans.rfl' _
            | false => rw [hm] at hev; simp at hev; simp -implicitDefEqProofs; rw [hev]; exact Ans.rfl' _
          · have hl' : (t4 != (s.length : Int)) = true := by simpa using hl
            have hev : evGet s = none := by simp [evGet, rNums, evCount, hg, hg0, hg1, hg2, hg3, hl]
            rw [hev]
            simp -implicitDefEqProofs [hl']
            exact Ans.rfl' _
        · rw [if_neg (by simp [he3])]
          simp -implicitDefEqProofs
          have hev : evGet s = none := by simp [evGet, rNums, evCount, hg, hg0, hg1, hg2, hg3, he3]
          rw [hev]
          exact Ans.rfl' _
      · rw [if_neg (by simp [he2])]
        simp -implicitDefEqProofs
        refine rReader_ok hR s (by omega) t2 (by omega) true ?_
        rw [if_neg (by simp)]
        simp -implicitDefEqProofs
        have hev : evGet s = none := by simp [evGet, rNums, evCount, hg, hg0, hg1, hg2, he2]
        rw [hev]
        exact Ans.rfl' _
    · rw [if_neg (by simp [he1])]
      simp -implicitDefEqProofs
      refine rReader_ok hR s (by omega) t1 (by omega) true ?_
      rw [if_neg (by simp)]
      simp -implicitDefEqProofs
      refine rReader_ok hR s (by omega) t1 (by omega) true ?_
      rw [if_neg (by simp)]
      simp -implicitDefEqProofs
      have hev : evGet s = none := by simp [evGet, rNums, evCount, hg, hg0, hg1, he1]
      rw [hev]
      exact Ans.rfl' _
  · rw [if_neg (by simp [he0])]
    simp -implicitDefEqProofs
    refine rReader_ok hR s (by omega) t0 (by omega) true ?_
    rw [if_neg (by simp)]
    simp -implicitDefEqProofs
    refine rReader_ok hR s (by omega) t0 (by omega) true ?_
    rw [if_neg (by simp)]
    simp -implicitDefEqProofs
    refine rReader_ok hR s (by omega) t0 (by omega) true ?_
    rw [if_neg (by simp)]
    simp -implicitDefEqProofs
    have hev : evGet s = none := by simp [evGet, rNums, evCount, hg, hg0, he0]
    rw [hev]
    exact Ans.rfl' _
theorem ref1_GetEvent_2 (hR : R.Ok) (s : Bs0) (hs : s.length < 8000000000000000000) (t0 : Int) (hg : gNum s 0 = (2, t0, 0)) {h : AHeap A} {K : AVal → AHeap A → Prop} (hk : K (evTup (evGet s)) h) : Tri Pr R n_ref1_GetEvent [.str s] h K := by
  refine Tri.fn1 hR _ (evTup_ix _) rfl ?_ hk
  have q := gNum_enc hg
  apply c_ref1_GetEvent
  unfold p_ref1_GetEvent
  simp -implicitDefEqProofs
  have hf : (.cells t_bastionref1_Reader [.str s, .int .i64 0, .bool false] : AObj A) = rRead s 0 false := rfl
  rw [hf]
  refine rReader_ok hR s (by omega) 0 (by omega) false ?_
  rw [hg]
  dsimp only
  rw [if_pos ⟨rfl, rfl⟩]
  simp -implicitDefEqProofs
  repeat (first | refine joinP_go ?_ | simp -implicitDefEqProofs)
  refine rReader_ok hR s (by omega) t0 (by omega) false ?_
  obtain ⟨x0, t1, e0, hg0⟩ : ∃ x t e, gNum s t0 = (x, t, e) := ⟨_, _, _, rfl⟩
  rw [hg0]
  dsimp only
  by_cases he0 : e0 = 0
  · subst he0
    have q0 := gNum_enc hg0
    rw [if_pos ⟨rfl, rfl⟩]
    simp -implicitDefEqProofs
    refine rReader_ok hR s (by omega) t1 (by omega) false ?_
    obtain ⟨x1, t2, e1, hg1⟩ : ∃ x t e, gNum s t1 = (x, t, e) := ⟨_, _, _, rfl⟩
    rw [hg1]
    dsimp only
    by_cases he1 : e1 = 0
    · subst he1
      have q1 := gNum_enc hg1
      rw [if_pos ⟨rfl, rfl⟩]
      simp -implicitDefEqProofs
      by_cases hl : t2 = s.length
      · have hl' : (t2 != (s.length : Int)) = false := by simp [hl]
        simp -implicitDefEqProofs [hl']
        refine ref1_EventMay_ok hR ⟨2, x0, 0, 0, 0, 0, 0, x1⟩ ?_
        have hev : evGet s = if evMay ⟨2, x0, 0, 0, 0, 0, 0, x1⟩ = true then some ⟨2, x0, 0, 0, 0, 0, 0, x1⟩ else none := by simp [evGet, rNums, evCount, evOf, ev0, hg, hg0, hg1, hl]
        cases hm : evMay ⟨2, x0, 0, 0, 0, 0, 0, x1⟩ with
        | true => rw [hm] at hev; simp at hev; simp -implicitDefEqProofs; rw [hev]; exact Ans.rfl' _
        | false => rw [hm] at hev; simp at hev; simp -implicitDefEqProofs; rw [hev]; exact Ans.rfl' _
      · have hl' : (t2 != (s.length : Int)) = true := by simpa using hl
        have hev : evGet s = none := by simp [evGet, rNums, evCount, hg, hg0, hg1, hl]
        rw [hev]
        simp -implicitDefEqProofs [hl']
        exact Ans.rfl' _
    · rw [if_neg (by simp [he1])]
      simp -implicitDefEqProofs
      have hev : evGet s = none := by simp [evGet, rNums, evCount, hg, hg0, hg1, he1]
      rw [hev]
      exact Ans.rfl' _
  · rw [if_neg (by simp [he0])]
    simp -implicitDefEqProofs
    refine rReader_ok hR s (by omega) t0 (by omega) true ?_
    rw [if_neg (by simp)]
    simp -implicitDefEqProofs
    have hev : evGet s = none := by simp [evGet, rNums, evCount, hg, hg0, he0]
    rw [hev]
    exact Ans.rfl' _
theorem ref1_GetEvent_3 (hR : R.Ok) (s : Bs0) (hs : s.length < 8000000000000000000) (t0 : Int) (hg : gNum s 0 = (3, t0, 0)) {h : AHeap A} {K : AVal → AHeap A → Prop} (hk : K (evTup (evGet s)) h) : Tri Pr R n_ref1_GetEvent [.str s] h K := by
  refine Tri.fn1 hR _ (evTup_ix _) rfl ?_ hk
  have q := gNum_enc hg
  apply c_ref1_GetEvent
  unfold p_ref1_GetEvent
  simp -implicitDefEqProofs
  have hf : (.cells t_bastionref1_Reader [.str s, .int .i64 0, .bool false] : AObj A) = rRead s 0 false := rfl
  rw [hf]
  refine rReader_ok hR s (by omega) 0 (by omega) false ?_
  rw [hg]
  dsimp only
  rw [if_pos ⟨rfl, rfl⟩]
  simp -implicitDefEqProofs
  repeat (first | refine joinP_go ?_ | simp -implicitDefEqProofs)
  refine rReader_ok hR s (by omega) t0 (by omega) false ?_
  obtain ⟨x0, t1, e0, hg0⟩ : ∃ x t e, gNum s t0 = (x, t, e) := ⟨_, _, _, rfl⟩
  rw [hg0]
  dsimp only
  by_cases he0 : e0 = 0
  · subst he0
    have q0 := gNum_enc hg0
    rw [if_pos ⟨rfl, rfl⟩]
    simp -implicitDefEqProofs
    refine rReader_ok hR s (by omega) t1 (by omega) false ?_
    obtain ⟨x1, t2, e1, hg1⟩ : ∃ x t e, gNum s t1 = (x, t, e) := ⟨_, _, _, rfl⟩
    rw [hg1]
    dsimp only
    by_cases he1 : e1 = 0
    · subst he1
      have q1 := gNum_enc hg1
      rw [if_pos ⟨rfl, rfl⟩]
      simp -implicitDefEqProofs
      by_cases hl : t2 = s.length
      · have hl' : (t2 != (s.length : Int)) = false := by simp [hl]
        simp -implicitDefEqProofs [hl']
        refine ref1_EventMay_ok hR ⟨3, x0, 0, 0, x1, 0, 0, 0⟩ ?_
        have hev : evGet s = if evMay ⟨3, x0, 0, 0, x1, 0, 0, 0⟩ = true then some ⟨3, x0, 0, 0, x1, 0, 0, 0⟩ else none := by simp [evGet, rNums, evCount, evOf, ev0, hg, hg0, hg1, hl]
        cases hm : evMay ⟨3, x0, 0, 0, x1, 0, 0, 0⟩ with
        | true => rw [hm] at hev; simp at hev; simp -implicitDefEqProofs; rw [hev]; exact Ans.rfl' _
        | false => rw [hm] at hev; simp at hev; simp -implicitDefEqProofs; rw [hev]; exact Ans.rfl' _
      · have hl' : (t2 != (s.length : Int)) = true := by simpa using hl
        have hev : evGet s = none := by simp [evGet, rNums, evCount, hg, hg0, hg1, hl]
        rw [hev]
        simp -implicitDefEqProofs [hl']
        exact Ans.rfl' _
    · rw [if_neg (by simp [he1])]
      simp -implicitDefEqProofs
      have hev : evGet s = none := by simp [evGet, rNums, evCount, hg, hg0, hg1, he1]
      rw [hev]
      exact Ans.rfl' _
  · rw [if_neg (by simp [he0])]
    simp -implicitDefEqProofs
    refine rReader_ok hR s (by omega) t0 (by omega) true ?_
    rw [if_neg (by simp)]
    simp -implicitDefEqProofs
    have hev : evGet s = none := by simp [evGet, rNums, evCount, hg, hg0, he0]
    rw [hev]
    exact Ans.rfl' _
theorem ref1_GetEvent_4 (hR : R.Ok) (s : Bs0) (hs : s.length < 8000000000000000000) (t0 : Int) (hg : gNum s 0 = (4, t0, 0)) {h : AHeap A} {K : AVal → AHeap A → Prop} (hk : K (evTup (evGet s)) h) : Tri Pr R n_ref1_GetEvent [.str s] h K := by
  refine Tri.fn1 hR _ (evTup_ix _) rfl ?_ hk
  have q := gNum_enc hg
  apply c_ref1_GetEvent
  unfold p_ref1_GetEvent
  simp -implicitDefEqProofs
  have hf : (.cells t_bastionref1_Reader [.str s, .int .i64 0, .bool false] : AObj A) = rRead s 0 false := rfl
  rw [hf]
  refine rReader_ok hR s (by omega) 0 (by omega) false ?_
  rw [hg]
  dsimp only
  rw [if_pos ⟨rfl, rfl⟩]
  simp -implicitDefEqProofs
  repeat (first | refine joinP_go ?_ | simp -implicitDefEqProofs)
  refine rReader_ok hR s (by omega) t0 (by omega) false ?_
  obtain ⟨x0, t1, e0, hg0⟩ : ∃ x t e, gNum s t0 = (x, t, e) := ⟨_, _, _, rfl⟩
  rw [hg0]
  dsimp only
  by_cases he0 : e0 = 0
  · subst he0
    have q0 := gNum_enc hg0
    rw [if_pos ⟨rfl, rfl⟩]
    simp -implicitDefEqProofs
    by_cases hl : t1 = s.length
    · have hl' : (t1 != (s.length : Int)) = false := by simp [hl]
      simp -implicitDefEqProofs [hl']
      refine ref1_EventMay_ok hR ⟨4, x0, 0, 0, 0, 0, 0, 0⟩ ?_
      have hev : evGet s = if evMay ⟨4, x0, 0, 0, 0, 0, 0, 0⟩ = true then some ⟨4, x0, 0, 0, 0, 0, 0, 0⟩ else none := by simp [evGet, rNums, evCount, evOf, ev0, hg, hg0, hl]
      cases hm : evMay ⟨4, x0, 0, 0, 0, 0, 0, 0⟩ with
      | true => rw [hm] at hev; simp at hev; simp -implicitDefEqProofs; rw [hev]; exact Ans.rfl' _
      | false => rw [hm] at hev; simp at hev; simp -implicitDefEqProofs; rw [hev]; exact Ans.rfl' _
    · have hl' : (t1 != (s.length : Int)) = true := by simpa using hl
      have hev : evGet s = none := by simp [evGet, rNums, evCount, hg, hg0, hl]
      rw [hev]
      simp -implicitDefEqProofs [hl']
      exact Ans.rfl' _
  · rw [if_neg (by simp [he0])]
    simp -implicitDefEqProofs
    have hev : evGet s = none := by simp [evGet, rNums, evCount, hg, hg0, he0]
    rw [hev]
    exact Ans.rfl' _
theorem ref1_GetEvent_5 (hR : R.Ok) (s : Bs0) (hs : s.length < 8000000000000000000) (t0 : Int) (hg : gNum s 0 = (5, t0, 0)) {h : AHeap A} {K : AVal → AHeap A → Prop} (hk : K (evTup (evGet s)) h) : Tri Pr R n_ref1_GetEvent [.str s] h K := by
  refine Tri.fn1 hR _ (evTup_ix _) rfl ?_ hk
  have q := gNum_enc hg
  apply c_ref1_GetEvent
  unfold p_ref1_GetEvent
  simp -implicitDefEqProofs
  have hf : (.cells t_bastionref1_Reader [.str s, .int .i64 0, .bool false] : AObj A) = rRead s 0 false := rfl
  rw [hf]
  refine rReader_ok hR s (by omega) 0 (by omega) false ?_
  rw [hg]
  dsimp only
  rw [if_pos ⟨rfl, rfl⟩]
  simp -implicitDefEqProofs
  repeat (first | refine joinP_go ?_ | simp -implicitDefEqProofs)
  refine rReader_ok hR s (by omega) t0 (by omega) false ?_
  obtain ⟨x0, t1, e0, hg0⟩ : ∃ x t e, gNum s t0 = (x, t, e) := ⟨_, _, _, rfl⟩
  rw [hg0]
  dsimp only
  by_cases he0 : e0 = 0
  · subst he0
    have q0 := gNum_enc hg0
    rw [if_pos ⟨rfl, rfl⟩]
    simp -implicitDefEqProofs
    refine rReader_ok hR s (by omega) t1 (by omega) false ?_
    obtain ⟨x1, t2, e1, hg1⟩ : ∃ x t e, gNum s t1 = (x, t, e) := ⟨_, _, _, rfl⟩
    rw [hg1]
    dsimp only
    by_cases he1 : e1 = 0
    · subst he1
      have q1 := gNum_enc hg1
      rw [if_pos ⟨rfl, rfl⟩]
      simp -implicitDefEqProofs
      refine rReader_ok hR s (by omega) t2 (by omega) false ?_
      obtain ⟨x2, t3, e2, hg2⟩ : ∃ x t e, gNum s t2 = (x, t, e) := ⟨_, _, _, rfl⟩
      rw [hg2]
      dsimp only
      by_cases he2 : e2 = 0
      · subst he2
        have q2 := gNum_enc hg2
        rw [if_pos ⟨rfl, rfl⟩]
        simp -implicitDefEqProofs
        refine rReader_ok hR s (by omega) t3 (by omega) false ?_
        obtain ⟨x3, t4, e3, hg3⟩ : ∃ x t e, gNum s t3 = (x, t, e) := ⟨_, _, _, rfl⟩
        rw [hg3]
        dsimp only
        by_cases he3 : e3 = 0
        · subst he3
          have q3 := gNum_enc hg3
          rw [if_pos ⟨rfl, rfl⟩]
          simp -implicitDefEqProofs
          by_cases hl : t4 = s.length
          · have hl' : (t4 != (s.length : Int)) = false := by simp [hl]
            simp -implicitDefEqProofs [hl']
            refine ref1_EventMay_ok hR ⟨5, x1, x0, x2, 0, 0, 0, x3⟩ ?_
            have hev : evGet s = if evMay ⟨5, x1, x0, x2, 0, 0, 0, x3⟩ = true then some ⟨5, x1, x0, x2, 0, 0, 0, x3⟩ else none := by simp [evGet, rNums, evCount, evOf, ev0, hg, hg0, hg1, hg2, hg3, hl]
            cases hm : evMay ⟨5, x1, x0, x2, 0, 0, 0, x3⟩ with
            | true => rw [hm] at hev; simp at hev; simp -implicitDefEqProofs; rw [hev]; exact Ans.rfl' _
            | false => rw [hm] at hev; simp at hev; simp -implicitDefEqProofs; rw [hev]; exact Ans.rfl' _
          · have hl' : (t4 != (s.length : Int)) = true := by simpa using hl
            have hev : evGet s = none := by simp [evGet, rNums, evCount, hg, hg0, hg1, hg2, hg3, hl]
            rw [hev]
            simp -implicitDefEqProofs [hl']
            exact Ans.rfl' _
        · rw [if_neg (by simp [he3])]
          simp -implicitDefEqProofs
          have hev : evGet s = none := by simp [evGet, rNums, evCount, hg, hg0, hg1, hg2, hg3, he3]
          rw [hev]
          exact Ans.rfl' _
      · rw [if_neg (by simp [he2])]
        simp -implicitDefEqProofs
        refine rReader_ok hR s (by omega) t2 (by omega) true ?_
        rw [if_neg (by simp)]
        simp -implicitDefEqProofs
        have hev : evGet s = none := by simp [evGet, rNums, evCount, hg, hg0, hg1, hg2, he2]
        rw [hev]
        exact Ans.rfl' _
    · rw [if_neg (by simp [he1])]
      simp -implicitDefEqProofs
      refine rReader_ok hR s (by omega) t1 (by omega) true ?_
      rw [if_neg (by simp)]
      simp -implicitDefEqProofs
      refine rReader_ok hR s (by omega) t1 (by omega) true ?_
      rw [if_neg (by simp)]
      simp -implicitDefEqProofs
      have hev : evGet s = none := by simp [evGet, rNums, evCount, hg, hg0, hg1, he1]
      rw [hev]
      exact Ans.rfl' _
  · rw [if_neg (by simp [he0])]
    simp -implicitDefEqProofs
    refine rReader_ok hR s (by omega) t0 (by omega) true ?_
    rw [if_neg (by simp)]
    simp -implicitDefEqProofs
    refine rReader_ok hR s (by omega) t0 (by omega) true ?_
    rw [if_neg (by simp)]
    simp -implicitDefEqProofs
    refine rReader_ok hR s (by omega) t0 (by omega) true ?_
    rw [if_neg (by simp)]
    simp -implicitDefEqProofs
    have hev : evGet s = none := by simp [evGet, rNums, evCount, hg, hg0, he0]
    rw [hev]
    exact Ans.rfl' _
theorem ref1_GetEvent_6 (hR : R.Ok) (s : Bs0) (hs : s.length < 8000000000000000000) (t0 : Int) (hg : gNum s 0 = (6, t0, 0)) {h : AHeap A} {K : AVal → AHeap A → Prop} (hk : K (evTup (evGet s)) h) : Tri Pr R n_ref1_GetEvent [.str s] h K := by
  refine Tri.fn1 hR _ (evTup_ix _) rfl ?_ hk
  have q := gNum_enc hg
  apply c_ref1_GetEvent
  unfold p_ref1_GetEvent
  simp -implicitDefEqProofs
  have hf : (.cells t_bastionref1_Reader [.str s, .int .i64 0, .bool false] : AObj A) = rRead s 0 false := rfl
  rw [hf]
  refine rReader_ok hR s (by omega) 0 (by omega) false ?_
  rw [hg]
  dsimp only
  rw [if_pos ⟨rfl, rfl⟩]
  simp -implicitDefEqProofs
  repeat (first | refine joinP_go ?_ | simp -implicitDefEqProofs)
  refine rReader_ok hR s (by omega) t0 (by omega) false ?_
  obtain ⟨x0, t1, e0, hg0⟩ : ∃ x t e, gNum s t0 = (x, t, e) := ⟨_, _, _, rfl⟩
  rw [hg0]
  dsimp only
  by_cases he0 : e0 = 0
  · subst he0
    have q0 := gNum_enc hg0
    rw [if_pos ⟨rfl, rfl⟩]
    simp -implicitDefEqProofs
    refine rReader_ok hR s (by omega) t1 (by omega) false ?_
    obtain ⟨x1, t2, e1, hg1⟩ : ∃ x t e, gNum s t1 = (x, t, e) := ⟨_, _, _, rfl⟩
    rw [hg1]
    dsimp only
    by_cases he1 : e1 = 0
    · subst he1
      have q1 := gNum_enc hg1
      rw [if_pos ⟨rfl, rfl⟩]
      simp -implicitDefEqProofs
      refine rReader_ok hR s (by omega) t2 (by omega) false ?_
      obtain ⟨x2, t3, e2, hg2⟩ : ∃ x t e, gNum s t2 = (x, t, e) := ⟨_, _, _, rfl⟩
      rw [hg2]
      dsimp only
      by_cases he2 : e2 = 0
      · subst he2
        have q2 := gNum_enc hg2
        rw [if_pos ⟨rfl, rfl⟩]
        simp -implicitDefEqProofs
        refine rReader_ok hR s (by omega) t3 (by omega) false ?_
        obtain ⟨x3, t4, e3, hg3⟩ : ∃ x t e, gNum s t3 = (x, t, e) := ⟨_, _, _, rfl⟩
        rw [hg3]
        dsimp only
        by_cases he3 : e3 = 0
        · subst he3
          have q3 := gNum_enc hg3
          rw [if_pos ⟨rfl, rfl⟩]
          simp -implicitDefEqProofs
          by_cases hl : t4 = s.length
          · have hl' : (t4 != (s.length : Int)) = false := by simp [hl]
            simp -implicitDefEqProofs [hl']
            refine ref1_EventMay_ok hR ⟨6, 0, x0, 0, x1, x2, 0, x3⟩ ?_
            have hev : evGet s = if evMay ⟨6, 0, x0, 0, x1, x2, 0, x3⟩ = true then some ⟨6, 0, x0, 0, x1, x2, 0, x3⟩ else none := by simp [evGet, rNums, evCount, evOf, ev0, hg, hg0, hg1, hg2, hg3, hl]
            cases hm : evMay ⟨6, 0, x0, 0, x1, x2, 0, x3⟩ with
            | true => rw [hm] at hev; simp at hev; simp -implicitDefEqProofs; rw [hev]; exact Ans.rfl' _
            | false => rw [hm] at hev; simp at hev; simp -implicitDefEqProofs; rw [hev]; exact Ans.rfl' _
          · have hl' : (t4 != (s.length : Int)) = true := by simpa using hl
            have hev : evGet s = none := by simp [evGet, rNums, evCount, hg, hg0, hg1, hg2, hg3, hl]
            rw [hev]
            simp -implicitDefEqProofs [hl']
            exact Ans.rfl' _
        · rw [if_neg (by simp [he3])]
          simp -implicitDefEqProofs
          have hev : evGet s = none := by simp [evGet, rNums, evCount, hg, hg0, hg1, hg2, hg3, he3]
          rw [hev]
          exact Ans.rfl' _
      · rw [if_neg (by simp [he2])]
        simp -implicitDefEqProofs
        refine rReader_ok hR s (by omega) t2 (by omega) true ?_
        rw [if_neg (by simp)]
        simp -implicitDefEqProofs
        have hev : evGet s = none := by simp [evGet, rNums, evCount, hg, hg0, hg1, hg2, he2]
        rw [hev]
        exact Ans.rfl' _
    · rw [if_neg (by simp [he1])]
      simp -implicitDefEqProofs
      refine rReader_ok hR s (by omega) t1 (by omega) true ?_
      rw [if_neg (by simp)]
      simp -implicitDefEqProofs
      refine rReader_ok hR s (by omega) t1 (by omega) true ?_
      rw [if_neg (by simp)]
      simp -implicitDefEqProofs
      have hev : evGet s = none := by simp [evGet, rNums, evCount, hg, hg0, hg1, he1]
      rw [hev]
      exact Ans.rfl' _
  · rw [if_neg (by simp [he0])]
    simp -implicitDefEqProofs
    refine rReader_ok hR s (by omega) t0 (by omega) true ?_
    rw [if_neg (by simp)]
    simp -implicitDefEqProofs
    refine rReader_ok hR s (by omega) t0 (by omega) true ?_
    rw [if_neg (by simp)]
    simp -implicitDefEqProofs
    refine rReader_ok hR s (by omega) t0 (by omega) true ?_
    rw [if_neg (by simp)]
    simp -implicitDefEqProofs
    have hev : evGet s = none := by simp [evGet, rNums, evCount, hg, hg0, he0]
    rw [hev]
    exact Ans.rfl' _
theorem ref1_GetEvent_7 (hR : R.Ok) (s : Bs0) (hs : s.length < 8000000000000000000) (t0 : Int) (hg : gNum s 0 = (7, t0, 0)) {h : AHeap A} {K : AVal → AHeap A → Prop} (hk : K (evTup (evGet s)) h) : Tri Pr R n_ref1_GetEvent [.str s] h K := by
  refine Tri.fn1 hR _ (evTup_ix _) rfl ?_ hk
  have q := gNum_enc hg
  apply c_ref1_GetEvent
  unfold p_ref1_GetEvent
  simp -implicitDefEqProofs
  have hf : (.cells t_bastionref1_Reader [.str s, .int .i64 0, .bool false] : AObj A) = rRead s 0 false := rfl
  rw [hf]
  refine rReader_ok hR s (by omega) 0 (by omega) false ?_
  rw [hg]
  dsimp only
  rw [if_pos ⟨rfl, rfl⟩]
  simp -implicitDefEqProofs
  repeat (first | refine joinP_go ?_ | simp -implicitDefEqProofs)
  refine rReader_ok hR s (by omega) t0 (by omega) false ?_
  obtain ⟨x0, t1, e0, hg0⟩ : ∃ x t e, gNum s t0 = (x, t, e) := ⟨_, _, _, rfl⟩
  rw [hg0]
  dsimp only
  by_cases he0 : e0 = 0
  · subst he0
    have q0 := gNum_enc hg0
    rw [if_pos ⟨rfl, rfl⟩]
    simp -implicitDefEqProofs
    by_cases hl : t1 = s.length
    · have hl' : (t1 != (s.length : Int)) = false := by simp [hl]
      simp -implicitDefEqProofs [hl']
      refine ref1_EventMay_ok hR ⟨7, x0, 0, 0, 0, 0, 0, 0⟩ ?_
      have hev : evGet s = if evMay ⟨7, x0, 0, 0, 0, 0, 0, 0⟩ = true then some ⟨7, x0, 0, 0, 0, 0, 0, 0⟩ else none := by simp [evGet, rNums, evCount, evOf, ev0, hg, hg0, hl]
      cases hm : evMay ⟨7, x0, 0, 0, 0, 0, 0, 0⟩ with
      | true => rw [hm] at hev; simp at hev; simp -implicitDefEqProofs; rw [hev]; exact Ans.rfl' _
      | false => rw [hm] at hev; simp at hev; simp -implicitDefEqProofs; rw [hev]; exact Ans.rfl' _
    · have hl' : (t1 != (s.length : Int)) = true := by simpa using hl
      have hev : evGet s = none := by simp [evGet, rNums, evCount, hg, hg0, hl]
      rw [hev]
      simp -implicitDefEqProofs [hl']
      exact Ans.rfl' _
  · rw [if_neg (by simp [he0])]
    simp -implicitDefEqProofs
    have hev : evGet s = none := by simp [evGet, rNums, evCount, hg, hg0, he0]
    rw [hev]
    exact Ans.rfl' _
theorem ref1_GetEvent_8 (hR : R.Ok) (s : Bs0) (hs : s.length < 8000000000000000000) (t0 : Int) (hg : gNum s 0 = (8, t0, 0)) {h : AHeap A} {K : AVal → AHeap A → Prop} (hk : K (evTup (evGet s)) h) : Tri Pr R n_ref1_GetEvent [.str s] h K := by
  refine Tri.fn1 hR _ (evTup_ix _) rfl ?_ hk
  have q := gNum_enc hg
  apply c_ref1_GetEvent
  unfold p_ref1_GetEvent
  simp -implicitDefEqProofs
  have hf : (.cells t_bastionref1_Reader [.str s, .int .i64 0, .bool false] : AObj A) = rRead s 0 false := rfl
  rw [hf]
  refine rReader_ok hR s (by omega) 0 (by omega) false ?_
  rw [hg]
  dsimp only
  rw [if_pos ⟨rfl, rfl⟩]
  simp -implicitDefEqProofs
  repeat (first | refine joinP_go ?_ | simp -implicitDefEqProofs)
  by_cases hl : t0 = s.length
  · have hl' : (t0 != (s.length : Int)) = false := by simp [hl]
    simp -implicitDefEqProofs [hl']
    refine ref1_EventMay_ok hR ⟨8, 0, 0, 0, 0, 0, 0, 0⟩ ?_
    have hev : evGet s = if evMay ⟨8, 0, 0, 0, 0, 0, 0, 0⟩ = true then some ⟨8, 0, 0, 0, 0, 0, 0, 0⟩ else none := by simp [evGet, rNums, evCount, evOf, ev0, hg, hl]
    cases hm : evMay ⟨8, 0, 0, 0, 0, 0, 0, 0⟩ with
    | true => rw [hm] at hev; simp at hev; simp -implicitDefEqProofs; rw [hev]; exact Ans.rfl' _
    | false => rw [hm] at hev; simp at hev; simp -implicitDefEqProofs; rw [hev]; exact Ans.rfl' _
  · have hl' : (t0 != (s.length : Int)) = true := by simpa using hl
    have hev : evGet s = none := by simp [evGet, rNums, evCount, hg, hl]
    rw [hev]
    simp -implicitDefEqProofs [hl']
    exact Ans.rfl' _
theorem ref1_GetEvent_9 (hR : R.Ok) (s : Bs0) (hs : s.length < 8000000000000000000) (t0 : Int) (hg : gNum s 0 = (9, t0, 0)) {h : AHeap A} {K : AVal → AHeap A → Prop} (hk : K (evTup (evGet s)) h) : Tri Pr R n_ref1_GetEvent [.str s] h K := by
  refine Tri.fn1 hR _ (evTup_ix _) rfl ?_ hk
  have q := gNum_enc hg
  apply c_ref1_GetEvent
  unfold p_ref1_GetEvent
  simp -implicitDefEqProofs
  have hf : (.cells t_bastionref1_Reader [.str s, .int .i64 0, .bool false] : AObj A) = rRead s 0 false := rfl
  rw [hf]
  refine rReader_ok hR s (by omega) 0 (by omega) false ?_
  rw [hg]
  dsimp only
  rw [if_pos ⟨rfl, rfl⟩]
  simp -implicitDefEqProofs
  repeat (first | refine joinP_go ?_ | simp -implicitDefEqProofs)
  refine rReader_ok hR s (by omega) t0 (by omega) false ?_
  obtain ⟨x0, t1, e0, hg0⟩ : ∃ x t e, gNum s t0 = (x, t, e) := ⟨_, _, _, rfl⟩
  rw [hg0]
  dsimp only
  by_cases he0 : e0 = 0
  · subst he0
    have q0 := gNum_enc hg0
    rw [if_pos ⟨rfl, rfl⟩]
    simp -implicitDefEqProofs
    by_cases hl : t1 = s.length
    · have hl' : (t1 != (s.length : Int)) = false := by simp [hl]
      simp -implicitDefEqProofs [hl']
      refine ref1_EventMay_ok hR ⟨9, 0, x0, 0, 0, 0, 0, 0⟩ ?_
      have hev : evGet s = if evMay ⟨9, 0, x0, 0, 0, 0, 0, 0⟩ = true then some ⟨9, 0, x0, 0, 0, 0, 0, 0⟩ else none := by simp [evGet, rNums, evCount, evOf, ev0, hg, hg0, hl]
      cases hm : evMay ⟨9, 0, x0, 0, 0, 0, 0, 0⟩ with
      | true => rw [hm] at hev; simp at hev; simp -implicitDefEqProofs; rw [hev]; exact Ans.rfl' _
      | false => rw [hm] at hev; simp at hev; simp -implicitDefEqProofs; rw [hev]; exact Ans.rfl' _
    · have hl' : (t1 != (s.length : Int)) = true := by simpa using hl
      have hev : evGet s = none := by simp [evGet, rNums, evCount, hg, hg0, hl]
      rw [hev]
      simp -implicitDefEqProofs [hl']
      exact Ans.rfl' _
  · rw [if_neg (by simp [he0])]
    simp -implicitDefEqProofs
    have hev : evGet s = none := by simp [evGet, rNums, evCount, hg, hg0, he0]
    rw [hev]
    exact Ans.rfl' _
theorem ref1_GetEvent_ok (hR : R.Ok) (s : Bs0) (hs : s.length < 8000000000000000000) {h : AHeap A} {K : AVal → AHeap A → Prop} (hk : K (evTup (evGet s)) h) : Tri Pr R n_ref1_GetEvent [.str s] h K := by
  obtain ⟨k, t0, e, hg⟩ : ∃ k t e, gNum s 0 = (k, t, e) := ⟨_, _, _, rfl⟩
  by_cases he : e = 0
  · subst he
    have q := gNum_enc hg
    have hk0 : 0 ≤ k := by have := q.1; simp [nMay] at this; omega
    by_cases h9 : 9 < k
    · have f0 : (k == 0) = false := by simp; omega
      have f1 : (k == 1) = false := by simp; omega
      have f2 : (k == 2) = false := by simp; omega
      have f3 : (k == 3) = false := by simp; omega
      have f4 : (k == 4) = false := by simp; omega
      have f5 : (k == 5) = false := by simp; omega
      have f6 : (k == 6) = false := by simp; omega
      have f7 : (k == 7) = false := by simp; omega
      have f9 : (k == 9) = false := by simp; omega
      have hmf : ∀ l, evMay (evOf k l) = false := by
        intro l
        cases hm : evMay (evOf k l) with
        | false => rfl
        | true => have := evMay_kind hm; rw [evOf_kind] at this; omega
      have hc : evCount k = 0 := by unfold evCount; rw [if_neg (by omega), if_neg (by omega), if_neg (by omega)]
      have hev : evGet s = none := by simp [evGet, rNums, hg, hc, hmf]
      rw [hev] at hk
      refine Tri.fn1 hR _ (evTup_ix none) rfl ?_ hk
      apply c_ref1_GetEvent
      unfold p_ref1_GetEvent
      simp -implicitDefEqProofs
      have hf : (.cells t_bastionref1_Reader [.str s, .int .i64 0, .bool false] : AObj A) = rRead s 0 false := rfl
      rw [hf]
      refine rReader_ok hR s (by omega) 0 (by omega) false ?_
      rw [hg]
      dsimp only
      rw [if_pos ⟨rfl, rfl⟩]
      simp -implicitDefEqProofs
      repeat (first | refine joinP_go ?_ | simp -implicitDefEqProofs [f0, f1, f2, f3, f4, f5, f6, f7, f9])
      by_cases hl : t0 = s.length
      · have hl' : (t0 != (s.length : Int)) = false := by simp [hl]
        simp -implicitDefEqProofs [hl']
        refine ref1_EventMay_ok hR ⟨k, 0, 0, 0, 0, 0, 0, 0⟩ ?_
        have hm : evMay ⟨k, 0, 0, 0, 0, 0, 0, 0⟩ = false := by
          cases hm : evMay ⟨k, 0, 0, 0, 0, 0, 0, 0⟩ with
          | false => rfl
          | true => have := evMay_kind hm; simp at this; omega
        rw [hm]
        simp -implicitDefEqProofs
        exact Ans.rfl' _
      · have hl' : (t0 != (s.length : Int)) = true := by simpa using hl
        simp -implicitDefEqProofs [hl']
        exact Ans.rfl' _
    · have hc2 : k = 0 ∨ k = 1 ∨ k = 2 ∨ k = 3 ∨ k = 4 ∨ k = 5 ∨ k = 6 ∨ k = 7 ∨ k = 8 ∨ k = 9 := by omega
      rcases hc2 with rfl | rfl | rfl | rfl | rfl | rfl | rfl | rfl | rfl | rfl
      · exact ref1_GetEvent_0 hR s hs t0 hg hk
      · exact ref1_GetEvent_1 hR s hs t0 hg hk
      · exact ref1_GetEvent_2 hR s hs t0 hg hk
      · exact ref1_GetEvent_3 hR s hs t0 hg hk
      · exact ref1_GetEvent_4 hR s hs t0 hg hk
      · exact ref1_GetEvent_5 hR s hs t0 hg hk
      · exact ref1_GetEvent_6 hR s hs t0 hg hk
      · exact ref1_GetEvent_7 hR s hs t0 hg hk
      · exact ref1_GetEvent_8 hR s hs t0 hg hk
      · exact ref1_GetEvent_9 hR s hs t0 hg hk
  · have hev : evGet s = none := by simp [evGet, rNums, hg, he]
    rw [hev] at hk
    refine Tri.fn1 hR _ (evTup_ix none) rfl ?_ hk
    apply c_ref1_GetEvent
    unfold p_ref1_GetEvent
    simp -implicitDefEqProofs
    have hf : (.cells t_bastionref1_Reader [.str s, .int .i64 0, .bool false] : AObj A) = rRead s 0 false := rfl
    rw [hf]
    refine rReader_ok hR s (by omega) 0 (by omega) false ?_
    rw [hg]
    dsimp only
    rw [if_neg (by simp [he])]
    simp -implicitDefEqProofs
    repeat (first | refine joinP_go ?_ | simp -implicitDefEqProofs)
    refine rReader_ok hR s (by omega) 0 (by omega) true ?_
    rw [if_neg (by simp)]
    simp -implicitDefEqProofs
    exact Ans.rfl' _
end Go.AI
