/- Events: may one be (printed by gen/event_gen.py)? -/
import Derived.Test.YtkipdpamkchnoaaSpRecord0
import Derived.Test.YtkipdpamkchnoaaSpReader3
import Derived.Test.YtkipdpamkchnoaaSpCraft
import Derived.Test.YtkipdpamkchnoaaFns
set_option linter.all false
namespace Go.AI
variable {A : Type} {R : Adts A}
theorem shEv (e f : Ev) : shEq (Sh.st [(0, 1, Sh.i), (1, 1, Sh.i), (2, 1, Sh.i), (3, 1, Sh.i), (4, 1, Sh.i), (5, 1, Sh.i), (6, 1, Sh.i), (7, 1, Sh.i)]) e.row f.row = some (decide (e = f)) := by
  obtain ⟨k, u, s, ad, a, b, c, t⟩ := e
  obtain ⟨k2, u2, s2, ad2, a2, b2, c2, t2⟩ := f
  simp [Ev.row, shEq, shEqs]
  rfl
theorem event_May_0 (hR : R.Ok) (u s ad a b c t : Int) {h : AHeap A} {K : AVal → AHeap A → Prop} (hk : K (.bool (evMay ⟨0, u, s, ad, a, b, c, t⟩)) h) : Tri Pr R n_event_May [.agg (Ev.row ⟨0, u, s, ad, a, b, c, t⟩)] h K := by
  refine Tri.fn1 hR _ rfl rfl ?_ hk
  apply c_event_May
  unfold p_event_May
  simp -implicitDefEqProofs [Ev.row]
  apply c_event_parts
  unfold p_event_parts
  simp -implicitDefEqProofs [appP, appV, srcOf, cellsAt]
  repeat (first | refine joinP_go ?_ | simp -implicitDefEqProofs [appP, appV, srcOf, cellsAt])
  refine loopP_unr 5 ?_
  rw [unr]
  simp -implicitDefEqProofs
  refine field_NumMay_ok _ ?_
  cases h0 : nMay t with
  | false => simp -implicitDefEqProofs; exact Ans.of (by simp [evMay, evParts, h0])
  | true =>
    simp -implicitDefEqProofs
    refine Gives.done (by simp) ?_
    rw [unr]
    simp -implicitDefEqProofs
    refine joinP_go ?_
    by_cases c1 : u < 8
    · by_cases c2 : ad < 16
      · by_cases c3 : t ≤ 1048575
        · by_cases c4 : c ≤ 1048576
          · simp -implicitDefEqProofs [c1, c2, c3, c4]
            apply c_event_plain
            unfold p_event_plain
            simp -implicitDefEqProofs
            apply c_event_parts
            unfold p_event_parts
            simp -implicitDefEqProofs [appP, appV, srcOf, cellsAt]
            repeat (first | refine joinP_go ?_ | simp -implicitDefEqProofs [appP, appV, srcOf, cellsAt])
            apply c_event_parts
            unfold p_event_parts
            simp -implicitDefEqProofs [appP, appV, srcOf, cellsAt]
            repeat (first | refine joinP_go ?_ | simp -implicitDefEqProofs [appP, appV, srcOf, cellsAt])
            refine loopP_unr 5 ?_
            rw [unr]
            simp -implicitDefEqProofs
            refine Gives.done (by simp) ?_
            rw [unr]
            simp -implicitDefEqProofs
            have he := shEv ⟨0, u, s, ad, a, b, c, t⟩ ⟨0, 0, 0, 0, 0, 0, 0, t⟩
            simp only [Ev.row] at he
            simp -implicitDefEqProofs [he]
            exact Ans.of (by simp [evMay, evPlain, evOf, evParts, ev0, c1, c2, c3, c4, h0])
          · simp -implicitDefEqProofs [c1, c2, c3, c4]; exact Ans.of (by simp [evMay, c4])
        · simp -implicitDefEqProofs [c1, c2, c3]; exact Ans.of (by simp [evMay, c3])
      · simp -implicitDefEqProofs [c1, c2]; exact Ans.of (by simp [evMay, c2])
    · simp -implicitDefEqProofs [c1]; exact Ans.of (by simp [evMay, c1])
theorem event_May_1 (hR : R.Ok) (u s ad a b c t : Int) {h : AHeap A} {K : AVal → AHeap A → Prop} (hk : K (.bool (evMay ⟨1, u, s, ad, a, b, c, t⟩)) h) : Tri Pr R n_event_May [.agg (Ev.row ⟨1, u, s, ad, a, b, c, t⟩)] h K := by
  refine Tri.fn1 hR _ rfl rfl ?_ hk
  apply c_event_May
  unfold p_event_May
  simp -implicitDefEqProofs [Ev.row]
  apply c_event_parts
  unfold p_event_parts
  simp -implicitDefEqProofs [appP, appV, srcOf, cellsAt]
  repeat (first | refine joinP_go ?_ | simp -implicitDefEqProofs [appP, appV, srcOf, cellsAt])
  refine loopP_unr 5 ?_
  rw [unr]
  simp -implicitDefEqProofs
  refine field_NumMay_ok _ ?_
  cases h0 : nMay u with
  | false => simp -implicitDefEqProofs; exact Ans.of (by simp [evMay, evParts, h0])
  | true =>
    simp -implicitDefEqProofs
    refine Gives.done (by simp) ?_
    rw [unr]
    simp -implicitDefEqProofs
    refine field_NumMay_ok _ ?_
    cases h1 : nMay a with
    | false => simp -implicitDefEqProofs; exact Ans.of (by simp [evMay, evParts, h0, h1])
    | true =>
      simp -implicitDefEqProofs
      refine Gives.done (by simp) ?_
      rw [unr]
      simp -implicitDefEqProofs
      refine field_NumMay_ok _ ?_
      cases h2 : nMay b with
      | false => simp -implicitDefEqProofs; exact Ans.of (by simp [evMay, evParts, h0, h1, h2])
      | true =>
        simp -implicitDefEqProofs
        refine Gives.done (by simp) ?_
        rw [unr]
        simp -implicitDefEqProofs
        refine field_NumMay_ok _ ?_
        cases h3 : nMay c with
        | false => simp -implicitDefEqProofs; exact Ans.of (by simp [evMay, evParts, h0, h1, h2, h3])
        | true =>
          simp -implicitDefEqProofs
          refine Gives.done (by simp) ?_
          rw [unr]
          simp -implicitDefEqProofs
          refine joinP_go ?_
          by_cases c1 : u < 8
          · by_cases c2 : ad < 16
            · by_cases c3 : t ≤ 1048575
              · by_cases c4 : c ≤ 1048576
                · simp -implicitDefEqProofs [c1, c2, c3, c4]
                  apply c_event_plain
                  unfold p_event_plain
                  simp -implicitDefEqProofs
                  apply c_event_parts
                  unfold p_event_parts
                  simp -implicitDefEqProofs [appP, appV, srcOf, cellsAt]
                  repeat (first | refine joinP_go ?_ | simp -implicitDefEqProofs [appP, appV, srcOf, cellsAt])
                  apply c_event_parts
                  unfold p_event_parts
                  simp -implicitDefEqProofs [appP, appV, srcOf, cellsAt]
                  repeat (first | refine joinP_go ?_ | simp -implicitDefEqProofs [appP, appV, srcOf, cellsAt])
                  refine loopP_unr 5 ?_
                  rw [unr]
                  simp -implicitDefEqProofs
                  refine Gives.done (by simp) ?_
                  rw [unr]
                  simp -implicitDefEqProofs
                  refine Gives.done (by simp) ?_
                  rw [unr]
                  simp -implicitDefEqProofs
                  refine Gives.done (by simp) ?_
                  rw [unr]
                  simp -implicitDefEqProofs
                  refine Gives.done (by simp) ?_
                  rw [unr]
                  simp -implicitDefEqProofs
                  have he := shEv ⟨1, u, s, ad, a, b, c, t⟩ ⟨1, u, 0, 0, a, b, c, 0⟩
                  simp only [Ev.row] at he
                  simp -implicitDefEqProofs [he]
                  exact Ans.of (by simp [evMay, evPlain, evOf, evParts, ev0, c1, c2, c3, c4, h0, h1, h2, h3])
                · simp -implicitDefEqProofs [c1, c2, c3, c4]; exact Ans.of (by simp [evMay, c4])
              · simp -implicitDefEqProofs [c1, c2, c3]; exact Ans.of (by simp [evMay, c3])
            · simp -implicitDefEqProofs [c1, c2]; exact Ans.of (by simp [evMay, c2])
          · simp -implicitDefEqProofs [c1]; exact Ans.of (by simp [evMay, c1])
theorem event_May_2 (hR : R.Ok) (u s ad a b c t : Int) {h : AHeap A} {K : AVal → AHeap A → Prop} (hk : K (.bool (evMay ⟨2, u, s, ad, a, b, c, t⟩)) h) : Tri Pr R n_event_May [.agg (Ev.row ⟨2, u, s, ad, a, b, c, t⟩)] h K := by
  refine Tri.fn1 hR _ rfl rfl ?_ hk
  apply c_event_May
  unfold p_event_May
  simp -implicitDefEqProofs [Ev.row]
  apply c_event_parts
  unfold p_event_parts
  simp -implicitDefEqProofs [appP, appV, srcOf, cellsAt]
  repeat (first | refine joinP_go ?_ | simp -implicitDefEqProofs [appP, appV, srcOf, cellsAt])
  refine loopP_unr 5 ?_
  rw [unr]
  simp -implicitDefEqProofs
  refine field_NumMay_ok _ ?_
  cases h0 : nMay u with
  | false => simp -implicitDefEqProofs; exact Ans.of (by simp [evMay, evParts, h0])
  | true =>
    simp -implicitDefEqProofs
    refine Gives.done (by simp) ?_
    rw [unr]
    simp -implicitDefEqProofs
    refine field_NumMay_ok _ ?_
    cases h1 : nMay t with
    | false => simp -implicitDefEqProofs; exact Ans.of (by simp [evMay, evParts, h0, h1])
    | true =>
      simp -implicitDefEqProofs
      refine Gives.done (by simp) ?_
      rw [unr]
      simp -implicitDefEqProofs
      refine joinP_go ?_
      by_cases c1 : u < 8
      · by_cases c2 : ad < 16
        · by_cases c3 : t ≤ 1048575
          · by_cases c4 : c ≤ 1048576
            · simp -implicitDefEqProofs [c1, c2, c3, c4]
              apply c_event_plain
              unfold p_event_plain
              simp -implicitDefEqProofs
              apply c_event_parts
              unfold p_event_parts
              simp -implicitDefEqProofs [appP, appV, srcOf, cellsAt]
              repeat (first | refine joinP_go ?_ | simp -implicitDefEqProofs [appP, appV, srcOf, cellsAt])
              apply c_event_parts
              unfold p_event_parts
              simp -implicitDefEqProofs [appP, appV, srcOf, cellsAt]
              repeat (first | refine joinP_go ?_ | simp -implicitDefEqProofs [appP, appV, srcOf, cellsAt])
              refine loopP_unr 5 ?_
              rw [unr]
              simp -implicitDefEqProofs
              refine Gives.done (by simp) ?_
              rw [unr]
              simp -implicitDefEqProofs
              refine Gives.done (by simp) ?_
              rw [unr]
              simp -implicitDefEqProofs
              have he := shEv ⟨2, u, s, ad, a, b, c, t⟩ ⟨2, u, 0, 0, 0, 0, 0, t⟩
              simp only [Ev.row] at he
              simp -implicitDefEqProofs [he]
              exact Ans.of (by simp [evMay, evPlain, evOf, evParts, ev0, c1, c2, c3, c4, h0, h1])
            · simp -implicitDefEqProofs [c1, c2, c3, c4]; exact Ans.of (by simp [evMay, c4])
          · simp -implicitDefEqProofs [c1, c2, c3]; exact Ans.of (by simp [evMay, c3])
        · simp -implicitDefEqProofs [c1, c2]; exact Ans.of (by simp [evMay, c2])
      · simp -implicitDefEqProofs [c1]; exact Ans.of (by simp [evMay, c1])
theorem event_May_3 (hR : R.Ok) (u s ad a b c t : Int) {h : AHeap A} {K : AVal → AHeap A → Prop} (hk : K (.bool (evMay ⟨3, u, s, ad, a, b, c, t⟩)) h) : Tri Pr R n_event_May [.agg (Ev.row ⟨3, u, s, ad, a, b, c, t⟩)] h K := by
  refine Tri.fn1 hR _ rfl rfl ?_ hk
  apply c_event_May
  unfold p_event_May
  simp -implicitDefEqProofs [Ev.row]
  apply c_event_parts
  unfold p_event_parts
  simp -implicitDefEqProofs [appP, appV, srcOf, cellsAt]
  repeat (first | refine joinP_go ?_ | simp -implicitDefEqProofs [appP, appV, srcOf, cellsAt])
  refine loopP_unr 5 ?_
  rw [unr]
  simp -implicitDefEqProofs
  refine field_NumMay_ok _ ?_
  cases h0 : nMay u with
  | false => simp -implicitDefEqProofs; exact Ans.of (by simp [evMay, evParts, h0])
  | true =>
    simp -implicitDefEqProofs
    refine Gives.done (by simp) ?_
    rw [unr]
    simp -implicitDefEqProofs
    refine field_NumMay_ok _ ?_
    cases h1 : nMay a with
    | false => simp -implicitDefEqProofs; exact Ans.of (by simp [evMay, evParts, h0, h1])
    | true =>
      simp -implicitDefEqProofs
      refine Gives.done (by simp) ?_
      rw [unr]
      simp -implicitDefEqProofs
      refine joinP_go ?_
      by_cases c1 : u < 8
      · by_cases c2 : ad < 16
        · by_cases c3 : t ≤ 1048575
          · by_cases c4 : c ≤ 1048576
            · simp -implicitDefEqProofs [c1, c2, c3, c4]
              apply c_event_plain
              unfold p_event_plain
              simp -implicitDefEqProofs
              apply c_event_parts
              unfold p_event_parts
              simp -implicitDefEqProofs [appP, appV, srcOf, cellsAt]
              repeat (first | refine joinP_go ?_ | simp -implicitDefEqProofs [appP, appV, srcOf, cellsAt])
              apply c_event_parts
              unfold p_event_parts
              simp -implicitDefEqProofs [appP, appV, srcOf, cellsAt]
              repeat (first | refine joinP_go ?_ | simp -implicitDefEqProofs [appP, appV, srcOf, cellsAt])
              refine loopP_unr 5 ?_
              rw [unr]
              simp -implicitDefEqProofs
              refine Gives.done (by simp) ?_
              rw [unr]
              simp -implicitDefEqProofs
              refine Gives.done (by simp) ?_
              rw [unr]
              simp -implicitDefEqProofs
              have he := shEv ⟨3, u, s, ad, a, b, c, t⟩ ⟨3, u, 0, 0, a, 0, 0, 0⟩
              simp only [Ev.row] at he
              simp -implicitDefEqProofs [he]
              exact Ans.of (by simp [evMay, evPlain, evOf, evParts, ev0, c1, c2, c3, c4, h0, h1])
            · simp -implicitDefEqProofs [c1, c2, c3, c4]; exact Ans.of (by simp [evMay, c4])
          · simp -implicitDefEqProofs [c1, c2, c3]; exact Ans.of (by simp [evMay, c3])
        · simp -implicitDefEqProofs [c1, c2]; exact Ans.of (by simp [evMay, c2])
      · simp -implicitDefEqProofs [c1]; exact Ans.of (by simp [evMay, c1])
theorem event_May_4 (hR : R.Ok) (u s ad a b c t : Int) {h : AHeap A} {K : AVal → AHeap A → Prop} (hk : K (.bool (evMay ⟨4, u, s, ad, a, b, c, t⟩)) h) : Tri Pr R n_event_May [.agg (Ev.row ⟨4, u, s, ad, a, b, c, t⟩)] h K := by
  refine Tri.fn1 hR _ rfl rfl ?_ hk
  apply c_event_May
  unfold p_event_May
  simp -implicitDefEqProofs [Ev.row]
  apply c_event_parts
  unfold p_event_parts
  simp -implicitDefEqProofs [appP, appV, srcOf, cellsAt]
  repeat (first | refine joinP_go ?_ | simp -implicitDefEqProofs [appP, appV, srcOf, cellsAt])
  refine loopP_unr 5 ?_
  rw [unr]
  simp -implicitDefEqProofs
  refine field_NumMay_ok _ ?_
  cases h0 : nMay u with
  | false => simp -implicitDefEqProofs; exact Ans.of (by simp [evMay, evParts, h0])
  | true =>
    simp -implicitDefEqProofs
    refine Gives.done (by simp) ?_
    rw [unr]
    simp -implicitDefEqProofs
    refine joinP_go ?_
    by_cases c1 : u < 8
    · by_cases c2 : ad < 16
      · by_cases c3 : t ≤ 1048575
        · by_cases c4 : c ≤ 1048576
          · simp -implicitDefEqProofs [c1, c2, c3, c4]
            apply c_event_plain
            unfold p_event_plain
            simp -implicitDefEqProofs
            apply c_event_parts
            unfold p_event_parts
            simp -implicitDefEqProofs [appP, appV, srcOf, cellsAt]
            repeat (first | refine joinP_go ?_ | simp -implicitDefEqProofs [appP, appV, srcOf, cellsAt])
            apply c_event_parts
            unfold p_event_parts
            simp -implicitDefEqProofs [appP, appV, srcOf, cellsAt]
            repeat (first | refine joinP_go ?_ | simp -implicitDefEqProofs [appP, appV, srcOf, cellsAt])
            refine loopP_unr 5 ?_
            rw [unr]
            simp -implicitDefEqProofs
            refine Gives.done (by simp) ?_
            rw [unr]
            simp -implicitDefEqProofs
            have he := shEv ⟨4, u, s, ad, a, b, c, t⟩ ⟨4, u, 0, 0, 0, 0, 0, 0⟩
            simp only [Ev.row] at he
            simp -implicitDefEqProofs [he]
            exact Ans.of (by simp [evMay, evPlain, evOf, evParts, ev0, c1, c2, c3, c4, h0])
          · simp -implicitDefEqProofs [c1, c2, c3, c4]; exact Ans.of (by simp [evMay, c4])
        · simp -implicitDefEqProofs [c1, c2, c3]; exact Ans.of (by simp [evMay, c3])
      · simp -implicitDefEqProofs [c1, c2]; exact Ans.of (by simp [evMay, c2])
    · simp -implicitDefEqProofs [c1]; exact Ans.of (by simp [evMay, c1])
theorem event_May_5 (hR : R.Ok) (u s ad a b c t : Int) {h : AHeap A} {K : AVal → AHeap A → Prop} (hk : K (.bool (evMay ⟨5, u, s, ad, a, b, c, t⟩)) h) : Tri Pr R n_event_May [.agg (Ev.row ⟨5, u, s, ad, a, b, c, t⟩)] h K := by
  refine Tri.fn1 hR _ rfl rfl ?_ hk
  apply c_event_May
  unfold p_event_May
  simp -implicitDefEqProofs [Ev.row]
  apply c_event_parts
  unfold p_event_parts
  simp -implicitDefEqProofs [appP, appV, srcOf, cellsAt]
  repeat (first | refine joinP_go ?_ | simp -implicitDefEqProofs [appP, appV, srcOf, cellsAt])
  refine loopP_unr 5 ?_
  rw [unr]
  simp -implicitDefEqProofs
  refine field_NumMay_ok _ ?_
  cases h0 : nMay s with
  | false => simp -implicitDefEqProofs; exact Ans.of (by simp [evMay, evParts, h0])
  | true =>
    simp -implicitDefEqProofs
    refine Gives.done (by simp) ?_
    rw [unr]
    simp -implicitDefEqProofs
    refine field_NumMay_ok _ ?_
    cases h1 : nMay u with
    | false => simp -implicitDefEqProofs; exact Ans.of (by simp [evMay, evParts, h0, h1])
    | true =>
      simp -implicitDefEqProofs
      refine Gives.done (by simp) ?_
      rw [unr]
      simp -implicitDefEqProofs
      refine field_NumMay_ok _ ?_
      cases h2 : nMay ad with
      | false => simp -implicitDefEqProofs; exact Ans.of (by simp [evMay, evParts, h0, h1, h2])
      | true =>
        simp -implicitDefEqProofs
        refine Gives.done (by simp) ?_
        rw [unr]
        simp -implicitDefEqProofs
        refine field_NumMay_ok _ ?_
        cases h3 : nMay t with
        | false => simp -implicitDefEqProofs; exact Ans.of (by simp [evMay, evParts, h0, h1, h2, h3])
        | true =>
          simp -implicitDefEqProofs
          refine Gives.done (by simp) ?_
          rw [unr]
          simp -implicitDefEqProofs
          refine joinP_go ?_
          by_cases c1 : u < 8
          · by_cases c2 : ad < 16
            · by_cases c3 : t ≤ 1048575
              · by_cases c4 : c ≤ 1048576
                · simp -implicitDefEqProofs [c1, c2, c3, c4]
                  apply c_event_plain
                  unfold p_event_plain
                  simp -implicitDefEqProofs
                  apply c_event_parts
                  unfold p_event_parts
                  simp -implicitDefEqProofs [appP, appV, srcOf, cellsAt]
                  repeat (first | refine joinP_go ?_ | simp -implicitDefEqProofs [appP, appV, srcOf, cellsAt])
                  apply c_event_parts
                  unfold p_event_parts
                  simp -implicitDefEqProofs [appP, appV, srcOf, cellsAt]
                  repeat (first | refine joinP_go ?_ | simp -implicitDefEqProofs [appP, appV, srcOf, cellsAt])
                  refine loopP_unr 5 ?_
                  rw [unr]
                  simp -implicitDefEqProofs
                  refine Gives.done (by simp) ?_
                  rw [unr]
                  simp -implicitDefEqProofs
                  refine Gives.done (by simp) ?_
                  rw [unr]
                  simp -implicitDefEqProofs
                  refine Gives.done (by simp) ?_
                  rw [unr]
                  simp -implicitDefEqProofs
                  refine Gives.done (by simp) ?_
                  rw [unr]
                  simp -implicitDefEqProofs
                  have he := shEv ⟨5, u, s, ad, a, b, c, t⟩ ⟨5, u, s, ad, 0, 0, 0, t⟩
                  simp only [Ev.row] at he
                  simp -implicitDefEqProofs [he]
                  exact Ans.of (by simp [evMay, evPlain, evOf, evParts, ev0, c1, c2, c3, c4, h0, h1, h2, h3])
                · simp -implicitDefEqProofs [c1, c2, c3, c4]; exact Ans.of (by simp [evMay, c4])
              · simp -implicitDefEqProofs [c1, c2, c3]; exact Ans.of (by simp [evMay, c3])
            · simp -implicitDefEqProofs [c1, c2]; exact Ans.of (by simp [evMay, c2])
          · simp -implicitDefEqProofs [c1]; exact Ans.of (by simp [evMay, c1])
theorem event_May_6 (hR : R.Ok) (u s ad a b c t : Int) {h : AHeap A} {K : AVal → AHeap A → Prop} (hk : K (.bool (evMay ⟨6, u, s, ad, a, b, c, t⟩)) h) : Tri Pr R n_event_May [.agg (Ev.row ⟨6, u, s, ad, a, b, c, t⟩)] h K := by
  refine Tri.fn1 hR _ rfl rfl ?_ hk
  apply c_event_May
  unfold p_event_May
  by_cases c0 : 4 < b
  · simp -implicitDefEqProofs [Ev.row, c0]; exact Ans.of (by simp [evMay, c0])
  · simp -implicitDefEqProofs [Ev.row, c0]
    apply c_event_parts
    unfold p_event_parts
    simp -implicitDefEqProofs [appP, appV, srcOf, cellsAt]
    repeat (first | refine joinP_go ?_ | simp -implicitDefEqProofs [appP, appV, srcOf, cellsAt])
    refine loopP_unr 5 ?_
    rw [unr]
    simp -implicitDefEqProofs
    refine field_NumMay_ok _ ?_
    cases h0 : nMay s with
    | false => simp -implicitDefEqProofs; exact Ans.of (by simp [evMay, evParts, h0])
    | true =>
      simp -implicitDefEqProofs
      refine Gives.done (by simp) ?_
      rw [unr]
      simp -implicitDefEqProofs
      refine field_NumMay_ok _ ?_
      cases h1 : nMay a with
      | false => simp -implicitDefEqProofs; exact Ans.of (by simp [evMay, evParts, h0, h1])
      | true =>
        simp -implicitDefEqProofs
        refine Gives.done (by simp) ?_
        rw [unr]
        simp -implicitDefEqProofs
        refine field_NumMay_ok _ ?_
        cases h2 : nMay b with
        | false => simp -implicitDefEqProofs; exact Ans.of (by simp [evMay, evParts, h0, h1, h2])
        | true =>
          simp -implicitDefEqProofs
          refine Gives.done (by simp) ?_
          rw [unr]
          simp -implicitDefEqProofs
          refine field_NumMay_ok _ ?_
          cases h3 : nMay t with
          | false => simp -implicitDefEqProofs; exact Ans.of (by simp [evMay, evParts, h0, h1, h2, h3])
          | true =>
            simp -implicitDefEqProofs
            refine Gives.done (by simp) ?_
            rw [unr]
            simp -implicitDefEqProofs
            refine joinP_go ?_
            by_cases c1 : u < 8
            · by_cases c2 : ad < 16
              · by_cases c3 : t ≤ 1048575
                · by_cases c4 : c ≤ 1048576
                  · simp -implicitDefEqProofs [c1, c2, c3, c4]
                    apply c_event_plain
                    unfold p_event_plain
                    simp -implicitDefEqProofs
                    apply c_event_parts
                    unfold p_event_parts
                    simp -implicitDefEqProofs [appP, appV, srcOf, cellsAt]
                    repeat (first | refine joinP_go ?_ | simp -implicitDefEqProofs [appP, appV, srcOf, cellsAt])
                    apply c_event_parts
                    unfold p_event_parts
                    simp -implicitDefEqProofs [appP, appV, srcOf, cellsAt]
                    repeat (first | refine joinP_go ?_ | simp -implicitDefEqProofs [appP, appV, srcOf, cellsAt])
                    refine loopP_unr 5 ?_
                    rw [unr]
                    simp -implicitDefEqProofs
                    refine Gives.done (by simp) ?_
                    rw [unr]
                    simp -implicitDefEqProofs
                    refine Gives.done (by simp) ?_
                    rw [unr]
                    simp -implicitDefEqProofs
                    refine Gives.done (by simp) ?_
                    rw [unr]
                    simp -implicitDefEqProofs
                    refine Gives.done (by simp) ?_
                    rw [unr]
                    simp -implicitDefEqProofs
                    have he := shEv ⟨6, u, s, ad, a, b, c, t⟩ ⟨6, 0, s, 0, a, b, 0, t⟩
                    simp only [Ev.row] at he
                    simp -implicitDefEqProofs [he]
                    exact Ans.of (by simp [evMay, evPlain, evOf, evParts, ev0, c1, c2, c3, c4, h0, h1, h2, h3, c0])
                  · simp -implicitDefEqProofs [c1, c2, c3, c4]; exact Ans.of (by simp [evMay, c4])
                · simp -implicitDefEqProofs [c1, c2, c3]; exact Ans.of (by simp [evMay, c3])
              · simp -implicitDefEqProofs [c1, c2]; exact Ans.of (by simp [evMay, c2])
            · simp -implicitDefEqProofs [c1]; exact Ans.of (by simp [evMay, c1])
theorem event_May_7 (hR : R.Ok) (u s ad a b c t : Int) {h : AHeap A} {K : AVal → AHeap A → Prop} (hk : K (.bool (evMay ⟨7, u, s, ad, a, b, c, t⟩)) h) : Tri Pr R n_event_May [.agg (Ev.row ⟨7, u, s, ad, a, b, c, t⟩)] h K := by
  refine Tri.fn1 hR _ rfl rfl ?_ hk
  apply c_event_May
  unfold p_event_May
  simp -implicitDefEqProofs [Ev.row]
  apply c_event_parts
  unfold p_event_parts
  simp -implicitDefEqProofs [appP, appV, srcOf, cellsAt]
  repeat (first | refine joinP_go ?_ | simp -implicitDefEqProofs [appP, appV, srcOf, cellsAt])
  refine loopP_unr 5 ?_
  rw [unr]
  simp -implicitDefEqProofs
  refine field_NumMay_ok _ ?_
  cases h0 : nMay u with
  | false => simp -implicitDefEqProofs; exact Ans.of (by simp [evMay, evParts, h0])
  | true =>
    simp -implicitDefEqProofs
    refine Gives.done (by simp) ?_
    rw [unr]
    simp -implicitDefEqProofs
    refine joinP_go ?_
    by_cases c1 : u < 8
    · by_cases c2 : ad < 16
      · by_cases c3 : t ≤ 1048575
        · by_cases c4 : c ≤ 1048576
          · simp -implicitDefEqProofs [c1, c2, c3, c4]
            apply c_event_plain
            unfold p_event_plain
            simp -implicitDefEqProofs
            apply c_event_parts
            unfold p_event_parts
            simp -implicitDefEqProofs [appP, appV, srcOf, cellsAt]
            repeat (first | refine joinP_go ?_ | simp -implicitDefEqProofs [appP, appV, srcOf, cellsAt])
            apply c_event_parts
            unfold p_event_parts
            simp -implicitDefEqProofs [appP, appV, srcOf, cellsAt]
            repeat (first | refine joinP_go ?_ | simp -implicitDefEqProofs [appP, appV, srcOf, cellsAt])
            refine loopP_unr 5 ?_
            rw [unr]
            simp -implicitDefEqProofs
            refine Gives.done (by simp) ?_
            rw [unr]
            simp -implicitDefEqProofs
            have he := shEv ⟨7, u, s, ad, a, b, c, t⟩ ⟨7, u, 0, 0, 0, 0, 0, 0⟩
            simp only [Ev.row] at he
            simp -implicitDefEqProofs [he]
            exact Ans.of (by simp [evMay, evPlain, evOf, evParts, ev0, c1, c2, c3, c4, h0])
          · simp -implicitDefEqProofs [c1, c2, c3, c4]; exact Ans.of (by simp [evMay, c4])
        · simp -implicitDefEqProofs [c1, c2, c3]; exact Ans.of (by simp [evMay, c3])
      · simp -implicitDefEqProofs [c1, c2]; exact Ans.of (by simp [evMay, c2])
    · simp -implicitDefEqProofs [c1]; exact Ans.of (by simp [evMay, c1])
theorem event_May_8 (hR : R.Ok) (u s ad a b c t : Int) {h : AHeap A} {K : AVal → AHeap A → Prop} (hk : K (.bool (evMay ⟨8, u, s, ad, a, b, c, t⟩)) h) : Tri Pr R n_event_May [.agg (Ev.row ⟨8, u, s, ad, a, b, c, t⟩)] h K := by
  refine Tri.fn1 hR _ rfl rfl ?_ hk
  apply c_event_May
  unfold p_event_May
  simp -implicitDefEqProofs [Ev.row]
  apply c_event_parts
  unfold p_event_parts
  simp -implicitDefEqProofs [appP, appV, srcOf, cellsAt]
  repeat (first | refine joinP_go ?_ | simp -implicitDefEqProofs [appP, appV, srcOf, cellsAt])
  refine loopP_unr 5 ?_
  rw [unr]
  simp -implicitDefEqProofs
  refine joinP_go ?_
  by_cases c1 : u < 8
  · by_cases c2 : ad < 16
    · by_cases c3 : t ≤ 1048575
      · by_cases c4 : c ≤ 1048576
        · simp -implicitDefEqProofs [c1, c2, c3, c4]
          apply c_event_plain
          unfold p_event_plain
          simp -implicitDefEqProofs
          apply c_event_parts
          unfold p_event_parts
          simp -implicitDefEqProofs [appP, appV, srcOf, cellsAt]
          repeat (first | refine joinP_go ?_ | simp -implicitDefEqProofs [appP, appV, srcOf, cellsAt])
          apply c_event_parts
          unfold p_event_parts
          simp -implicitDefEqProofs [appP, appV, srcOf, cellsAt]
          repeat (first | refine joinP_go ?_ | simp -implicitDefEqProofs [appP, appV, srcOf, cellsAt])
          refine loopP_unr 5 ?_
          rw [unr]
          simp -implicitDefEqProofs
          have he := shEv ⟨8, u, s, ad, a, b, c, t⟩ ⟨8, 0, 0, 0, 0, 0, 0, 0⟩
          simp only [Ev.row] at he
          simp -implicitDefEqProofs [he]
          exact Ans.of (by simp [evMay, evPlain, evOf, evParts, ev0, c1, c2, c3, c4])
        · simp -implicitDefEqProofs [c1, c2, c3, c4]; exact Ans.of (by simp [evMay, c4])
      · simp -implicitDefEqProofs [c1, c2, c3]; exact Ans.of (by simp [evMay, c3])
    · simp -implicitDefEqProofs [c1, c2]; exact Ans.of (by simp [evMay, c2])
  · simp -implicitDefEqProofs [c1]; exact Ans.of (by simp [evMay, c1])
theorem event_May_9 (hR : R.Ok) (u s ad a b c t : Int) {h : AHeap A} {K : AVal → AHeap A → Prop} (hk : K (.bool (evMay ⟨9, u, s, ad, a, b, c, t⟩)) h) : Tri Pr R n_event_May [.agg (Ev.row ⟨9, u, s, ad, a, b, c, t⟩)] h K := by
  refine Tri.fn1 hR _ rfl rfl ?_ hk
  apply c_event_May
  unfold p_event_May
  simp -implicitDefEqProofs [Ev.row]
  apply c_event_parts
  unfold p_event_parts
  simp -implicitDefEqProofs [appP, appV, srcOf, cellsAt]
  repeat (first | refine joinP_go ?_ | simp -implicitDefEqProofs [appP, appV, srcOf, cellsAt])
  refine loopP_unr 5 ?_
  rw [unr]
  simp -implicitDefEqProofs
  refine field_NumMay_ok _ ?_
  cases h0 : nMay s with
  | false => simp -implicitDefEqProofs; exact Ans.of (by simp [evMay, evParts, h0])
  | true =>
    simp -implicitDefEqProofs
    refine Gives.done (by simp) ?_
    rw [unr]
    simp -implicitDefEqProofs
    refine joinP_go ?_
    by_cases c1 : u < 8
    · by_cases c2 : ad < 16
      · by_cases c3 : t ≤ 1048575
        · by_cases c4 : c ≤ 1048576
          · simp -implicitDefEqProofs [c1, c2, c3, c4]
            apply c_event_plain
            unfold p_event_plain
            simp -implicitDefEqProofs
            apply c_event_parts
            unfold p_event_parts
            simp -implicitDefEqProofs [appP, appV, srcOf, cellsAt]
            repeat (first | refine joinP_go ?_ | simp -implicitDefEqProofs [appP, appV, srcOf, cellsAt])
            apply c_event_parts
            unfold p_event_parts
            simp -implicitDefEqProofs [appP, appV, srcOf, cellsAt]
            repeat (first | refine joinP_go ?_ | simp -implicitDefEqProofs [appP, appV, srcOf, cellsAt])
            refine loopP_unr 5 ?_
            rw [unr]
            simp -implicitDefEqProofs
            refine Gives.done (by simp) ?_
            rw [unr]
            simp -implicitDefEqProofs
            have he := shEv ⟨9, u, s, ad, a, b, c, t⟩ ⟨9, 0, s, 0, 0, 0, 0, 0⟩
            simp only [Ev.row] at he
            simp -implicitDefEqProofs [he]
            exact Ans.of (by simp [evMay, evPlain, evOf, evParts, ev0, c1, c2, c3, c4, h0])
          · simp -implicitDefEqProofs [c1, c2, c3, c4]; exact Ans.of (by simp [evMay, c4])
        · simp -implicitDefEqProofs [c1, c2, c3]; exact Ans.of (by simp [evMay, c3])
      · simp -implicitDefEqProofs [c1, c2]; exact Ans.of (by simp [evMay, c2])
    · simp -implicitDefEqProofs [c1]; exact Ans.of (by simp [evMay, c1])
theorem event_May_ok (hR : R.Ok) (e : Ev) {h : AHeap A} {K : AVal → AHeap A → Prop} (hk : K (.bool (evMay e)) h) : Tri Pr R n_event_May [.agg e.row] h K := by
  obtain ⟨k, u, s, ad, a, b, c, t⟩ := e
  by_cases h0 : k < 0
  · refine Tri.fn1 hR _ rfl rfl ?_ hk
    apply c_event_May
    unfold p_event_May
    simp -implicitDefEqProofs [Ev.row, h0]; exact Ans.of (by simp [evMay]; omega)
  by_cases h1 : 9 < k
  · refine Tri.fn1 hR _ rfl rfl ?_ hk
    apply c_event_May
    unfold p_event_May
    simp -implicitDefEqProofs [Ev.row, h0, h1]; exact Ans.of (by simp [evMay]; omega)
  have hc : k = 0 ∨ k = 1 ∨ k = 2 ∨ k = 3 ∨ k = 4 ∨ k = 5 ∨ k = 6 ∨ k = 7 ∨ k = 8 ∨ k = 9 := by omega
  rcases hc with rfl | rfl | rfl | rfl | rfl | rfl | rfl | rfl | rfl | rfl
  · exact event_May_0 hR u s ad a b c t hk
  · exact event_May_1 hR u s ad a b c t hk
  · exact event_May_2 hR u s ad a b c t hk
  · exact event_May_3 hR u s ad a b c t hk
  · exact event_May_4 hR u s ad a b c t hk
  · exact event_May_5 hR u s ad a b c t hk
  · exact event_May_6 hR u s ad a b c t hk
  · exact event_May_7 hR u s ad a b c t hk
  · exact event_May_8 hR u s ad a b c t hk
  · exact event_May_9 hR u s ad a b c t hk
end Go.AI
