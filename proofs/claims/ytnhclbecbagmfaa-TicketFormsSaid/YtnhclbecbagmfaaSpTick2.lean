/- Tickets: the program's Get; the document's. -/
import Derived.Test.YtnhclbecbagmfaaSpTick
set_option linter.all false
namespace Go.AI
variable {A : Type} {R : Adts A}
section
variable {mk : Int → List Bs → A}
theorem ticket_open_ok (hR : R.Ok) (hB : HasBook R mk) {m : Int} {ts : List Bs} (hok : bOk m ts) (epoch tag : Int) {h : AHeap A} {b : Nat} (hb : h[b]? = some (.adt (mk m ts))) {K : AVal → AHeap A → Prop}
    (hk : match tOpen ts epoch tag with
      | some t => K (.tup [.agg t.row, .nili]) h
      | none => ∀ e, (e = 1501 ∨ e = 301) → K (.tup [.agg body0.row, .iface t_p_ticket_shut (.ptr h.length 0)]) (h ++ [shutO e])) : Tri Pr R n_ticket_open [.ptr b 0, .int .i64 epoch, .int .i64 tag] h K := by
  have hbl := (List.getElem?_eq_some_iff.1 hb).1
  have t := ticket_open_own (R := R) hR hB hok epoch tag
  have := Tri.frame hR (Sel.one (R := R) (b := b) (h := h) (o := .adt (mk m ts)) (by rw [book_ren hB]; exact hb) (book_ix hB _ _ _)) (as2 := [.ptr 0 0, .int .i64 epoch, .int .i64 tag]) rfl t
  refine this.mono ?_
  rintro v H ⟨v0, h0, hq, _, rfl, rfl⟩
  unfold OpenQ at hq
  cases ho : tOpen ts epoch tag with
  | some x =>
    rw [ho] at hq hk
    obtain ⟨rfl, rfl⟩ := hq
    have e1 : splice R [b] h [.adt (mk m ts)] = h := by
      simp [splice, setAll, book_ren hB, set_same hb]
    rw [e1]
    have e2 : (AVal.tup [.agg x.row, .nili]).ren (at_ [b] h.length) = .tup [.agg x.row, .nili] := by simp [AVal.ren, rens, Body.row]
    rw [e2]
    exact hk
  | none =>
    rw [ho] at hq hk
    obtain ⟨e, he, rfl, rfl⟩ := hq
    have e1 : splice R [b] h [.adt (mk m ts), shutO e] = h ++ [shutO e] := by
      simp [splice, setAll, hB.ren, set_same hb, shutO, AObj.ren, rens, AVal.ren]
    rw [e1]
    have e2 : (AVal.tup [.agg body0.row, .iface t_p_ticket_shut (.ptr 1 0)]).ren (at_ [b] h.length) = .tup [.agg body0.row, .iface t_p_ticket_shut (.ptr h.length 0)] := by simp [AVal.ren, rens, Body.row, at_]
    rw [e2]
    exact hk e he
def TGI (mk : Int → List Bs → A) (m : Int) (ts : List Bs) (now mn tag : Int) (tot : Option Body) (k : Nat) (y : List AVal) (g : AHeap A) : Prop :=
  ∃ e : Int, y = [.int .i64 e] ∧ g = [.adt (mk m ts), .cells t_api_Body body0.row] ∧ -1 ≤ e ∧ e ≤ now ∧ now - e ≤ mn + 1 ∧ k = (mn + 1 - (now - e)).toNat ∧ tot = tLoop ts tag k e
theorem ticket_Get_ok (hR : R.Ok) (hB : HasBook R mk) {m : Int} {ts : List Bs} (hok : bOk m ts) (now keep tag : Int) {h : AHeap A} {b : Nat} (hb : h[b]? = some (.adt (mk m ts))) {K : AVal → AHeap A → Prop}
    (hk : K (.tup [.agg (tGet ts now keep tag).1.row, .int .i64 (tGet ts now keep tag).2]) h) : Tri Pr R n_ticket_Get [.ptr b 0, .int .i64 now, .int .i64 keep, .int .i64 tag] h K := by
  refine book_own hR hB (ts' := ts) rfl rfl ?_ hb (by rw [set_same hb]; exact hk)
  apply c_ticket_Get
  unfold p_ticket_Get
  obtain ⟨q, hq⟩ : ∃ q, tGet ts now keep tag = q := ⟨_, rfl⟩
  rw [hq]
  unfold tGet at hq
  simp -implicitDefEqProofs
  refine field_NumMay_ok now ?_
  cases hn : nMay now with
  | false =>
    rw [if_neg (by simp [hn])] at hq; subst hq
    simp -implicitDefEqProofs [Body.row, body0]
  | true =>
    by_cases k1 : keep < 0
    · rw [if_neg (by omega)] at hq; subst hq
      simp -implicitDefEqProofs [k1, Body.row, body0]
    by_cases k2 : 4 < keep
    · rw [if_neg (by omega)] at hq; subst hq
      simp -implicitDefEqProofs [k1, k2, Body.row, body0]
    rw [if_pos ⟨hn, by omega, by omega⟩] at hq
    have hn2 : 0 ≤ now ∧ now ≤ 1073741823 := by simpa [nMay] using hn
    obtain ⟨mn, hmn, hm1, hm2, hm3⟩ : ∃ mn, min now keep = mn ∧ mn ≤ now ∧ mn ≤ keep ∧ (mn = now ∨ mn = keep) := ⟨_, rfl, by omega, by omega, by omega⟩
    rw [hmn] at hq
    obtain ⟨tot, htot⟩ : ∃ o, tLoop ts tag (mn.toNat + 1) now = o := ⟨_, rfl⟩
    rw [htot] at hq
    simp -implicitDefEqProofs [k1, k2]
    refine loopP_go (TGI mk m ts now mn tag tot) (mn.toNat + 1) (Gives.done (by simp) ⟨now, rfl, rfl, by omega, by omega, by omega, by omega, htot.symm⟩) ?_
    rintro k y g ⟨e, rfl, rfl, e0, e1, e2, ek, ht⟩
    have w1 := w64 (n := e - 1) (by omega)
    simp -implicitDefEqProofs
    refine ring_Live_ok hR e now keep ?_
    by_cases hl : 0 < k
    · have hlive : rLive e now keep = true := by
        simp only [rLive, Bool.and_eq_true, decide_eq_true_eq]
        refine ⟨⟨⟨⟨?_, hn⟩, ?_⟩, by omega⟩, by omega⟩
        · simp only [nMay, decide_eq_true_eq]; omega
        · simp only [nMay, decide_eq_true_eq]; omega
      rw [hlive]
      simp -implicitDefEqProofs
      refine ticket_open_ok hR hB hok e tag rfl ?_
      obtain ⟨n, rfl⟩ : ∃ n, k = n + 1 := ⟨k - 1, by omega⟩
      unfold tLoop at ht
      cases ho : tOpen ts e tag with
      | some t =>
        rw [ho] at ht
        dsimp only at ht
        rw [ht] at hq
        dsimp only at hq
        subst hq
        dsimp only
        simp -implicitDefEqProofs [Body.row, body0]
        refine Is_nil_ok _ ?_
        simp -implicitDefEqProofs
        refine Is_nil_ok _ ?_
        simp -implicitDefEqProofs
      | none =>
        rw [ho] at ht
        dsimp only at ht ⊢
        intro er her
        have fin : ∀ r : AHeap A, Gives Pr R 2 (.adt (mk m ts) :: .cells t_api_Body [.int .i64 0, .int .i64 0, .int .i64 0, .int .i64 0, .int .i64 0] :: r) [.int .i64 (e - 1)] fun z g => ∃ m', m' < n + 1 ∧ TGI mk m ts now mn tag tot m' z g := by
          intro r
          refine Gives.cut hR (m := 2) (by simp) (by simp) (by simp [ixs, AVal.ix]) ?_ ⟨n, by omega, e - 1, rfl, rfl, by omega, by omega, by omega, by omega, ?_⟩
          · simp only [List.take, List.mem_cons, List.not_mem_nil, or_false]
            rintro o (rfl | rfl)
            · exact book_low hB _ _
            · exact low_cells rfl
          · exact ht
        rcases her with rfl | rfl
        · simp -implicitDefEqProofs [Body.row, body0]
          refine Is_ticket_shut_ok 1501 1501 (j := 2) rfl rfl ?_
          simp -implicitDefEqProofs [w1]
          exact fin _
        · simp -implicitDefEqProofs [Body.row, body0]
          refine Is_ticket_shut_ok 301 1501 (j := 2) rfl rfl ?_
          simp -implicitDefEqProofs
          refine Is_ticket_shut_ok 301 301 (j := 2) rfl rfl ?_
          simp -implicitDefEqProofs [w1]
          exact fin _
    · have hlive : rLive e now keep = false := by
        cases h : rLive e now keep with
        | false => rfl
        | true =>
          simp only [rLive, Bool.and_eq_true, decide_eq_true_eq] at h
          obtain ⟨⟨⟨⟨a, _⟩, _⟩, c⟩, d⟩ := h
          simp only [nMay, decide_eq_true_eq] at a
          omega
      rw [hlive]
      obtain rfl : k = 0 := by omega
      rw [ht] at hq
      unfold tLoop at hq
      dsimp only at hq
      subst hq
      simp -implicitDefEqProofs [Body.row, body0]
end
end Go.AI
