/- Tickets: the statements. -/
import Derived.Test.YtnhclbecbagmfaaSpTick4
import Derived.Test.YtnhclbecbagmfaaSpTw15
import Derived.Test.YtnhclbecbagmfaaSpRecT
set_option linter.all false
namespace Go.AI
variable {A : Type} {R : Adts A}
theorem shBody (r q : Body) : shEq (Sh.st [(0, 1, Sh.i), (1, 1, Sh.i), (2, 1, Sh.i), (3, 1, Sh.i), (4, 1, Sh.i)]) r.row q.row = some (decide (r = q)) := by
  obtain ⟨x, y, z, k, u⟩ := r
  obtain ⟨x2, y2, z2, k2, u2⟩ := q
  simp [Body.row, shEq, shEqs]
  rfl
theorem bOk_tput {m : Int} {ts q : List Bs} {ep : Int} {b : Body} {n e : Int} (h : bOk m ts) (he : tPut m ts ep b = (q, n, e)) : bOk m q := by
  have := tPut_ok (epoch := ep) (b := b) h
  rwa [he] at this
theorem tPut_bad {m : Int} {ts : List Bs} {ep : Int} {b : Body} (h : bMay b = false) : tPut m ts ep b = (ts, 0, 1500) := by
  unfold tPut; rw [if_neg (by simp [h])]
section
variable {mk : Int → List Bs → A}
theorem TPut_at (hR : R.Ok) (hB : HasBook R mk) {m : Int} {ts q : List Bs} {ep : Int} {t : Body} {n e : Int} (hok : bOk m ts) (he : tPut m ts ep t = (q, n, e)) {h : AHeap A} {b : Nat} (hb : h[b]? = some (.adt (mk m ts))) {K : AVal → AHeap A → Prop}
    (hk : K (.tup [.int .i64 n, .int .i64 e]) (h.set b (.adt (mk m q)))) : Tri Pr R n_ticket_Put [.ptr b 0, .int .i64 ep, .agg t.row] h K := by
  refine ticket_Put_ok hR hB hok ep t hb ?_
  rw [he]; exact hk
theorem TGet_at (hR : R.Ok) (hB : HasBook R mk) {m : Int} {ts : List Bs} {now keep tag : Int} {t : Body} {e : Int} (hok : bOk m ts) (he : tGet ts now keep tag = (t, e)) {h : AHeap A} {b : Nat} (hb : h[b]? = some (.adt (mk m ts))) {K : AVal → AHeap A → Prop}
    (hk : K (.tup [.agg t.row, .int .i64 e]) h) : Tri Pr R n_ticket_Get [.ptr b 0, .int .i64 now, .int .i64 keep, .int .i64 tag] h K := by
  refine ticket_Get_ok hR hB hok now keep tag hb ?_
  rw [he]; exact hk
theorem TGet_nil (hR : R.Ok) (now keep tag : Int) {h : AHeap A} {K : AVal → AHeap A → Prop} (hk : K (.tup [.agg body0.row, .int .i64 1]) h) : Tri Pr R n_ticket_Get [.nilp, .int .i64 now, .int .i64 keep, .int .i64 tag] h K := by
  refine Tri.fn1 hR _ rfl rfl ?_ hk
  apply c_ticket_Get
  unfold p_ticket_Get
  simp -implicitDefEqProofs [Body.row, body0]
  exact Ans.rfl' _
theorem RTPut_at (hR : R.Ok) (hB : HasRBook R mk) {m : Int} {ts q : List Bs} {ep : Int} {t : Body} {n e : Int} (hok : bOk m ts) (he : tPut m ts ep t = (q, n, e)) {h : AHeap A} {b : Nat} (hb : h[b]? = some (.adt (mk m ts))) {K : AVal → AHeap A → Prop}
    (hk : K (.tup [.int .i64 n, .int .i64 e]) (h.set b (.adt (mk m q)))) : Tri Pr R n_ref12_PutTicket [.ptr b 0, .int .i64 ep, .agg t.row] h K := by
  refine ref12_PutTicket_ok hR hB hok ep t hb ?_
  rw [he]; exact hk
theorem RTGet_at (hR : R.Ok) (hB : HasRBook R mk) {m : Int} {ts : List Bs} {now keep tag : Int} {t : Body} {e : Int} (hok : bOk m ts) (he : tGet ts now keep tag = (t, e)) {h : AHeap A} {b : Nat} (hb : h[b]? = some (.adt (mk m ts))) {K : AVal → AHeap A → Prop}
    (hk : K (.tup [.agg t.row, .int .i64 e]) h) : Tri Pr R n_ref12_GetTicket [.ptr b 0, .int .i64 now, .int .i64 keep, .int .i64 tag] h K := by
  refine ref12_GetTicket_ok hR hB hok now keep tag hb ?_
  rw [he]; exact hk
end
section
variable {bk rbk : Int → List Bs → A}
theorem awake15_ok (hR : R.Ok) (hB : HasBook R bk) (hB' : HasRBook R rbk) {h : AHeap A} {K : AVal → AHeap A → Prop} (hk : K (.bool true) h) : Tri Pr R n_law15_awake [] h K := by
  refine Tri.fn1 hR _ rfl rfl ?_ hk
  apply c_law15_awake
  unfold p_law15_awake
  refine law15_twin_ok hR hB hB' 9 ?_
  rw [if_pos (by omega)]
  simp -implicitDefEqProofs
  have b0 : bOk 9 [] := bOk_nil (by omega)
  obtain ⟨t1, e1⟩ : ∃ t : List Bs, t = [65 :: eTerm 4, 83 :: (nS 0 ++ nAll [2, 1, 500, 7, 3])] := ⟨_, rfl⟩
  have k1 : tPut 9 [] 4 ⟨2, 1, 500, 7, 3⟩ = (t1, 1, 0) := by rw [e1]; decide +kernel
  have b1 := bOk_tput b0 k1
  have k2 : tGet t1 5 1 1 = (⟨2, 1, 500, 7, 3⟩, 0) := by rw [e1]; decide +kernel
  have k3 : tGet t1 6 1 1 = (body0, 1501) := by rw [e1]; decide +kernel
  have k4 : tGet t1 3 1 1 = (body0, 1501) := by rw [e1]; decide +kernel
  have k5 : tPut 9 t1 4 ⟨8, 0, 0, 0, 0⟩ = (t1, 0, 1500) := tPut_bad (by decide)
  have k6 : tGet t1 4 1 2 = (body0, 1501) := by rw [e1]; decide +kernel
  have k7 : (t1.length : Int) = 2 := by rw [e1]; rfl
  clear e1
  refine TPut_at (t := ⟨2, 1, 500, 7, 3⟩) hR hB b0 k1 rfl ?_
  simp -implicitDefEqProofs
  refine TGet_at hR hB b1 k2 rfl ?_
  simp -implicitDefEqProofs [Body.row]
  refine TGet_at hR hB b1 k3 rfl ?_
  simp -implicitDefEqProofs [Body.row, body0]
  refine TGet_at hR hB b1 k4 rfl ?_
  simp -implicitDefEqProofs [Body.row, body0]
  refine TPut_at (t := ⟨8, 0, 0, 0, 0⟩) hR hB b1 k5 rfl ?_
  simp -implicitDefEqProofs
  refine TGet_at hR hB b1 k6 rfl ?_
  have hs := shBody ⟨2, 1, 500, 7, 3⟩ ⟨2, 1, 500, 7, 3⟩
  simp only [Body.row] at hs
  simp -implicitDefEqProofs [Body.row, body0]
  repeat (refine num14_ok ?_; simp -implicitDefEqProofs [hs])
  refine Len_at hR hB k7 rfl ?_
  simp -implicitDefEqProofs
  exact Ans.rfl' _
def TicksI (bk rbk : Int → List Bs → A) (m N M : Int) (k : Nat) (y : List AVal) (g : AHeap A) : Prop :=
  ∃ (i : Int) (ts : List Bs), y = [.int .i64 i] ∧ g = [.adt (bk m ts), .adt (rbk m ts)] ∧ bOk m ts ∧ 0 ≤ i ∧ i ≤ 20 ∧ k = (20 - i).toNat
theorem same15_any (hR : R.Ok) (hB : HasBook R bk) (hB' : HasRBook R rbk) {m : Int} {ts : List Bs} (hok : bOk m ts) {r : AHeap A} {K : AVal → AHeap A → Prop} (hk : ∀ H, K (.bool true) H) :
    Tri Pr R n_law15_sameBooks [.ptr 0 0, .ptr 1 0] (.adt (bk m ts) :: .adt (rbk m ts) :: r) K := by
  have s : Sel R [0, 1] (.adt (bk m ts) :: .adt (rbk m ts) :: r : AHeap A) [.adt (bk m ts), .adt (rbk m ts)] := by
    refine ⟨rfl, by decide, fun k o hk => ?_, fun o ho => ?_⟩
    · match k, hk with
      | 0, hk => simp at hk; subst hk; exact ⟨0, rfl, by simp [book_ren hB]⟩
      | 1, hk => simp at hk; subst hk; exact ⟨1, rfl, by simp [rbook_ren hB']⟩
      | k + 2, hk => simp at hk
    · simp only [List.mem_cons, List.not_mem_nil, or_false] at ho
      rcases ho with rfl | rfl
      · exact book_ix hB _ _ _
      · exact rbook_ix hB' _ _ _
  refine (Tri.frame hR s (as2 := [.ptr 0 0, .ptr 1 0]) rfl (same15_ok hR hB hB' hok (K := fun v _ => v = .bool true) rfl)).mono ?_
  rintro v H ⟨v0, h0, rfl, _, rfl, rfl⟩
  exact hk _
theorem Tickets_ok (hR : R.Ok) (hB : HasBook R bk) (hB' : HasRBook R rbk) (most : Int) (a : AVal) (l : List Bs) (ha : IsStrs a l) (b : AVal) (es : List Int) (hb : IsInts b es) (c : AVal) (bs : List Body) (hc : IsRows Body.row c bs) (now keep tag : Int) :
    Tri Pr R n_law15_Tickets [.int .i64 most, a, b, c, .int .i64 now, .int .i64 keep, .int .i64 tag] [] fun u _ => u = .bool true := by
  apply c_law15_Tickets
  unfold p_law15_Tickets
  refine law15_twins_ok hR hB hB' most a l ha ?_
  by_cases hm : 1 ≤ most ∧ most ≤ 65536
  · rw [if_pos hm]
    intro ts0 b0
    simp -implicitDefEqProofs
    refine loopP_go (TicksI bk rbk most es.length bs.length) 20 (Gives.done (by simp) ⟨0, ts0, rfl, rfl, b0, by omega, by omega, rfl⟩) ?_
    rintro k y g ⟨i, ts, rfl, rfl, hok, i0, i20, rfl⟩
    have e2 := w64 (n := i + 1) (by omega)
    by_cases h1 : i < bs.length ∧ i < es.length ∧ i < 20
    · obtain ⟨h1, h2, h3⟩ := h1
      obtain ⟨x, bb, oo, cs, hx, hg⟩ := hc.get (w := 5) (fun x => rfl) i0 h1
      obtain ⟨eb, eo, ec, he⟩ := hb.get i0 h2
      generalize es.getD i.toNat 0 = ep at he
      simp -implicitDefEqProofs [hc.len, hb.len, h1, h2, h3, hg, he, Body.row]
      obtain ⟨⟨q, n, e⟩, k1⟩ : ∃ z, tPut most ts ep x = z := ⟨_, rfl⟩
      have hok' := bOk_tput hok k1
      refine TPut_at (t := x) hR hB hok k1 rfl ?_
      simp -implicitDefEqProofs [hg, he, Body.row]
      refine RTPut_at (t := x) hR hB' hok k1 rfl ?_
      simp -implicitDefEqProofs
      obtain ⟨⟨y, f⟩, k2⟩ : ∃ z, tGet q now keep n = z := ⟨_, rfl⟩
      refine TGet_at hR hB hok' k2 rfl ?_
      simp -implicitDefEqProofs [Body.row]
      refine RTGet_at hR hB' hok' k2 rfl ?_
      have hsy := shBody y y
      simp only [Body.row] at hsy
      simp -implicitDefEqProofs [Body.row]
      refine num14_ok ?_
      simp -implicitDefEqProofs [hsy]
      refine num14_ok ?_
      simp -implicitDefEqProofs [e2]
      refine Gives.cut hR (m := 2) (by simp) (by simp) (by simp [ixs, AVal.ix]) ?_ ?_
      · simp only [List.take, List.mem_cons, List.not_mem_nil, or_false]
        rintro o (rfl | rfl)
        · exact book_low hB _ _
        · exact rbook_low hB' _ _
      · exact ⟨(20 - (i + 1)).toNat, by omega, i + 1, q, rfl, rfl, hok', by omega, by omega, rfl⟩
    · by_cases c1 : i < bs.length
      · by_cases c2 : i < es.length
        · have c3 : ¬ i < 20 := fun h => h1 ⟨c1, c2, h⟩
          simp -implicitDefEqProofs [hc.len, hb.len, c1, c2, c3]
          obtain ⟨⟨y, f⟩, k2⟩ : ∃ z, tGet ts now keep tag = z := ⟨_, rfl⟩
          have hsy := shBody y y
          simp only [Body.row] at hsy
          refine TGet_at hR hB hok k2 rfl ?_
          simp -implicitDefEqProofs [Body.row]
          refine RTGet_at hR hB' hok k2 rfl ?_
          simp -implicitDefEqProofs [Body.row, hsy]
          refine num14_ok ?_
          simp -implicitDefEqProofs
          refine same15_any hR hB hB' hok fun H => ?_
          simp -implicitDefEqProofs
          refine awake15_ok hR hB hB' ?_
          simp -implicitDefEqProofs
        · simp -implicitDefEqProofs [hc.len, hb.len, c1, c2]
          obtain ⟨⟨y, f⟩, k2⟩ : ∃ z, tGet ts now keep tag = z := ⟨_, rfl⟩
          have hsy := shBody y y
          simp only [Body.row] at hsy
          refine TGet_at hR hB hok k2 rfl ?_
          simp -implicitDefEqProofs [Body.row]
          refine RTGet_at hR hB' hok k2 rfl ?_
          simp -implicitDefEqProofs [Body.row, hsy]
          refine num14_ok ?_
          simp -implicitDefEqProofs
          refine same15_any hR hB hB' hok fun H => ?_
          simp -implicitDefEqProofs
          refine awake15_ok hR hB hB' ?_
          simp -implicitDefEqProofs
      · simp -implicitDefEqProofs [hc.len, hb.len, c1]
        obtain ⟨⟨y, f⟩, k2⟩ : ∃ z, tGet ts now keep tag = z := ⟨_, rfl⟩
        have hsy := shBody y y
        simp only [Body.row] at hsy
        refine TGet_at hR hB hok k2 rfl ?_
        simp -implicitDefEqProofs [Body.row]
        refine RTGet_at hR hB' hok k2 rfl ?_
        simp -implicitDefEqProofs [Body.row, hsy]
        refine num14_ok ?_
        simp -implicitDefEqProofs
        refine same15_any hR hB hB' hok fun H => ?_
        simp -implicitDefEqProofs
        refine awake15_ok hR hB hB' ?_
        simp -implicitDefEqProofs
  · rw [if_neg hm]
    simp -implicitDefEqProofs
    refine awake15_ok hR hB hB' ?_
    simp -implicitDefEqProofs
end
end Go.AI
