/- TicketMany. -/
import Derived.Test.YtnhclbecbagmfaaSpLaw15b
import Derived.Test.YtnhclbecbagmfaaSpSel
set_option linter.all false
namespace Go.AI
variable {A : Type} {R : Adts A}
/-- A term is made: its name stands for it; the others stay. -/
theorem made_step {m : Int} {ts : List Bs} {s : Bs} (h0 : s ≠ []) (hs : s.length ≤ 512) (hm : (ts.length : Int) < m) :
    ∃ (ts' : List Bs) (n : Nat), cMade m ts s = (ts', (n : Int), 0) ∧ bTerm ts' (n : Int) = (s, 0) ∧ n < ts'.length ∧ ts'.length ≤ ts.length + 1 ∧ (∀ t r, bTerm ts t = (r, 0) → bTerm ts' t = (r, 0)) := by
  by_cases hmem : s ∈ ts
  · obtain ⟨i, h1, h2, h3⟩ := bFind_mem hmem
    exact ⟨ts, i, cMade_old h0 hs h1, bTerm_get h3, h2, by omega, fun t r h => h⟩
  · exact ⟨ts ++ [s], ts.length, cMade_new h0 hs hmem hm, bTerm_get (by simp), by simp, by simp, fun t r h => bTerm_app [s] h⟩
theorem bFind_nd {ts : List Bs} (hn : ts.Nodup) {i : Nat} {s : Bs} (h : bTerm ts (i : Int) = (s, 0)) : bFind ts s = some i := by
  obtain ⟨j, e, hj⟩ := bTerm_iff.1 h
  obtain rfl : i = j := by omega
  obtain ⟨k, h1, _, h2⟩ := bFind_mem (List.mem_of_getElem? hj)
  rw [h1, nd_get hn hj h2]
/-- A ticket that may be is made while there is room. -/
theorem tPut_any {m : Int} {ts : List Bs} {ep : Int} {b : Body} (hok : bOk m ts) (he : nMay ep = true) (hb : bMay b = true) (hm : (ts.length : Int) + 2 ≤ m) :
    ∃ (ts' : List Bs) (tag : Int) (key : Nat), tPut m ts ep b = (ts', tag, 0) ∧ bOk m ts' ∧ bTerm ts' (key : Int) = (65 :: eTerm ep, 0) ∧ nMay (key : Int) = true ∧ bTerm ts' tag = (83 :: (nS (key : Int) ++ nAll b.nums), 0) ∧ ts'.length ≤ ts.length + 2 ∧ (∀ t r, bTerm ts t = (r, 0) → bTerm ts' t = (r, 0)) := by
  have hmo := hok.most
  have hel := eTerm_len ep
  obtain ⟨t1, key, k1, k2, k3, k4, k5⟩ := made_step (m := m) (ts := ts) (s := 65 :: eTerm ep) (by simp) (by simp; omega) (by omega)
  have hl := nAll_len b.nums
  have hl5 : b.nums.length = 5 := rfl
  have hkey : nMay (key : Int) = true := by simp only [nMay, decide_eq_true_eq]; omega
  obtain ⟨t2, tag, j1, j2, j3, j4, _⟩ := key_step (m := m) (ts := t1) (k := 83) (x := (key : Int)) (s := nAll b.nums) hkey (by omega) (by omega)
  have hr : rKey m ts ep = (t1, (key : Int), 0) := by
    unfold rKey; rw [if_pos he, k1]; rfl
  have hp : tPut m ts ep b = (t2, tag, 0) := by
    unfold tPut
    rw [if_pos hb, hr]
    simp only [if_true]
    rw [j1]
    rfl
  exact ⟨t2, tag, key, hp, bOk_tput hok hp, j4 _ _ k2, hkey, j2, by omega, fun t r h => j4 _ _ (k5 _ _ h)⟩
def manyB (i : Int) : Body := ⟨i % 8, 0, 0, i, 5⟩
theorem manyB_may {i : Int} (h : 0 ≤ i ∧ i < 12) : bMay (manyB i) = true := by
  have hk : ∀ k : Fin 12, bMay (manyB (k.val : Int)) = true := by decide
  obtain ⟨k, rfl⟩ := Int.eq_ofNat_of_zero_le h.1
  exact hk ⟨k, by omega⟩
/-- Tickets of several epochs, and their names. -/
structure TMany (es : List Int) (ts : List Bs) (tg : List Int) : Prop where
  ok : bOk 99 ts
  len : ts.length ≤ 2 * tg.length
  few : tg.length ≤ 12
  tag : ∀ (j : Nat) t, tg[j]? = some t → ∃ (e : Int) (key : Nat), es[j]? = some e ∧ bTerm ts (key : Int) = (65 :: eTerm (e % 8), 0) ∧ nMay (key : Int) = true ∧ bTerm ts t = (83 :: (nS (key : Int) ++ nAll (manyB j).nums), 0)
theorem TMany.get {es : List Int} {ts : List Bs} {tg : List Int} (h : TMany es ts tg) {j : Nat} {t : Int} (hj : tg[j]? = some t) {now keep : Int} (hn : 0 ≤ now ∧ now < 16) (hk : 0 ≤ keep ∧ keep ≤ 4) :
    ∃ e, es[j]? = some e ∧ tGet ts now keep t = if e % 8 ≤ now ∧ now - e % 8 ≤ keep then (manyB j, 0) else (body0, 1501) := by
  obtain ⟨e, key, h1, h2, h3, h4⟩ := h.tag j t hj
  have hjl := (List.getElem?_eq_some_iff.1 hj).1
  have hf := h.few
  refine ⟨e, h1, tGet_live ?_ (manyB_may (by omega)) (bFind_nd h.ok.nd h2) h3 h4 ?_ hk⟩
  · have : 0 ≤ e % 8 ∧ e % 8 < 8 := by omega
    simp only [nMay, decide_eq_true_eq]; omega
  · simp only [nMay, decide_eq_true_eq]; omega
theorem TMany.snoc {es : List Int} {ts : List Bs} {tg : List Int} (h : TMany es ts tg) {e : Int} (he : es[tg.length]? = some e) (hf : tg.length < 12) :
    ∃ ts' tag, tPut 99 ts (e % 8) (manyB tg.length) = (ts', tag, 0) ∧ TMany es ts' (tg ++ [tag]) := by
  have hl := h.len
  obtain ⟨ts', tag, key, p1, p2, p3, p4, p5, p6, p7⟩ := tPut_any (ep := e % 8) (b := manyB tg.length) h.ok (by simp only [nMay, decide_eq_true_eq]; omega) (manyB_may (by omega)) (by omega)
  refine ⟨ts', tag, p1, p2, by simp; omega, by simp; omega, fun j t hj => ?_⟩
  by_cases hj2 : j < tg.length
  · rw [List.getElem?_append_left hj2] at hj
    obtain ⟨e', key', a1, a2, a3, a4⟩ := h.tag j t hj
    exact ⟨e', key', a1, p7 _ _ a2, a3, p7 _ _ a4⟩
  · rw [List.getElem?_append_right (by omega)] at hj
    obtain rfl : j = tg.length := by
      have := (List.getElem?_eq_some_iff.1 hj).1; simp at this; omega
    simp at hj; subst hj
    exact ⟨e, key, he, p3, p4, p5⟩
theorem room_8m {n : Nat} (h : n ≤ 1000) : (2 * n + 1000) * 8 ≤ 140737488355328 := by omega
section
variable {bk rbk : Int → List Bs → A}
def TMG (bk rbk : Int → List Bs → A) (ts : List Bs) (tg : List Int) (x : AVal) (g : AHeap A) : Prop :=
  (tg = [] ∧ x = .nils ∧ g = [.adt (bk 99 ts), .adt (rbk 99 [])]) ∨ (tg ≠ [] ∧ x = .sl 2 0 tg.length tg.length false ∧ g = [.adt (bk 99 ts), .adt (rbk 99 []), .cells t_int (tg.map (.int .i64))])
def TMI (bk rbk : Int → List Bs → A) (es : List Int) (n : Int) (m : Nat) (y : List AVal) (g : AHeap A) : Prop :=
  ∃ (ts : List Bs) (tg : List Int) (x : AVal), y = [x, .int .i64 tg.length] ∧ TMany es ts tg ∧ TMG bk rbk ts tg x g ∧ tg.length ≤ n ∧ m = (n - tg.length).toNat
def TMJ (base : AHeap A) (n m : Nat) (y : List AVal) (g : AHeap A) : Prop := ∃ j : Nat, y = [.int .i64 (j : Int)] ∧ j ≤ n ∧ g = base ∧ m = n - j
theorem book_shutc (hB : HasBook R bk) (m : Int) (ts : List Bs) : AObj.closed R (.adt (bk m ts) : AObj A) := ⟨fun n => book_ix hB m ts n, fun τ => book_ren hB m ts τ⟩
theorem rbook_shutc (hB : HasRBook R rbk) (m : Int) (ts : List Bs) : AObj.closed R (.adt (rbk m ts) : AObj A) := ⟨fun n => rbook_ix hB m ts n, fun τ => rbook_ren hB m ts τ⟩
theorem TicketMany_ok (hR : R.Ok) (hB : HasBook R bk) (hB' : HasRBook R rbk) (a : AVal) (es : List Int) (ha : IsInts a es) (now keep : Int) : Tri Pr R n_law15_TicketMany [a, .int .i64 now, .int .i64 keep] [] fun u _ => u = .bool true := by
  apply c_law15_TicketMany
  unfold p_law15_TicketMany
  refine awake15_ok hR hB hB' ?_
  simp -implicitDefEqProofs
  refine law15_twin_ok hR hB hB' 99 ?_
  rw [if_pos (by omega)]
  simp -implicitDefEqProofs [ha.len]
  obtain ⟨n, hn, hn1, hn2⟩ : ∃ n : Nat, (if (12 : Int) < (es.length : Int) then (12 : Int) else (es.length : Int)) = (n : Int) ∧ n ≤ es.length ∧ n ≤ 12 := by
    by_cases h : (12 : Int) < (es.length : Int)
    · exact ⟨12, by rw [if_pos h]; rfl, by omega, by omega⟩
    · exact ⟨es.length, by rw [if_neg h], by omega, by omega⟩
  rw [hn]
  refine loopP_go (TMI bk rbk es n) n (Gives.done (by simp) ⟨[], [], _, rfl, ⟨bOk_nil (by omega), by simp, by simp, by simp⟩, .inl ⟨rfl, rfl, rfl⟩, by simp, by simp⟩) ?_
  rintro m y g ⟨ts, tg, x, rfl, tm, hg, hnn, rfl⟩
  have hok := tm.ok
  have hnn' : tg.length ≤ n := by omega
  by_cases h1 : tg.length < n
  · have h1' : (tg.length : Int) < (n : Int) := by omega
    have e1 := w64 (n := (tg.length : Int) + 1) (by omega)
    obtain ⟨bb, oo, cs, hget⟩ := ha.get (n := (tg.length : Int)) (by omega) (by omega)
    have hes : es[tg.length]? = some (es.getD (tg.length : Int).toNat 0) := by
      rw [List.getD_eq_getElem?_getD, Int.toNat_natCast, List.getElem?_eq_getElem (by omega)]; rfl
    obtain ⟨ts', tag, p1, tm'⟩ := tm.snoc hes (by omega)
    generalize es.getD (tg.length : Int).toNat 0 = e at hget p1
    have hmany : (manyB (tg.length : Int)).row = [.int .i64 ((tg.length : Int) % 8), .int .i64 0, .int .i64 0, .int .i64 tg.length, .int .i64 5] := rfl
    have fin : ∀ (h : AHeap A) (c k : Nat), c ≠ 0 → c ≠ 1 → k = tg.length + 1 → h[0]? = some (.adt (bk 99 ts')) → h[1]? = some (.adt (rbk 99 [])) → h[c]? = some (.cells t_int ((tg ++ [tag]).map (.int .i64))) →
        Gives Pr R 2 h [.sl c 0 k k false, .int .i64 ((tg.length : Int) + 1)] fun z g => ∃ m', m' < n - tg.length ∧ TMI bk rbk es n m' z g := by
      rintro h c k c0 c1 rfl q0 q1 q2
      refine Gives.selc hR [0, 1, c] [.adt (bk 99 ts'), .adt (rbk 99 []), .cells t_int ((tg ++ [tag]).map (.int .i64))] [.sl 2 0 (tg.length + 1) (tg.length + 1) false, .int .i64 ((tg.length : Int) + 1)] (by simp; omega) rfl (fun k hk => ?_) (fun k j hk => ?_) ?_ ?_ rfl (by simp) ?_
      · match k, hk with
        | 0, _ => rfl
        | 1, _ => rfl
      · match k, hk with
        | 0, hk => simp at hk; subst hk; simpa using q0
        | 1, hk => simp at hk; subst hk; simpa using q1
        | 2, hk => simp at hk; subst hk; simpa using q2
        | k + 3, hk => simp at hk
      · intro o ho
        simp only [List.mem_cons, List.not_mem_nil, or_false] at ho
        rcases ho with rfl | rfl | rfl
        · exact book_shutc hB _ _
        · exact rbook_shutc hB' _ _
        · exact closed_cells (by simp [ixs_all, AVal.ix])
      · simp [rens, AVal.ren, at_]
      · exact ⟨(n - (tg ++ [tag]).length : Int).toNat, by simp; omega, ts', tg ++ [tag], .sl 2 0 (tg.length + 1) (tg.length + 1) false, by simp, tm', .inr ⟨by simp, by simp, rfl⟩, by simp; omega, rfl⟩
    simp -implicitDefEqProofs [h1', hget]
    rw [bits_mask e 3 (by omega) 7 (by decide), bits_mask (tg.length : Int) 3 (by omega) 7 (by decide)]
    rcases hg with ⟨rfl, rfl, rfl⟩ | ⟨hne, rfl, rfl⟩
    · refine TPut_at (t := manyB 0) hR hB hok p1 rfl ?_
      simp -implicitDefEqProofs
      refine num14_ok ?_
      simp -implicitDefEqProofs [appP, appV, srcOf, cellsAt]
      simpa using fin [.adt (bk 99 ts'), .adt (rbk 99 []), .cells t_int [.int .i64 tag], .cells t_int [.int .i64 tag]] 3 1 (by decide) (by decide) rfl rfl rfl rfl
    · refine TPut_at (t := manyB tg.length) hR hB hok p1 rfl ?_
      simp -implicitDefEqProofs
      refine num14_ok ?_
      have hl1 : (tg.map (AVal.int .i64)).length = tg.length := by simp
      obtain ⟨C, hC⟩ : ∃ C, tg.map (AVal.int .i64) = C := ⟨_, rfl⟩
      rw [hC] at hl1
      have t1 : C.take tg.length = C := List.take_of_length_le (by omega)
      have r1 : (2 * (tg.length + 1) + 1000) * 8 ≤ 140737488355328 := room_8m (by omega)
      have n1 : ¬ tg.length + 1 ≤ tg.length := by omega
      rw [hC]
      simp -implicitDefEqProofs [appP, appV, srcOf, cellsAt, hl1, t1, r1, n1, e1]
      exact fin _ 4 _ (by decide) (by decide) rfl rfl rfl (by simp [← hC])
  · have h1' : ¬ (tg.length : Int) < (n : Int) := by omega
    obtain rfl : n = tg.length := by omega
    rw [bits_mask now 4 (by omega) 15 (by decide)]
    obtain ⟨nw, hnw, nw0, nw1⟩ : ∃ e, now % 2 ^ 4 = e ∧ 0 ≤ e ∧ e < 16 := ⟨_, rfl, by omega, by omega⟩
    obtain ⟨k, hk, kk, k0, k5⟩ : ∃ k, (IntKind.u64.wrap keep).tmod 5 = k ∧ IntKind.i64.wrap k = k ∧ 0 ≤ k ∧ k < 5 := by
      have h1 : 0 ≤ IntKind.u64.wrap keep := by simp [IntKind.wrap, IntKind.signed, IntKind.bits]; omega
      have h2 := Int.tmod_nonneg 5 h1
      have h3 := Int.tmod_lt_of_pos (IntKind.u64.wrap keep) (b := 5) (by omega)
      exact ⟨_, rfl, w64 (by omega), h2, h3⟩
    rw [hnw]
    simp -implicitDefEqProofs [hk, kk]
    rcases hg with ⟨rfl, rfl, rfl⟩ | ⟨hne, rfl, rfl⟩
    · refine Len_at hR hB rfl rfl ?_
      simp -implicitDefEqProofs
      refine loopP_unr 1 ?_
      rw [unr]
      simp -implicitDefEqProofs
      refine Len_at hR hB rfl rfl ?_
      simp -implicitDefEqProofs
    · refine Len_at hR hB rfl rfl ?_
      have hget := fun (j : Nat) (t : Int) (hj : tg[j]? = some t) => tm.get hj (now := nw) (keep := k) ⟨nw0, nw1⟩ ⟨k0, by omega⟩
      have hC1 : ∀ (j : Nat) (t : Int), tg[j]? = some t → (tg.map (AVal.int .i64))[j]? = some (.int .i64 t) := fun j t hj => by rw [List.getElem?_map, hj]; rfl
      have hcut : ∀ o ∈ ([.adt (bk 99 ts), .adt (rbk 99 []), .cells t_int (tg.map (.int .i64))] : AHeap A), o.low R 3 := by
        simp only [List.mem_cons, List.not_mem_nil, or_false]
        rintro o (rfl | rfl | rfl)
        · exact book_low hB _ _
        · exact rbook_low hB' _ _
        · exact low_cells (by simp [ixs_all, AVal.ix])
      obtain ⟨C, hC⟩ : ∃ C, tg.map (AVal.int .i64) = C := ⟨_, rfl⟩
      rw [hC] at hC1 hcut
      rw [hC]
      refine loopP_go (TMJ _ tg.length) tg.length (Gives.done (by simp) ⟨0, rfl, by omega, rfl, by omega⟩) ?_
      rintro m y g ⟨j, rfl, hj, rfl, rfl⟩
      have e2 := w64 (n := (j : Int) + 1) (by omega)
      by_cases hjl : j < tg.length
      · obtain ⟨t, ht⟩ : ∃ t, tg[j]? = some t := ⟨_, List.getElem?_eq_getElem hjl⟩
        obtain ⟨e, he, hg1⟩ := hget j t ht
        have hc1 := hC1 j t ht
        obtain ⟨bb, oo, cs, hgt⟩ := ha.get (n := (j : Int)) (by omega) (by omega)
        have hes : es.getD (j : Int).toNat 0 = e := by
          rw [List.getD_eq_getElem?_getD, Int.toNat_natCast, he]; rfl
        rw [hes] at hgt
        have hmb : manyB (j : Int) = ⟨(j : Int) % 8, 0, 0, j, 5⟩ := rfl
        have hsj := shBody (manyB (j : Int)) (manyB (j : Int))
        rw [hmb] at hsj hg1
        simp only [Body.row] at hsj
        have w3 := w64 (n := nw - e % 8) (by omega)
        have p8 : (2 : Int) ^ 3 = 8 := by decide
        have bj : bits .i64 (· &&& ·) (j : Int) 7 = (j : Int) % 8 := by rw [bits_mask (j : Int) 3 (by omega) 7 (by decide), p8]
        simp -implicitDefEqProofs [hjl, hc1]
        have fin : ∀ r : AHeap A, Gives Pr R 3 (.adt (bk 99 ts) :: .adt (rbk 99 []) :: .cells t_int C :: r) [.int .i64 ((j : Int) + 1)] fun z k => ∃ m', m' < tg.length - j ∧ TMJ [.adt (bk 99 ts), .adt (rbk 99 []), .cells t_int C] tg.length m' z k := fun r =>
          Gives.cut hR (m := 3) (by simp) (by simp) (by simp [ixs, AVal.ix]) hcut ⟨tg.length - (j + 1), by omega, j + 1, rfl, by omega, rfl, rfl⟩
        by_cases l1 : e % 8 ≤ nw
        · by_cases l2 : nw - e % 8 ≤ k
          · rw [if_pos ⟨l1, l2⟩] at hg1
            refine TGet_at hR hB hok hg1 rfl ?_
            simp -implicitDefEqProofs [Body.row, hgt]
            rw [bits_mask e 3 (by omega) 7 (by decide)]
            rw [p8]
            simp -implicitDefEqProofs [l1, l2, w3]
            refine num14_ok ?_
            simp -implicitDefEqProofs [bj, hsj, e2]
            exact fin _
          · rw [if_neg (fun h => l2 h.2)] at hg1
            refine TGet_at hR hB hok hg1 rfl ?_
            simp -implicitDefEqProofs [Body.row, body0, hgt]
            rw [bits_mask e 3 (by omega) 7 (by decide)]
            rw [p8]
            simp -implicitDefEqProofs [l1, l2, w3]
            refine num14_ok ?_
            simp -implicitDefEqProofs [e2]
            exact fin _
        · rw [if_neg (fun h => l1 h.1)] at hg1
          refine TGet_at hR hB hok hg1 rfl ?_
          simp -implicitDefEqProofs [Body.row, body0, hgt]
          rw [bits_mask e 3 (by omega) 7 (by decide)]
          rw [p8]
          simp -implicitDefEqProofs [l1]
          refine num14_ok ?_
          simp -implicitDefEqProofs [e2]
          exact fin _
      · simp -implicitDefEqProofs [hjl]
        refine Len_at hR hB rfl rfl ?_
        simp -implicitDefEqProofs
end
end Go.AI
