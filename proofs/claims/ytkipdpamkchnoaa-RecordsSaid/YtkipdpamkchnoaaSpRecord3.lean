/- The document's records. -/
import Derived.Test.YtkipdpamkchnoaaSpRecord2
import Derived.Test.YtkipdpamkchnoaaSpSuper
set_option linter.all false
namespace Go.AI
variable {A : Type} {R : Adts A}
section
variable {mk : Int → List Bs → A}
theorem ref1_PutRecord_ok (hR : R.Ok) (hB : HasRBook R mk) {m : Int} {ts : List Bs} (hok : bOk m ts) (r : Rec) {h : AHeap A} {b : Nat} (hb : h[b]? = some (.adt (mk m ts))) {K : AVal → AHeap A → Prop}
    (hk : K (.tup [.str (recPut m ts r).2.1, .int .i64 (recPut m ts r).2.2.1, .int .i64 (recPut m ts r).2.2.2]) (h.set b (.adt (mk m (recPut m ts r).1)))) : Tri Pr R n_ref1_PutRecord [.ptr b 0, .agg r.row] h K := by
  refine rbook_own hR hB rfl rfl ?_ hb hk
  apply c_ref1_PutRecord
  unfold p_ref1_PutRecord
  obtain ⟨q, hq⟩ : ∃ q, recPut m ts r = q := ⟨_, rfl⟩
  rw [hq]
  unfold recPut at hq
  simp -implicitDefEqProofs [Rec.row, Ev.row]
  refine ref1_PutEvent_ok hR r.ev ?_
  by_cases c1 : r.seq < 1
  · have hm : recMay r = false := by
      cases e : recMay r with
      | false => rfl
      | true => have := (recMay_all e).2.1; omega
    rw [hm] at hq; simp at hq; subst hq
    split <;> simp -implicitDefEqProofs [c1]
  cases c2 : nMay r.seq with
  | false =>
    have hm : recMay r = false := by simp [recMay, c2]
    rw [hm] at hq; simp at hq; subst hq
    split
    · simp -implicitDefEqProofs [c1]
      refine ref1_num_ok _ ?_
      simp -implicitDefEqProofs [c2]
    · simp -implicitDefEqProofs [c1]
      refine ref1_num_ok _ ?_
      simp -implicitDefEqProofs [c2]
  | true =>
  by_cases c3 : r.boot < 1
  · have hm : recMay r = false := by
      cases e : recMay r with
      | false => rfl
      | true => have := (recMay_all e).2.2.2.1; omega
    rw [hm] at hq; simp at hq; subst hq
    split
    · simp -implicitDefEqProofs [c1]
      refine ref1_num_ok _ ?_
      simp -implicitDefEqProofs [c2, c3]
    · simp -implicitDefEqProofs [c1]
      refine ref1_num_ok _ ?_
      simp -implicitDefEqProofs [c2, c3]
  cases c4 : nMay r.boot with
  | false =>
    have hm : recMay r = false := by simp [recMay, c4]
    rw [hm] at hq; simp at hq; subst hq
    split
    · simp -implicitDefEqProofs [c1]
      refine ref1_num_ok _ ?_
      simp -implicitDefEqProofs [c2, c3]
      refine ref1_num_ok _ ?_
      simp -implicitDefEqProofs [c4]
    · simp -implicitDefEqProofs [c1]
      refine ref1_num_ok _ ?_
      simp -implicitDefEqProofs [c2, c3]
      refine ref1_num_ok _ ?_
      simp -implicitDefEqProofs [c4]
  | true =>
  cases c5 : nMay r.prev with
  | false =>
    have hm : recMay r = false := by simp [recMay, c5]
    rw [hm] at hq; simp at hq; subst hq
    split
    · simp -implicitDefEqProofs [c1]
      refine ref1_num_ok _ ?_
      simp -implicitDefEqProofs [c2, c3]
      refine ref1_num_ok _ ?_
      simp -implicitDefEqProofs [c4]
      refine ref1_num_ok _ ?_
      simp -implicitDefEqProofs [c5]
    · simp -implicitDefEqProofs [c1]
      refine ref1_num_ok _ ?_
      simp -implicitDefEqProofs [c2, c3]
      refine ref1_num_ok _ ?_
      simp -implicitDefEqProofs [c4]
      refine ref1_num_ok _ ?_
      simp -implicitDefEqProofs [c5]
  | true =>
  cases c6 : evMay r.ev with
  | false =>
    have hm : recMay r = false := by simp [recMay, c6]
    rw [hm] at hq; simp at hq; subst hq
    rw [if_neg (by simp)]
    simp -implicitDefEqProofs [c1]
    refine ref1_num_ok _ ?_
    simp -implicitDefEqProofs [c2, c3]
    refine ref1_num_ok _ ?_
    simp -implicitDefEqProofs [c4]
    refine ref1_num_ok _ ?_
    simp -implicitDefEqProofs [c5]
  | true =>
  rw [if_pos rfl]
  have hl25 := evPut_len c6
  have hm : recMay r = true := by simp [recMay, c2, c4, c5, c6]; omega
  rw [if_pos hm] at hq
  have c7 : ¬ (44 : Int) < (evPut r.ev).length := by omega
  simp -implicitDefEqProofs [c1]
  refine ref1_num_ok _ ?_
  simp -implicitDefEqProofs [c2, c3]
  refine ref1_num_ok _ ?_
  simp -implicitDefEqProofs [c4]
  refine ref1_num_ok _ ?_
  simp -implicitDefEqProofs [c5, c7]
  refine ref1_Text_ok hR _ (by omega) ?_
  simp -implicitDefEqProofs
  refine ref1_Nums_ok hR [r.seq, r.boot, r.prev] (by simp) true (t := t_int) (by simp) ?_
  have hl := recBody_len hm
  have hbd : nAll [r.seq, r.boot, r.prev] ++ (nS (evPut r.ev).length ++ evPut r.ev) = recBody r := rfl
  have hbl : (nAll [r.seq, r.boot, r.prev]).length + ((nS (evPut r.ev).length).length + (evPut r.ev).length) = (recBody r).length := by rw [← hbd]; simp
  have g1 : 6 + (recBody r).length < 9223372036854775808 := by omega
  have g2 : (nAll [r.seq, r.boot, r.prev]).length + ((nS (evPut r.ev).length).length + (evPut r.ev).length) < 9223372036854775808 := by omega
  simp -implicitDefEqProofs [g2, hbd, g1]
  refine ref1_Hash_ok hR hB hok _ (by simp; omega) rfl ?_
  have hc : 72 :: 114 :: 101 :: 99 :: 111 :: 114 :: 100 :: recBody r = recT r := rfl
  rw [hc]
  by_cases h5 : (cMade m ts (recT r)).2.2 = 0
  · rw [if_pos h5] at hq
    have hl2 := nS_len (cMade m ts (recT r)).2.1
    have g3 : (recBody r).length + (nS (cMade m ts (recT r)).2.1).length < 9223372036854775808 := by omega
    simp -implicitDefEqProofs [h5]
    refine ref1_Nums_ok hR [(cMade m ts (recT r)).2.1] (by simp) true (t := t_int) (by simp) ?_
    rw [nAll_one]
    by_cases h6 : (recBody r ++ nS (cMade m ts (recT r)).2.1).length ≤ 64
    · rw [if_pos h6] at hq; subst hq
      have h7 : ¬ (64 : Int) < (recBody r).length + (nS (cMade m ts (recT r)).2.1).length := by simp at h6; omega
      simp -implicitDefEqProofs [g3, h7]
      refine ref1_sector_ok hR _ h6 ?_
      simp -implicitDefEqProofs
    · rw [if_neg h6] at hq; subst hq
      have h7 : (64 : Int) < (recBody r).length + (nS (cMade m ts (recT r)).2.1).length := by simp at h6; omega
      simp -implicitDefEqProofs [g3, h7]
  · rw [if_neg h5] at hq; subst hq
    have h6 : ((cMade m ts (recT r)).2.2 != 0) = true := by simpa using h5
    simp -implicitDefEqProofs [h6]
theorem ref1_GetRecord_ok (hR : R.Ok) (hB : HasRBook R mk) {m : Int} {ts : List Bs} (hok : bOk m ts) (s : Bs) (hs : s.length < 7000000000000000000) (seq prev : Int) {h : AHeap A} {b : Nat} (hb : h[b]? = some (.adt (mk m ts))) {K : AVal → AHeap A → Prop}
    (hk : K (recGTup (recGet ts s seq prev)) h) : Tri Pr R n_ref1_GetRecord [.ptr b 0, .str s, .int .i64 seq, .int .i64 prev] h K := by
  refine rbook_own hR hB (ts' := ts) rfl rfl ?_ hb (by rw [set_same hb]; exact hk)
  apply c_ref1_GetRecord
  unfold p_ref1_GetRecord
  rw [reps11]
  obtain ⟨o, ho⟩ : ∃ o, recRead ts s = o := ⟨_, rfl⟩
  unfold recGet
  rw [ho]
  unfold recRead at ho
  simp -implicitDefEqProofs
  have hf : (.cells t_bastionref1_Reader [.str s, .int .i64 0, .bool false] : AObj A) = rRead s 0 false := rfl
  rw [hf]
  have hnil : evGet [] = none := rfl
  obtain ⟨q, t1, e1, hg1⟩ : ∃ x t e, gNum s 0 = (x, t, e) := ⟨_, _, _, rfl⟩
  obtain ⟨bo, t2, e2, hg2⟩ : ∃ x t e, gNum s t1 = (x, t, e) := ⟨_, _, _, rfl⟩
  obtain ⟨p, t3, e3, hg3⟩ : ∃ x t e, gNum s t2 = (x, t, e) := ⟨_, _, _, rfl⟩
  refine rReader2_ok hR s (by omega) 0 (by omega) false ?_
  rw [hg1]
  dsimp only
  rcases (by omega : e1 ≠ 0 ∨ e1 = 0) with c1 | c1
  · rw [if_neg (by simp [c1])]
    have : o = none := by rw [← ho]; simp [rNums, hg1, c1]
    subst this
    simp -implicitDefEqProofs
    refine rReader2_ok hR s (by omega) _ (by omega) true ?_
    rw [if_neg (by simp)]
    simp -implicitDefEqProofs
    refine rReader2_ok hR s (by omega) _ (by omega) true ?_
    rw [if_neg (by simp)]
    simp -implicitDefEqProofs
    refine rText2_ok hR s (by omega) _ (by omega) true ?_
    rw [if_neg (by simp)]
    simp -implicitDefEqProofs [rRead]
    change Tri _ _ _ _ (_ :: _ :: rRead s 0 true :: _) _
    refine rReader2_ok hR s (by omega) _ (by omega) true ?_
    rw [if_neg (by simp)]
    refine ref1_GetEvent_ok hR [] (by decide) ?_
    rw [hnil]
    unfold rRead
    simp -implicitDefEqProofs [evTup, Ev.row, ev0]
    refine joinP_go ?_
    rcases (by omega : s.length ≠ 64 ∨ s.length = 64) with c6 | c6
    · have c6' : ((s.length : Int) != 64) = true := by simp; omega
      simp -implicitDefEqProofs [c6', Rec.row, Ev.row, rec0, ev0, recGTup]
    · simp -implicitDefEqProofs [c6, Rec.row, Ev.row, rec0, ev0, recGTup]
  subst c1
  have q1 := gNum_enc hg1
  rw [if_pos ⟨rfl, rfl⟩]
  simp -implicitDefEqProofs
  refine rReader2_ok hR s (by omega) t1 (by omega) false ?_
  rw [hg2]
  dsimp only
  rcases (by omega : e2 ≠ 0 ∨ e2 = 0) with c2 | c2
  · rw [if_neg (by simp [c2])]
    have : o = none := by rw [← ho]; simp [rNums, hg1, hg2, c2]
    subst this
    simp -implicitDefEqProofs
    refine rReader2_ok hR s (by omega) t1 (by omega) true ?_
    rw [if_neg (by simp)]
    simp -implicitDefEqProofs
    refine rText2_ok hR s (by omega) t1 (by omega) true ?_
    rw [if_neg (by simp)]
    simp -implicitDefEqProofs [rRead]
    change Tri _ _ _ _ (_ :: _ :: rRead s t1 true :: _) _
    refine rReader2_ok hR s (by omega) t1 (by omega) true ?_
    rw [if_neg (by simp)]
    refine ref1_GetEvent_ok hR [] (by decide) ?_
    rw [hnil]
    unfold rRead
    simp -implicitDefEqProofs [evTup, Ev.row, ev0]
    refine joinP_go ?_
    rcases (by omega : s.length ≠ 64 ∨ s.length = 64) with c6 | c6
    · have c6' : ((s.length : Int) != 64) = true := by simp; omega
      simp -implicitDefEqProofs [c6', Rec.row, Ev.row, rec0, ev0, recGTup]
    · simp -implicitDefEqProofs [c6, Rec.row, Ev.row, rec0, ev0, recGTup]
  subst c2
  have q2 := gNum_enc hg2
  rw [if_pos ⟨rfl, rfl⟩]
  simp -implicitDefEqProofs
  refine rReader2_ok hR s (by omega) t2 (by omega) false ?_
  rw [hg3]
  dsimp only
  rcases (by omega : e3 ≠ 0 ∨ e3 = 0) with c3 | c3
  · rw [if_neg (by simp [c3])]
    have : o = none := by rw [← ho]; simp [rNums, hg1, hg2, hg3, c3]
    subst this
    simp -implicitDefEqProofs
    refine rText2_ok hR s (by omega) t2 (by omega) true ?_
    rw [if_neg (by simp)]
    simp -implicitDefEqProofs [rRead]
    change Tri _ _ _ _ (_ :: _ :: rRead s t2 true :: _) _
    refine rReader2_ok hR s (by omega) t2 (by omega) true ?_
    rw [if_neg (by simp)]
    refine ref1_GetEvent_ok hR [] (by decide) ?_
    rw [hnil]
    unfold rRead
    simp -implicitDefEqProofs [evTup, Ev.row, ev0]
    refine joinP_go ?_
    rcases (by omega : s.length ≠ 64 ∨ s.length = 64) with c6 | c6
    · have c6' : ((s.length : Int) != 64) = true := by simp; omega
      simp -implicitDefEqProofs [c6', Rec.row, Ev.row, rec0, ev0, recGTup]
    · simp -implicitDefEqProofs [c6, Rec.row, Ev.row, rec0, ev0, recGTup]
  subst c3
  have q3 := gNum_enc hg3
  rw [if_pos ⟨rfl, rfl⟩]
  have hn3 : rNums s 3 0 = some ([q, bo, p], t3) := by simp [rNums, hg1, hg2, hg3]
  rw [hn3] at ho
  dsimp only at ho
  simp -implicitDefEqProofs
  refine rText2_ok hR s (by omega) t3 (by omega) false ?_
  obtain ⟨x, u, e4, hx⟩ : ∃ x t e, gText s t3 = (x, t, e) := ⟨_, _, _, rfl⟩
  rw [hx] at ho ⊢
  dsimp only at ho ⊢
  rcases (by omega : e4 ≠ 0 ∨ e4 = 0) with c4 | c4
  · rw [if_neg (by simp [c4])]
    rw [if_pos c4] at ho
    subst ho
    simp -implicitDefEqProofs [rRead]
    change Tri _ _ _ _ (_ :: _ :: rRead s t3 true :: _) _
    refine rReader2_ok hR s (by omega) t3 (by omega) true ?_
    rw [if_neg (by simp)]
    refine ref1_GetEvent_ok hR [] (by decide) ?_
    rw [hnil]
    unfold rRead
    simp -implicitDefEqProofs [evTup, Ev.row, ev0]
    refine joinP_go ?_
    rcases (by omega : s.length ≠ 64 ∨ s.length = 64) with c6 | c6
    · have c6' : ((s.length : Int) != 64) = true := by simp; omega
      simp -implicitDefEqProofs [c6', Rec.row, Ev.row, rec0, ev0, recGTup]
    · simp -implicitDefEqProofs [c6, Rec.row, Ev.row, rec0, ev0, recGTup]
  subst c4
  have q4 := gText_enc hx
  rw [if_pos ⟨rfl, rfl⟩]
  rw [if_neg (show ¬ (0 : Int) ≠ 0 by simp)] at ho
  have hxl : x.length < 8000000000000000000 := by have := q4.1; simp [nMay] at this; omega
  simp -implicitDefEqProofs [rRead]
  change Tri _ _ _ _ (_ :: _ :: rRead s u false :: _) _
  refine rReader2_ok hR s (by omega) u (by omega) false ?_
  obtain ⟨n, v, e5, hn⟩ : ∃ x t e, gNum s u = (x, t, e) := ⟨_, _, _, rfl⟩
  rw [hn] at ho ⊢
  dsimp only at ho ⊢
  rcases (by omega : e5 ≠ 0 ∨ e5 = 0) with c5 | c5
  · rw [if_neg (by simp [c5])]
    have : o = none := by
      rw [← ho]
      cases evGet x with
      | none => rfl
      | some e => simp [c5]
    subst this
    refine ref1_GetEvent_ok hR x hxl ?_
    unfold rRead
    cases evGet x with
    | none =>
      simp -implicitDefEqProofs [evTup, Ev.row, ev0]
      refine joinP_go ?_
      rcases (by omega : s.length ≠ 64 ∨ s.length = 64) with c6 | c6
      · have c6' : ((s.length : Int) != 64) = true := by simp; omega
        simp -implicitDefEqProofs [c6', Rec.row, Ev.row, rec0, ev0, recGTup]
      · simp -implicitDefEqProofs [c6, Rec.row, Ev.row, rec0, ev0, recGTup]
    | some e =>
      simp -implicitDefEqProofs [evTup, Ev.row, ev0]
      refine joinP_go ?_
      rcases (by omega : s.length ≠ 64 ∨ s.length = 64) with c6 | c6
      · have c6' : ((s.length : Int) != 64) = true := by simp; omega
        simp -implicitDefEqProofs [c6', Rec.row, Ev.row, rec0, ev0, recGTup]
      · simp -implicitDefEqProofs [c6, Rec.row, Ev.row, rec0, ev0, recGTup]
  subst c5
  have q7 := gNum_enc hn
  rw [if_pos ⟨rfl, rfl⟩]
  refine ref1_GetEvent_ok hR x hxl ?_
  unfold rRead
  cases hev : evGet x with
  | none =>
    rw [hev] at ho
    dsimp only at ho
    subst ho
    simp -implicitDefEqProofs [evTup, Ev.row, ev0]
    refine joinP_go ?_
    rcases (by omega : s.length ≠ 64 ∨ s.length = 64) with c6 | c6
    · have c6' : ((s.length : Int) != 64) = true := by simp; omega
      simp -implicitDefEqProofs [c6', Rec.row, Ev.row, rec0, ev0, recGTup]
    · simp -implicitDefEqProofs [c6, Rec.row, Ev.row, rec0, ev0, recGTup]
  | some e =>
    rw [hev] at ho
    dsimp only at ho
    obtain ⟨q5, q6⟩ := evGet_enc hev
    rw [if_neg (show ¬ (0 : Int) ≠ 0 by simp)] at ho
    simp -implicitDefEqProofs [evTup, Ev.row]
    refine joinP_go ?_
    rcases (by omega : s.length ≠ 64 ∨ s.length = 64) with c6 | c6
    · rw [if_pos (.inl c6)] at ho
      subst ho
      have c6' : ((s.length : Int) != 64) = true := by simp; omega
      simp -implicitDefEqProofs [c6', recGTup, rec0, Rec.row, Ev.row, ev0]
    simp -implicitDefEqProofs [c6]
    by_cases d1 : (44 : Int) < x.length
    · have hm : recMay ⟨q, bo, p, e⟩ = false := by
        cases h : recMay ⟨q, bo, p, e⟩ with
        | false => rfl
        | true => have := (recMay_all h).2.2.2.2.2.2; rw [← q5] at this; omega
      rw [if_pos (.inr (.inl hm))] at ho
      subst ho
      simp -implicitDefEqProofs [d1, recGTup, rec0, Rec.row, Ev.row, ev0]
    by_cases d2 : q < 1
    · have hm : recMay ⟨q, bo, p, e⟩ = false := by
        cases h : recMay ⟨q, bo, p, e⟩ with
        | false => rfl
        | true => have := (recMay_all h).2.1; simp only at this; omega
      rw [if_pos (.inr (.inl hm))] at ho
      subst ho
      simp -implicitDefEqProofs [d1, d2, recGTup, rec0, Rec.row, Ev.row, ev0]
    by_cases d3 : bo < 1
    · have hm : recMay ⟨q, bo, p, e⟩ = false := by
        cases h : recMay ⟨q, bo, p, e⟩ with
        | false => rfl
        | true => have := (recMay_all h).2.2.2.1; simp only at this; omega
      rw [if_pos (.inr (.inl hm))] at ho
      subst ho
      simp -implicitDefEqProofs [d1, d2, d3, recGTup, rec0, Rec.row, Ev.row, ev0]
    have hm : recMay ⟨q, bo, p, e⟩ = true := by
      simp only [recMay, q6, q1.1, q2.1, q3.1, Bool.true_and, Bool.and_true, Bool.and_eq_true, decide_eq_true_eq, ← q5]
      refine ⟨⟨?_, ?_⟩, ?_⟩ <;> omega
    have hbl := recBody_len hm
    have w0 : s.take t3.toNat = nAll [q, bo, p] := by
      have := (rNums_enc hn3 (by omega)).2.2.2.1
      simpa using this
    have hown : s.take u.toNat = recBody ⟨q, bo, p, e⟩ := by
      rw [take_two (by omega) (by omega) w0 q4.2.2.2.2, q5]
      rfl
    have f1 : 0 ≤ u := by omega
    have f2 : u ≤ 64 := by omega
    have g1 : 6 + (recBody ⟨q, bo, p, e⟩).length < 9223372036854775808 := by omega
    have hc : 72 :: 114 :: 101 :: 99 :: 111 :: 114 :: 100 :: recBody ⟨q, bo, p, e⟩ = recT ⟨q, bo, p, e⟩ := rfl
    have f3 : 0 ≤ v := by omega
    have f4 : v ≤ 64 := by omega
    have e6 := w64 (n := 64 - v) (by omega)
    obtain ⟨z, hz⟩ : ∃ n : Nat, (64 - v).toNat = n := ⟨_, rfl⟩
    have hz2 : 64 - v.toNat = z := by omega
    rw [hz2] at ho
    have f5 : 64 - v ≤ 140737488355328 := by omega
    simp -implicitDefEqProofs [d1, d2, d3, c6, f3, f4, e6, mkslP, f5, hz]
    refine z_readn (by rfl) (zCells_eq z).symm ?_
    by_cases c8 : s.drop v.toNat = List.replicate z 0
    · simp -implicitDefEqProofs [c8, f1, f2, c6, hown, g1]
      refine ref1_IsHash_ok hR hB hok _ (by simp; omega) n rfl ?_
      rw [hc]
      cases c7 : cIs ts (recT ⟨q, bo, p, e⟩) n with
      | false =>
        rw [if_pos (.inr (.inr (.inl c7)))] at ho
        subst ho
        simp -implicitDefEqProofs [recGTup, rec0, Rec.row, Ev.row, ev0]
      | true =>
        rw [if_neg (by rintro (h | h | h | h); exact h c6; rw [hm] at h; simp at h; rw [c7] at h; simp at h; exact h c8)] at ho
        subst ho
        by_cases k1 : q = seq
        · subst k1
          by_cases k2 : p = prev
          · subst k2
            simp -implicitDefEqProofs [recGTup, Rec.row, Ev.row]
          · have k2' : (p != prev) = true := by simpa using k2
            simp -implicitDefEqProofs [k2', k2, recGTup, rec0, Rec.row, Ev.row, ev0]
        · have k1' : (q != seq) = true := by simpa using k1
          simp -implicitDefEqProofs [k1', k1, recGTup, rec0, Rec.row, Ev.row, ev0]
    · rw [if_pos (.inr (.inr (.inr c8)))] at ho
      subst ho
      have c8' : (s.drop v.toNat != List.replicate z 0) = true := by simpa using c8
      simp -implicitDefEqProofs [c8', recGTup, rec0, Rec.row, Ev.row, ev0]
end
end Go.AI
