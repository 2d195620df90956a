/- Records are read. -/
import Derived.Test.YtkipdpamkchnoaaSpRecord
set_option linter.all false
namespace Go.AI
variable {A : Type} {R : Adts A}
theorem reps11 : reps 11 (AVal.int IntKind.i64 0) = [.int .i64 0, .int .i64 0, .int .i64 0, .int .i64 0, .int .i64 0, .int .i64 0, .int .i64 0, .int .i64 0, .int .i64 0, .int .i64 0, .int .i64 0] := rfl
def recTup (o : Option (Rec × Int)) : AVal := match o with | some (r, n) => .tup [.agg r.row, .int .i64 n, .bool true] | none => .tup [.agg rec0.row, .int .i64 0, .bool false]
theorem recTup_ix (o : Option (Rec × Int)) : (recTup o).ix 0 = true := by
  match o with
  | some (r, n) => rfl
  | none => rfl
theorem take_two {s x y : Bs0} {t u : Int} (h0 : 0 ≤ t) (h1 : t ≤ u) (hx : s.take t.toNat = x) (hy : (s.drop t.toNat).take (u - t).toNat = y) : s.take u.toNat = x ++ y := by
  rw [← hx, ← hy, ← List.take_add]
  congr 1; omega
section
variable {mk : Int → List Bs → A}
theorem record_read_ok (hR : R.Ok) (hB : HasBook R mk) {m : Int} {ts : List Bs} (s : Bs) (hs : s.length < 7000000000000000000) {h : AHeap A} {b : Nat} (hb : h[b]? = some (.adt (mk m ts))) {K : AVal → AHeap A → Prop}
    (hk : K (recTup (recRead ts s)) h) : Tri Pr R n_record_read [.ptr b 0, .str s] h K := by
  refine book_own hR hB (ts' := ts) rfl (recTup_ix _) ?_ hb (by rw [set_same hb]; exact hk)
  apply c_record_read
  unfold p_record_read
  rw [reps11]
  obtain ⟨o, ho⟩ : ∃ o, recRead ts s = o := ⟨_, rfl⟩
  rw [ho]
  unfold recRead at ho
  simp -implicitDefEqProofs
  have hf : (.cells t_field_Reader [.str s, .int .i64 0, .nili] : AObj A) = fRead s 0 .nili := rfl
  rw [hf]
  have hnil : evGet [] = none := rfl
  obtain ⟨q, t1, e1, hg1⟩ : ∃ x t e, gNum s 0 = (x, t, e) := ⟨_, _, _, rfl⟩
  obtain ⟨bo, t2, e2, hg2⟩ : ∃ x t e, gNum s t1 = (x, t, e) := ⟨_, _, _, rfl⟩
  obtain ⟨p, t3, e3, hg3⟩ : ∃ x t e, gNum s t2 = (x, t, e) := ⟨_, _, _, rfl⟩
  refine fReader2_ok hR s (by omega) 0 (by omega) ?_
  rw [hg1]
  dsimp only
  rcases (by omega : e1 ≠ 0 ∨ e1 = 0) with c1 | c1
  · rw [if_neg c1]
    have : o = none := by rw [← ho]; simp [rNums, hg1, c1]
    subst this
    intro p1 r1
    simp -implicitDefEqProofs
    refine fReader2_bad hR s 0 _ _ ?_
    simp -implicitDefEqProofs
    refine fReader2_bad hR s 0 _ _ ?_
    simp -implicitDefEqProofs
    refine fText2_bad hR s 0 _ _ ?_
    refine event_Get_ok hR [] (by decide) ?_
    rw [hnil]
    simp -implicitDefEqProofs [evTup, Ev.row, ev0]
    refine fReader2_bad hR s 0 _ _ ?_
    simp -implicitDefEqProofs [recTup, rec0, Rec.row, Ev.row, ev0]
  subst c1
  have q1 := gNum_enc hg1
  rw [if_pos rfl]
  refine fReader2_ok hR s (by omega) t1 (by omega) ?_
  rw [hg2]
  dsimp only
  rcases (by omega : e2 ≠ 0 ∨ e2 = 0) with c2 | c2
  · rw [if_neg c2]
    have : o = none := by rw [← ho]; simp [rNums, hg1, hg2, c2]
    subst this
    intro p1 r1
    simp -implicitDefEqProofs
    refine fReader2_bad hR s 0 _ _ ?_
    simp -implicitDefEqProofs
    refine fText2_bad hR s 0 _ _ ?_
    refine event_Get_ok hR [] (by decide) ?_
    rw [hnil]
    simp -implicitDefEqProofs [evTup, Ev.row, ev0]
    refine fReader2_bad hR s 0 _ _ ?_
    simp -implicitDefEqProofs [recTup, rec0, Rec.row, Ev.row, ev0]
  subst c2
  have q2 := gNum_enc hg2
  rw [if_pos rfl]
  refine fReader2_ok hR s (by omega) t2 (by omega) ?_
  rw [hg3]
  dsimp only
  rcases (by omega : e3 ≠ 0 ∨ e3 = 0) with c3 | c3
  · rw [if_neg c3]
    have : o = none := by rw [← ho]; simp [rNums, hg1, hg2, hg3, c3]
    subst this
    intro p1 r1
    simp -implicitDefEqProofs
    refine fText2_bad hR s 0 _ _ ?_
    refine event_Get_ok hR [] (by decide) ?_
    rw [hnil]
    simp -implicitDefEqProofs [evTup, Ev.row, ev0]
    refine fReader2_bad hR s 0 _ _ ?_
    simp -implicitDefEqProofs [recTup, rec0, Rec.row, Ev.row, ev0]
  subst c3
  have q3 := gNum_enc hg3
  rw [if_pos rfl]
  have hn3 : rNums s 3 0 = some ([q, bo, p], t3) := by simp [rNums, hg1, hg2, hg3]
  rw [hn3] at ho
  dsimp only at ho
  simp -implicitDefEqProofs
  refine fText2_ok hR s (by omega) t3 (by omega) ?_
  obtain ⟨x, u, e4, hx⟩ : ∃ x t e, gText s t3 = (x, t, e) := ⟨_, _, _, rfl⟩
  rw [hx] at ho ⊢
  dsimp only at ho ⊢
  rcases (by omega : e4 ≠ 0 ∨ e4 = 0) with c4 | c4
  · rw [if_neg c4]
    rw [if_pos c4] at ho
    subst ho
    refine ⟨fun f => ?_, fun f g => ?_⟩
    · simp -implicitDefEqProofs
      refine event_Get_ok hR [] (by decide) ?_
      rw [hnil]
      simp -implicitDefEqProofs [evTup, Ev.row, ev0]
      refine fReader2_bad hR s 0 _ _ ?_
      simp -implicitDefEqProofs [recTup, rec0, Rec.row, Ev.row, ev0]
    · simp -implicitDefEqProofs
      refine event_Get_ok hR [] (by decide) ?_
      rw [hnil]
      simp -implicitDefEqProofs [evTup, Ev.row, ev0]
      refine fReader2_bad hR s 0 _ _ ?_
      simp -implicitDefEqProofs [recTup, rec0, Rec.row, Ev.row, ev0]
  subst c4
  have q4 := gText_enc hx
  rw [if_pos rfl]
  rw [if_neg (show ¬ (0 : Int) ≠ 0 by simp)] at ho
  have hxl : x.length < 8000000000000000000 := by have := q4.1; simp [nMay] at this; omega
  refine event_Get_ok hR x hxl ?_
  cases hev : evGet x with
  | none =>
    rw [hev] at ho
    dsimp only at ho
    subst ho
    simp -implicitDefEqProofs [evTup, Ev.row, ev0]
    refine fReader2_ok hR s (by omega) u (by omega) ?_
    split
    · simp -implicitDefEqProofs [recTup, rec0, Rec.row, Ev.row, ev0]
    · intro p1 r1
      simp -implicitDefEqProofs [recTup, rec0, Rec.row, Ev.row, ev0]
  | some e =>
    rw [hev] at ho
    dsimp only at ho
    obtain ⟨q5, q6⟩ := evGet_enc hev
    obtain ⟨n, v, e5, hn⟩ : ∃ x t e, gNum s u = (x, t, e) := ⟨_, _, _, rfl⟩
    rw [hn] at ho
    dsimp only at ho
    simp -implicitDefEqProofs [evTup, Ev.row]
    refine fReader2_ok hR s (by omega) u (by omega) ?_
    rw [hn]
    dsimp only
    rcases (by omega : e5 ≠ 0 ∨ e5 = 0) with c5 | c5
    · rw [if_neg c5]
      rw [if_pos c5] at ho
      subst ho
      intro p1 r1
      simp -implicitDefEqProofs [recTup, rec0, Rec.row, Ev.row, ev0]
    subst c5
    have q7 := gNum_enc hn
    rw [if_pos rfl]
    rw [if_neg (show ¬ (0 : Int) ≠ 0 by simp)] at ho
    rcases (by omega : s.length ≠ 64 ∨ s.length = 64) with c6 | c6
    · rw [if_pos (.inl c6)] at ho
      subst ho
      have c6' : ((s.length : Int) != 64) = true := by simp; omega
      simp -implicitDefEqProofs [c6', recTup, rec0, Rec.row, Ev.row, ev0]
    simp -implicitDefEqProofs [c6]
    refine record_body_ok hR ⟨q, bo, p, e⟩ rfl ?_
    cases hm : recMay ⟨q, bo, p, e⟩ with
    | false =>
      rw [if_pos (.inr (.inl hm))] at ho
      subst ho
      rw [if_neg (by simp)]
      simp -implicitDefEqProofs
      refine joinP_go ?_
      simp -implicitDefEqProofs [recTup, rec0, Rec.row, Ev.row, ev0]
    | true =>
      rw [if_pos rfl]
      simp -implicitDefEqProofs
      refine joinP_go ?_
      have hbl := recBody_len hm
      have w0 : s.take t3.toNat = nAll [q, bo, p] := by
        have := (rNums_enc hn3 (by omega)).2.2.2.1
        simpa using this
      have hown : s.take u.toNat = recBody ⟨q, bo, p, e⟩ := by
        rw [take_two (by omega) (by omega) w0 q4.2.2.2.2, q5]
        rfl
      have f1 : 0 ≤ u := by omega
      have f2 : u ≤ 64 := by omega
      have g1 : 6 + (recBody ⟨q, bo, p, e⟩).length < 9223372036854775808 := by omega
      have hc : 72 :: 114 :: 101 :: 99 :: 111 :: 114 :: 100 :: recBody ⟨q, bo, p, e⟩ = recT ⟨q, bo, p, e⟩ := rfl
      simp -implicitDefEqProofs [f1, f2, c6, hown, g1]
      refine craft_IsHash_ok hR hB _ (by simp; omega) n rfl ?_
      rw [hc]
      cases c7 : cIs ts (recT ⟨q, bo, p, e⟩) n with
      | false =>
        rw [if_pos (.inr (.inr (.inl c7)))] at ho
        subst ho
        simp -implicitDefEqProofs [recTup, rec0, Rec.row, Ev.row, ev0]
      | true =>
        have f3 : 0 ≤ v := by omega
        have f4 : v ≤ 64 := by omega
        have e6 := w64 (n := 64 - v) (by omega)
        obtain ⟨z, hz⟩ : ∃ n : Nat, (64 - v).toNat = n := ⟨_, rfl⟩
        have hz2 : 64 - v.toNat = z := by omega
        rw [hz2] at ho
        have f5 : 64 - v ≤ 140737488355328 := by omega
        simp -implicitDefEqProofs [c6, f3, f4, e6, mkslP, f5, hz]
        refine z_readn (by rfl) (zCells_eq z).symm ?_
        by_cases c8 : s.drop v.toNat = List.replicate z 0
        · rw [if_neg (by rintro (h | h | h | h); exact h c6; rw [hm] at h; simp at h; rw [c7] at h; simp at h; exact h c8)] at ho
          subst ho
          simp -implicitDefEqProofs [c8, recTup, Rec.row, Ev.row]
        · rw [if_pos (.inr (.inr (.inr c8)))] at ho
          subst ho
          have c8' : (s.drop v.toNat != List.replicate z 0) = true := by simpa using c8
          simp -implicitDefEqProofs [c8', recTup, rec0, Rec.row, Ev.row, ev0]
def recGTup (x : Rec × Int × Int) : AVal := .tup [.agg x.1.row, .int .i64 x.2.1, .int .i64 x.2.2]
theorem record_Get_ok (hR : R.Ok) (hB : HasBook R mk) {m : Int} {ts : List Bs} (s : Bs) (hs : s.length < 7000000000000000000) (seq prev : Int) {h : AHeap A} {b : Nat} (hb : h[b]? = some (.adt (mk m ts))) {K : AVal → AHeap A → Prop}
    (hk : K (recGTup (recGet ts s seq prev)) h) : Tri Pr R n_record_Get [.ptr b 0, .str s, .int .i64 seq, .int .i64 prev] h K := by
  refine book_own hR hB (ts' := ts) rfl rfl ?_ hb (by rw [set_same hb]; exact hk)
  apply c_record_Get
  unfold p_record_Get
  rw [reps11]
  obtain ⟨o, ho⟩ : ∃ o, recGet ts s seq prev = o := ⟨_, rfl⟩
  rw [ho]
  unfold recGet at ho
  simp -implicitDefEqProofs
  refine record_read_ok hR hB s hs rfl ?_
  cases hr : recRead ts s with
  | none =>
    rw [hr] at ho
    dsimp only at ho
    subst ho
    simp -implicitDefEqProofs [recTup, rec0, Rec.row, Ev.row, ev0, recGTup]
  | some x =>
    obtain ⟨r, n⟩ := x
    rw [hr] at ho
    dsimp only at ho
    by_cases c1 : r.seq = seq
    · by_cases c2 : r.prev = prev
      · rw [if_neg (by simp [c1, c2])] at ho
        subst ho
        have c1' : (r.seq != seq) = false := by simp [c1]
        have c2' : (r.prev != prev) = false := by simp [c2]
        simp -implicitDefEqProofs [recTup, Rec.row, Ev.row, recGTup, c1', c2']
      · rw [if_pos (.inr c2)] at ho
        subst ho
        have c1' : (r.seq != seq) = false := by simp [c1]
        have c2' : (r.prev != prev) = true := by simpa using c2
        simp -implicitDefEqProofs [recTup, rec0, Rec.row, Ev.row, ev0, recGTup, c1', c2']
    · rw [if_pos (.inl c1)] at ho
      subst ho
      have c1' : (r.seq != seq) = true := by simpa using c1
      simp -implicitDefEqProofs [recTup, rec0, Rec.row, Ev.row, ev0, recGTup, c1']
end
end Go.AI
