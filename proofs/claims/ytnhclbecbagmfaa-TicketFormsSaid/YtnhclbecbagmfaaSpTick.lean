/- Tickets: the program's. -/
import Derived.Test.YtnhclbecbagmfaaSpTick0
import Derived.Test.YtnhclbecbagmfaaSpText
import Derived.Test.YtnhclbecbagmfaaIs
import Derived.Test.YtnhclbecbagmfaaSpSuper
import Derived.Test.YtnhclbecbagmfaaSpCraft
set_option linter.all false
namespace Go.AI
variable {A : Type} {R : Adts A}
theorem fDone2_ok (s : Bs0) (hs : s.length < 9000000000000000000) (at_ : Int) {o o1 : AObj A} {r : AHeap A} {K : AVal → AHeap A → Prop} (hk : K (.bool (at_ == (s.length : Int))) (o :: o1 :: fRead s at_ .nili :: r)) :
    Tri Pr R n_field_Reader_Done [.ptr 2 0] (o :: o1 :: fRead s at_ .nili :: r) K := by
  apply c_field_Reader_Done
  unfold p_field_Reader_Done
  refine joinP_go ?_
  simp -implicitDefEqProofs
  exact hk
theorem fDone2_bad (s : Bs0) (at_ : Int) (t : TypeId) (v : AVal) {o o1 : AObj A} {r : AHeap A} {K : AVal → AHeap A → Prop} (hk : K (.bool false) (o :: o1 :: fRead s at_ (.iface t v) :: r)) :
    Tri Pr R n_field_Reader_Done [.ptr 2 0] (o :: o1 :: fRead s at_ (.iface t v) :: r) K := by
  apply c_field_Reader_Done
  unfold p_field_Reader_Done
  refine joinP_go ?_
  simp -implicitDefEqProofs
  exact hk
theorem cOpen_len {m : Int} {ts : List Bs} (hok : bOk m ts) (key tag : Int) : (cOpen ts key tag).1.length ≤ 512 := by
  unfold cOpen
  split
  · simp only [List.length_drop]
    have : (bTerm ts tag).1.length ≤ 512 := by
      unfold bTerm
      split
      · rename_i h
        have h2 : tag.toNat < ts.length := by omega
        simp only [List.getD_eq_getElem?_getD, List.getElem?_eq_getElem h2, Option.getD_some]
        exact (hok.short _ (List.getElem_mem h2)).2
      · simp
    omega
  · simp
theorem cOpen_err (ts : List Bs) (key tag : Int) : (cOpen ts key tag).2 = 0 ∨ (cOpen ts key tag).2 = 301 := by
  unfold cOpen; split <;> simp
section
variable {mk : Int → List Bs → A}
theorem ring_Find_ok (hR : R.Ok) (hB : HasBook R mk) {m : Int} {ts : List Bs} (x : Int) {h : AHeap A} {b : Nat} (hb : h[b]? = some (.adt (mk m ts))) {K : AVal → AHeap A → Prop}
    (hk : if nMay x = true then K (.tup [.int .i64 ((bFind ts (65 :: eTerm x)).getD 0 : Nat), .bool (bFind ts (65 :: eTerm x)).isSome]) h else K (.tup [.int .i64 0, .bool false]) h) : Tri Pr R n_ring_Find [.ptr b 0, .int .i64 x] h K := by
  apply c_ring_Find
  unfold p_ring_Find
  refine ring_term_ok hR x ?_
  cases hx : nMay x with
  | true =>
    rw [if_pos hx] at hk
    simp -implicitDefEqProofs
    apply c_craft_FindAtom
    unfold p_craft_FindAtom
    have h1 : 1 + (eTerm x).length < 9223372036854775808 := by have := eTerm_len x; omega
    simp -implicitDefEqProofs [h1]
    refine book_Find_ok hR hB _ hb ?_
    simp -implicitDefEqProofs
    exact hk
  | false =>
    rw [if_neg (by simp [hx])] at hk
    simp -implicitDefEqProofs
    exact hk
theorem ticket_Put_ok (hR : R.Ok) (hB : HasBook R mk) {m : Int} {ts : List Bs} (hok : bOk m ts) (epoch : Int) (t : Body) {h : AHeap A} {b : Nat} (hb : h[b]? = some (.adt (mk m ts))) {K : AVal → AHeap A → Prop}
    (hk : K (.tup [.int .i64 (tPut m ts epoch t).2.1, .int .i64 (tPut m ts epoch t).2.2]) (h.set b (.adt (mk m (tPut m ts epoch t).1)))) : Tri Pr R n_ticket_Put [.ptr b 0, .int .i64 epoch, .agg t.row] h K := by
  refine book_own hR hB rfl rfl ?_ hb hk
  apply c_ticket_Put
  unfold p_ticket_Put
  obtain ⟨q, hq⟩ : ∃ q, tPut m ts epoch t = q := ⟨_, rfl⟩
  rw [hq]
  unfold tPut at hq
  simp -implicitDefEqProofs [Body.row]
  refine field_All_ok hR t.nums (by simp [Body.nums]) true (t := t_int) (by simp [Body.nums]) ?_
  cases ha : t.nums.all nMay with
  | false =>
    have hm : bMay t = false := by simp [bMay, ha]
    rw [hm] at hq; simp at hq; subst hq
    rw [if_neg (by simp)]
    simp -implicitDefEqProofs
  | true =>
    rw [if_pos rfl]
    by_cases h8 : t.user < 8
    · have hm : bMay t = true := by simp [bMay, ha, h8]
      rw [if_pos hm] at hq
      have h8' : ¬ 8 ≤ t.user := by omega
      simp -implicitDefEqProofs [h8']
      refine ring_Key_ok hR hB hok epoch rfl ?_
      have hok1 := rKey_ok (x := epoch) hok
      obtain ⟨ts1, key, e1, hr⟩ : ∃ a b c, rKey m ts epoch = (a, b, c) := ⟨_, _, _, rfl⟩
      rw [hr] at hq hok1 ⊢
      dsimp only at hq hok1 ⊢
      by_cases h1 : e1 = 0
      · rw [if_pos h1] at hq
        subst h1
        have hl := nAll_len t.nums
        have hl5 : t.nums.length = 5 := rfl
        simp -implicitDefEqProofs
        refine craft_Seal_ok hR hB hok1 key _ (by omega) rfl ?_
        by_cases h2 : (cKey m ts1 83 key (nAll t.nums)).2.2 = 0
        · rw [if_pos h2] at hq; subst hq
          simp -implicitDefEqProofs [h2]
        · rw [if_neg h2] at hq; subst hq
          have h2' : ((cKey m ts1 83 key (nAll t.nums)).2.2 != 0) = true := by simpa using h2
          simp -implicitDefEqProofs [h2']
      · rw [if_neg h1] at hq; subst hq
        have h1' : (e1 != 0) = true := by simpa using h1
        simp -implicitDefEqProofs [h1']
    · have hm : bMay t = false := by simp [bMay, h8]
      rw [hm] at hq; simp at hq; subst hq
      have h8' : 8 ≤ t.user := by omega
      simp -implicitDefEqProofs [h8']
def shutO (e : Int) : AObj A := .cells t_ticket_shut [.iface t_api_Errno (.int .i64 e)]
def OpenQ (mk : Int → List Bs → A) (m : Int) (ts : List Bs) (o : Option Body) (v : AVal) (g : AHeap A) : Prop :=
  match o with
  | some b => v = .tup [.agg b.row, .nili] ∧ g = [.adt (mk m ts)]
  | none => ∃ e, (e = 1501 ∨ e = 301) ∧ v = .tup [.agg body0.row, .iface t_p_ticket_shut (.ptr 1 0)] ∧ g = [.adt (mk m ts), shutO e]
theorem ticket_open_own (hR : R.Ok) (hB : HasBook R mk) {m : Int} {ts : List Bs} (hok : bOk m ts) (epoch tag : Int) : Tri Pr R n_ticket_open [.ptr 0 0, .int .i64 epoch, .int .i64 tag] [.adt (mk m ts)] (OpenQ mk m ts (tOpen ts epoch tag)) := by
  obtain ⟨o, ho⟩ : ∃ o, tOpen ts epoch tag = o := ⟨_, rfl⟩
  rw [ho]
  unfold tOpen at ho
  have hS : ∀ (b : Body) (r : AHeap A), o = some b → Gives Pr R 1 (.adt (mk m ts) :: r) [.tup [.agg b.row, .nili]] fun vs h2 => ∃ v, vs = [v] ∧ OpenQ mk m ts o v h2 := by
    rintro b r rfl
    refine Gives.cut hR (m := 1) (by simp) (by simp) (by simp [ixs, AVal.ix, Body.row]) ?_ ⟨_, rfl, rfl, rfl⟩
    intro o ho
    simp at ho; subst ho
    exact book_low hB _ _
  have hF : ∀ (e : Int) (mid : AHeap A), o = none → (e = 1501 ∨ e = 301) → Gives Pr R 1 (.adt (mk m ts) :: (mid ++ [shutO e])) [.tup [.agg body0.row, .iface t_p_ticket_shut (.ptr (1 + mid.length) 0)]] fun vs h2 => ∃ v, vs = [v] ∧ OpenQ mk m ts o v h2 := by
    rintro e mid rfl he
    refine Gives.pick hR [.adt (mk m ts)] mid (shutO e) _ [.tup [.agg body0.row, .iface t_p_ticket_shut (.ptr 1 0)]] rfl (by simp) ?_ ⟨rfl, fun τ => rfl⟩ ?_ rfl ⟨_, rfl, e, he, rfl, rfl⟩
    · intro o ho
      simp at ho; subst ho
      exact book_low hB _ _
    · simp [rens, AVal.ren, Body.row]
  refine Tri.post ?_
  apply c_ticket_open
  unfold p_ticket_open
  simp -implicitDefEqProofs
  refine ring_Find_ok hR hB epoch rfl ?_
  cases hm : nMay epoch with
  | false =>
    rw [hm] at ho
    rw [if_neg (by simp)]
    simp -implicitDefEqProofs
    exact hF 1501 [_] (by simpa using ho.symm) (.inl rfl)
  | true =>
    rw [if_pos hm] at ho
    rw [if_pos rfl]
    cases hf : bFind ts (65 :: eTerm epoch) with
    | none =>
      rw [hf] at ho
      simp -implicitDefEqProofs
      exact hF 1501 [_] ho.symm (.inl rfl)
    | some key =>
      rw [hf] at ho
      dsimp only at ho
      simp -implicitDefEqProofs
      refine craft_Open_ok hR hB (key : Int) tag rfl ?_
      have hlen := cOpen_len hok (key : Int) tag
      have herr := cOpen_err ts (key : Int) tag
      obtain ⟨s, e, hs⟩ : ∃ a b, cOpen ts (key : Int) tag = (a, b) := ⟨_, _, rfl⟩
      rw [hs] at ho hlen herr ⊢
      dsimp only at ho hlen herr ⊢
      rcases herr with rfl | rfl
      · rw [if_pos rfl] at ho
        unfold tRead at ho
        simp -implicitDefEqProofs
        have hfr : (.cells t_field_Reader [.str s, .int .i64 0, .nili] : AObj A) = fRead s 0 .nili := rfl
        rw [hfr]
        obtain ⟨u, t1, e1, hg1⟩ : ∃ a b c, gNum s 0 = (a, b, c) := ⟨_, _, _, rfl⟩
        obtain ⟨g, t2, e2, hg2⟩ : ∃ a b c, gNum s t1 = (a, b, c) := ⟨_, _, _, rfl⟩
        obtain ⟨x, t3, e3, hg3⟩ : ∃ a b c, gNum s t2 = (a, b, c) := ⟨_, _, _, rfl⟩
        obtain ⟨se, t4, e4, hg4⟩ : ∃ a b c, gNum s t3 = (a, b, c) := ⟨_, _, _, rfl⟩
        obtain ⟨k, t5, e5, hg5⟩ : ∃ a b c, gNum s t4 = (a, b, c) := ⟨_, _, _, rfl⟩
        refine fReader2_ok hR s (by omega) 0 (by omega) ?_
        rw [hg1]
        dsimp only
        rcases (by omega : e1 ≠ 0 ∨ e1 = 0) with c1 | c1
        · rw [if_neg c1]
          have hn : o = none := by rw [← ho]; simp [rNums, hg1, c1]
          intro p1 r1
          refine fReader2_bad hR s 0 _ _ ?_
          refine fReader2_bad hR s 0 _ _ ?_
          refine fReader2_bad hR s 0 _ _ ?_
          refine fReader2_bad hR s 0 _ _ ?_
          simp -implicitDefEqProofs [fRead]
          change Tri _ _ _ _ (_ :: _ :: fRead s 0 (.iface _ _) :: _) _
          refine fDone2_bad s 0 _ _ ?_
          simp -implicitDefEqProofs
          exact hF 1501 [_, _, _, _] hn (.inl rfl)
        subst c1
        have q1 := gNum_enc hg1
        rw [if_pos rfl]
        refine fReader2_ok hR s (by omega) t1 (by omega) ?_
        rw [hg2]
        dsimp only
        rcases (by omega : e2 ≠ 0 ∨ e2 = 0) with c2 | c2
        · rw [if_neg c2]
          have hn : o = none := by rw [← ho]; simp [rNums, hg1, hg2, c2]
          intro p1 r1
          refine fReader2_bad hR s 0 _ _ ?_
          refine fReader2_bad hR s 0 _ _ ?_
          refine fReader2_bad hR s 0 _ _ ?_
          simp -implicitDefEqProofs [fRead]
          change Tri _ _ _ _ (_ :: _ :: fRead s 0 (.iface _ _) :: _) _
          refine fDone2_bad s 0 _ _ ?_
          simp -implicitDefEqProofs
          exact hF 1501 [_, _, _, _] hn (.inl rfl)
        subst c2
        have q2 := gNum_enc hg2
        rw [if_pos rfl]
        refine fReader2_ok hR s (by omega) t2 (by omega) ?_
        rw [hg3]
        dsimp only
        rcases (by omega : e3 ≠ 0 ∨ e3 = 0) with c3 | c3
        · rw [if_neg c3]
          have hn : o = none := by rw [← ho]; simp [rNums, hg1, hg2, hg3, c3]
          intro p1 r1
          refine fReader2_bad hR s 0 _ _ ?_
          refine fReader2_bad hR s 0 _ _ ?_
          simp -implicitDefEqProofs [fRead]
          change Tri _ _ _ _ (_ :: _ :: fRead s 0 (.iface _ _) :: _) _
          refine fDone2_bad s 0 _ _ ?_
          simp -implicitDefEqProofs
          exact hF 1501 [_, _, _, _] hn (.inl rfl)
        subst c3
        have q3 := gNum_enc hg3
        rw [if_pos rfl]
        refine fReader2_ok hR s (by omega) t3 (by omega) ?_
        rw [hg4]
        dsimp only
        rcases (by omega : e4 ≠ 0 ∨ e4 = 0) with c4 | c4
        · rw [if_neg c4]
          have hn : o = none := by rw [← ho]; simp [rNums, hg1, hg2, hg3, hg4, c4]
          intro p1 r1
          refine fReader2_bad hR s 0 _ _ ?_
          simp -implicitDefEqProofs [fRead]
          change Tri _ _ _ _ (_ :: _ :: fRead s 0 (.iface _ _) :: _) _
          refine fDone2_bad s 0 _ _ ?_
          simp -implicitDefEqProofs
          exact hF 1501 [_, _, _, _] hn (.inl rfl)
        subst c4
        have q4 := gNum_enc hg4
        rw [if_pos rfl]
        refine fReader2_ok hR s (by omega) t4 (by omega) ?_
        rw [hg5]
        dsimp only
        rcases (by omega : e5 ≠ 0 ∨ e5 = 0) with c5 | c5
        · rw [if_neg c5]
          have hn : o = none := by rw [← ho]; simp [rNums, hg1, hg2, hg3, hg4, hg5, c5]
          intro p1 r1
          simp -implicitDefEqProofs [fRead]
          change Tri _ _ _ _ (_ :: _ :: fRead s 0 (.iface _ _) :: _) _
          refine fDone2_bad s 0 _ _ ?_
          simp -implicitDefEqProofs
          exact hF 1501 [_, _, _, _] hn (.inl rfl)
        subst c5
        have q5 := gNum_enc hg5
        rw [if_pos rfl]
        have hn5 : rNums s 5 0 = some ([u, g, x, se, k], t5) := by simp [rNums, hg1, hg2, hg3, hg4, hg5]
        rw [hn5] at ho
        dsimp only at ho
        simp -implicitDefEqProofs [fRead]
        change Tri _ _ _ _ (_ :: _ :: fRead s t5 .nili :: _) _
        refine fDone2_ok s (by omega) t5 ?_
        by_cases d1 : t5 = (s.length : Int)
        · have d1' : (t5 == (s.length : Int)) = true := by simpa using d1
          by_cases d2 : u < 8
          · rw [if_pos ⟨d1, d2⟩] at ho
            have d2' : ¬ 8 ≤ u := by omega
            simp -implicitDefEqProofs [d1', d2']
            exact hS ⟨u, g, x, se, k⟩ [_, _, _] ho.symm
          · rw [if_neg (fun h => d2 h.2)] at ho
            have d2' : 8 ≤ u := by omega
            simp -implicitDefEqProofs [d1', d2']
            exact hF 1501 [_, _, _] ho.symm (.inl rfl)
        · have d1' : (t5 == (s.length : Int)) = false := by simpa using d1
          rw [if_neg (fun h => d1 h.1)] at ho
          simp -implicitDefEqProofs [d1']
          exact hF 1501 [_, _, _] ho.symm (.inl rfl)
      · rw [if_neg (by omega)] at ho
        simp -implicitDefEqProofs
        exact hF 301 [_] ho.symm (.inr rfl)
end
end Go.AI
