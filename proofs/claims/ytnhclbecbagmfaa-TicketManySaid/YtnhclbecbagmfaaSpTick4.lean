/- Tickets: the document's Put and Get. -/
import Derived.Test.YtnhclbecbagmfaaSpTick3
set_option linter.all false
namespace Go.AI
variable {A : Type} {R : Adts A}
section
variable {mk : Int → List Bs → A}
theorem ref12_PutTicket_ok (hR : R.Ok) (hB : HasRBook R mk) {m : Int} {ts : List Bs} (hok : bOk m ts) (epoch : Int) (t : Body) {h : AHeap A} {b : Nat} (hb : h[b]? = some (.adt (mk m ts))) {K : AVal → AHeap A → Prop}
    (hk : K (.tup [.int .i64 (tPut m ts epoch t).2.1, .int .i64 (tPut m ts epoch t).2.2]) (h.set b (.adt (mk m (tPut m ts epoch t).1)))) : Tri Pr R n_ref12_PutTicket [.ptr b 0, .int .i64 epoch, .agg t.row] h K := by
  refine rbook_own hR hB rfl rfl ?_ hb hk
  apply c_ref12_PutTicket
  unfold p_ref12_PutTicket
  obtain ⟨q, hq⟩ : ∃ q, tPut m ts epoch t = q := ⟨_, rfl⟩
  rw [hq]
  unfold tPut at hq
  simp -implicitDefEqProofs [Body.row]
  refine ref12_BodyMay_ok hR t ?_
  cases hm : bMay t with
  | false =>
    rw [hm] at hq; simp at hq; subst hq
    simp -implicitDefEqProofs
  | true =>
    rw [if_pos hm] at hq
    simp -implicitDefEqProofs
    refine ref12_RingKey_ok hR hB hok epoch rfl ?_
    have hok1 := rKey_ok (x := epoch) hok
    obtain ⟨ts1, key, e1, hr⟩ : ∃ a b c, rKey m ts epoch = (a, b, c) := ⟨_, _, _, rfl⟩
    rw [hr] at hq hok1 ⊢
    dsimp only at hq hok1 ⊢
    by_cases h1 : e1 = 0
    · rw [if_pos h1] at hq
      subst h1
      have hl := nAll_len t.nums
      have hl5 : t.nums.length = 5 := rfl
      simp -implicitDefEqProofs
      refine ref1_Nums_ok hR t.nums (by simp [Body.nums]) true (t := t_int) (by simp [Body.nums]) ?_
      refine ref1_Seal_ok hR hB hok1 key _ (by omega) rfl ?_
      by_cases h2 : (cKey m ts1 83 key (nAll t.nums)).2.2 = 0
      · rw [if_pos h2] at hq; subst hq
        simp -implicitDefEqProofs [h2]
      · rw [if_neg h2] at hq; subst hq
        have h2' : ((cKey m ts1 83 key (nAll t.nums)).2.2 != 0) = true := by simpa using h2
        simp -implicitDefEqProofs [h2']
    · rw [if_neg h1] at hq; subst hq
      have h1' : (e1 != 0) = true := by simpa using h1
      simp -implicitDefEqProofs [h1']
theorem ref12_GetTicket_ok (hR : R.Ok) (hB : HasRBook R mk) {m : Int} {ts : List Bs} (hok : bOk m ts) (now keep tag : Int) {h : AHeap A} {b : Nat} (hb : h[b]? = some (.adt (mk m ts))) {K : AVal → AHeap A → Prop}
    (hk : K (.tup [.agg (tGet ts now keep tag).1.row, .int .i64 (tGet ts now keep tag).2]) h) : Tri Pr R n_ref12_GetTicket [.ptr b 0, .int .i64 now, .int .i64 keep, .int .i64 tag] h K := by
  refine rbook_own hR hB (ts' := ts) rfl rfl ?_ hb (by rw [set_same hb]; exact hk)
  apply c_ref12_GetTicket
  unfold p_ref12_GetTicket
  obtain ⟨q, hq⟩ : ∃ q, tGet ts now keep tag = q := ⟨_, rfl⟩
  rw [hq]
  unfold tGet at hq
  simp -implicitDefEqProofs
  refine ref12_num_ok now ?_
  cases hn : nMay now with
  | false =>
    rw [if_neg (by simp [hn])] at hq; subst hq
    simp -implicitDefEqProofs [Body.row, body0]
  | true =>
    by_cases k1 : keep < 0
    · rw [if_neg (by omega)] at hq; subst hq
      simp -implicitDefEqProofs [k1, Body.row, body0]
    by_cases k2 : 4 < keep
    · rw [if_neg (by omega)] at hq; subst hq
      simp -implicitDefEqProofs [k1, k2, Body.row, body0]
    rw [if_pos ⟨hn, by omega, by omega⟩] at hq
    have hn2 : 0 ≤ now ∧ now ≤ 1073741823 := by simpa [nMay] using hn
    obtain ⟨mn, hmn, hm1, hm2, hm3⟩ : ∃ mn, min now keep = mn ∧ mn ≤ now ∧ mn ≤ keep ∧ (mn = now ∨ mn = keep) := ⟨_, rfl, by omega, by omega, by omega⟩
    rw [hmn] at hq
    obtain ⟨tot, htot⟩ : ∃ o, tLoop ts tag (mn.toNat + 1) now = o := ⟨_, rfl⟩
    rw [htot] at hq
    simp -implicitDefEqProofs [k1, k2]
    refine loopP_go (TGI mk m ts now mn tag tot) (mn.toNat + 1) (Gives.done (by simp) ⟨now, rfl, rfl, by omega, by omega, by omega, by omega, htot.symm⟩) ?_
    rintro k y g ⟨e, rfl, rfl, e0, e1, e2, ek, ht⟩
    have w1 := w64 (n := e - 1) (by omega)
    have w2 := w64 (n := now - e) (by omega)
    by_cases hl : 0 < k
    · have l1 : 0 ≤ e := by omega
      have l2 : now - e ≤ keep := by omega
      have hme : nMay e = true := by simp only [nMay, decide_eq_true_eq]; omega
      simp -implicitDefEqProofs [l1, l2, w2]
      have hl5 := nS_len e
      have g5 : 6 + (nS e).length < 9223372036854775808 := by omega
      have hfin : ∀ r : AHeap A, (∀ o', tOpen ts e tag = none → o' = ()) → tOpen ts e tag = none → Gives Pr R 2 (.adt (mk m ts) :: .cells t_api_Body [.int .i64 0, .int .i64 0, .int .i64 0, .int .i64 0, .int .i64 0] :: r) [.int .i64 (e - 1)] fun z g => ∃ m', m' < k ∧ TGI mk m ts now mn tag tot m' z g := by
        intro r _ ho
        obtain ⟨n, rfl⟩ : ∃ n, k = n + 1 := ⟨k - 1, by omega⟩
        unfold tLoop at ht
        rw [ho] at ht
        dsimp only at ht
        refine Gives.cut hR (m := 2) (by simp) (by simp) (by simp [ixs, AVal.ix]) ?_ ⟨n, by omega, e - 1, rfl, rfl, by omega, by omega, by omega, by omega, ht⟩
        simp only [List.take, List.mem_cons, List.not_mem_nil, or_false]
        rintro o (rfl | rfl)
        · exact rbook_low hB _ _
        · exact low_cells rfl
      have fin := fun r ho => hfin r (fun _ _ => rfl) ho
      clear hfin
      obtain ⟨o, ho⟩ : ∃ o, tOpen ts e tag = o := ⟨_, rfl⟩
      have ho' := ho
      rw [ho] at fin
      unfold tOpen at ho
      rw [if_pos hme] at ho
      refine joinP_go ?_
      simp -implicitDefEqProofs [body0, Body.row]
      refine ref1_Nums_ok hR [e] (by simp) true (t := t_int) (by simp) ?_
      rw [nAll_one]
      have hat : 65 :: 101 :: 112 :: 111 :: 99 :: 104 :: nS e = 65 :: eTerm e := rfl
      simp -implicitDefEqProofs [g5, hat]
      refine rbook_Find_ok hR hB hok _ rfl ?_
      cases hf : bFind ts (65 :: eTerm e) with
      | none =>
        rw [hf] at ho
        simp -implicitDefEqProofs [w1]
        exact fin _ ho.symm
      | some key =>
        rw [hf] at ho
        dsimp only at ho
        simp -implicitDefEqProofs
        refine ref1_Open_ok hR hB (key : Int) tag rfl ?_
        have hlen := cOpen_len hok (key : Int) tag
        have herr := cOpen_err ts (key : Int) tag
        obtain ⟨s, f, hs⟩ : ∃ a b, cOpen ts (key : Int) tag = (a, b) := ⟨_, _, rfl⟩
        rw [hs] at ho hlen herr ⊢
        dsimp only at ho hlen herr ⊢
        simp -implicitDefEqProofs
        refine ref12_body_ok hR s (by omega) ?_
        rintro v ⟨x, rfl, hx⟩
        rcases herr with rfl | rfl
        · rw [if_pos rfl] at ho
          rw [ho] at hx ⊢
          cases o with
          | none =>
            simp -implicitDefEqProofs [w1, Body.row]
            exact fin _ rfl
          | some t =>
            obtain rfl := hx t rfl
            obtain ⟨n, rfl⟩ : ∃ n, k = n + 1 := ⟨k - 1, by omega⟩
            unfold tLoop at ht
            rw [ho'] at ht
            dsimp only at ht
            rw [ht] at hq
            dsimp only at hq
            subst hq
            simp -implicitDefEqProofs [Body.row]
        · rw [if_neg (by omega)] at ho
          simp -implicitDefEqProofs [w1, Body.row]
          exact fin _ ho.symm
    · obtain rfl : k = 0 := by omega
      rw [ht] at hq
      unfold tLoop at hq
      dsimp only at hq
      subst hq
      by_cases l1 : 0 ≤ e
      · have l2 : ¬ now - e ≤ keep := by omega
        simp -implicitDefEqProofs [l1, l2, w2, Body.row, body0]
      · simp -implicitDefEqProofs [l1, Body.row, body0]
end
end Go.AI
