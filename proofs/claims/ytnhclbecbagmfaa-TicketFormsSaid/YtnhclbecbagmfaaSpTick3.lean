/- Tickets: the document's. -/
import Derived.Test.YtnhclbecbagmfaaSpTick2
set_option linter.all false
namespace Go.AI
variable {A : Type} {R : Adts A}
theorem ref12_BodyMay_ok (hR : R.Ok) (b : Body) {h : AHeap A} {K : AVal → AHeap A → Prop} (hk : K (.bool (bMay b)) h) : Tri Pr R n_ref12_BodyMay [.agg b.row] h K := by
  refine Tri.fn1 hR _ rfl rfl ?_ hk
  apply c_ref12_BodyMay
  unfold p_ref12_BodyMay
  simp -implicitDefEqProofs [Body.row]
  by_cases c1 : 0 ≤ b.user
  · by_cases c2 : b.user < 8
    · have c3 : nMay b.user = true := by simp [nMay]; omega
      have hb : bMay b = (nMay b.gen && (nMay b.expires && (nMay b.session && nMay b.key))) := by simp [bMay, Body.nums, c3, c2]
      rw [hb]
      simp -implicitDefEqProofs [c1, c2]
      refine ref12_num_ok _ ?_
      cases nMay b.gen with
      | false => simp -implicitDefEqProofs; exact Ans.rfl' _
      | true =>
        simp -implicitDefEqProofs
        refine ref12_num_ok _ ?_
        cases nMay b.expires with
        | false => simp -implicitDefEqProofs; exact Ans.rfl' _
        | true =>
          simp -implicitDefEqProofs
          refine ref12_num_ok _ ?_
          cases nMay b.session with
          | false => simp -implicitDefEqProofs; exact Ans.rfl' _
          | true =>
            simp -implicitDefEqProofs
            refine ref12_num_ok _ ?_
            exact Ans.rfl' _
    · have hb : bMay b = false := by simp [bMay, c2]
      rw [hb]
      simp -implicitDefEqProofs [c1, c2]; exact Ans.rfl' _
  · have hb : bMay b = false := by
      have : nMay b.user = false := by simp [nMay]; omega
      simp [bMay, Body.nums, this]
    rw [hb]
    simp -implicitDefEqProofs [c1]; exact Ans.rfl' _
def BodyQ (s : Bs) (v : AVal) : Prop := ∃ x : Body, v = .tup [.agg x.row, .bool (tRead s).isSome] ∧ ∀ t, tRead s = some t → x = t
theorem ref12_body_ok (hR : R.Ok) (s : Bs) (hs : s.length ≤ 1000) {h : AHeap A} {K : AVal → AHeap A → Prop} (hk : ∀ v, BodyQ s v → K v h) : Tri Pr R n_ref12_body [.str s] h K := by
  refine Tri.fn hR (BodyQ s) rfl ?_ (fun v hv _ => hk v hv)
  apply c_ref12_body
  unfold p_ref12_body
  obtain ⟨o, ho⟩ : ∃ o, tRead s = o := ⟨_, rfl⟩
  have hQ : ∀ x : Body, (∀ t, o = some t → x = t) → BodyQ s (.tup [.agg x.row, .bool o.isSome]) ∧ (AVal.tup [.agg x.row, .bool o.isSome]).ix 0 = true := fun x hx => ⟨⟨x, by rw [ho], by rw [ho]; exact hx⟩, by simp [AVal.ix, ixs, Body.row]⟩
  unfold tRead at ho
  simp -implicitDefEqProofs
  have hfr : (.cells t_bastionref1_Reader [.str s, .int .i64 0, .bool false] : AObj A) = rRead s 0 false := rfl
  rw [hfr]
  obtain ⟨u, t1, e1, hg1⟩ : ∃ a b c, gNum s 0 = (a, b, c) := ⟨_, _, _, rfl⟩
  obtain ⟨g, t2, e2, hg2⟩ : ∃ a b c, gNum s t1 = (a, b, c) := ⟨_, _, _, rfl⟩
  obtain ⟨x, t3, e3, hg3⟩ : ∃ a b c, gNum s t2 = (a, b, c) := ⟨_, _, _, rfl⟩
  obtain ⟨se, t4, e4, hg4⟩ : ∃ a b c, gNum s t3 = (a, b, c) := ⟨_, _, _, rfl⟩
  obtain ⟨k, t5, e5, hg5⟩ : ∃ a b c, gNum s t4 = (a, b, c) := ⟨_, _, _, rfl⟩
  refine rReader_ok hR s (by omega) 0 (by omega) false ?_
  rw [hg1]
  dsimp only
  rcases (by omega : e1 ≠ 0 ∨ e1 = 0) with c1 | c1
  · rw [if_neg (by simp [c1])]
    have hn : o = none := by rw [← ho]; simp [rNums, hg1, c1]
    subst hn
    simp -implicitDefEqProofs
    refine rReader_ok hR s (by omega) _ (by omega) true ?_
    rw [if_neg (by simp)]
    simp -implicitDefEqProofs
    refine rReader_ok hR s (by omega) _ (by omega) true ?_
    rw [if_neg (by simp)]
    simp -implicitDefEqProofs
    refine rReader_ok hR s (by omega) _ (by omega) true ?_
    rw [if_neg (by simp)]
    simp -implicitDefEqProofs
    refine rReader_ok hR s (by omega) _ (by omega) true ?_
    rw [if_neg (by simp)]
    simp -implicitDefEqProofs
    refine joinP_go ?_
    simp -implicitDefEqProofs [rRead]
    exact hQ ⟨0, 0, 0, 0, 0⟩ (by simp)
  subst c1
  have q1 := gNum_enc hg1
  rw [if_pos ⟨rfl, rfl⟩]
  simp -implicitDefEqProofs
  refine rReader_ok hR s (by omega) t1 (by omega) false ?_
  rw [hg2]
  dsimp only
  rcases (by omega : e2 ≠ 0 ∨ e2 = 0) with c2 | c2
  · rw [if_neg (by simp [c2])]
    have hn : o = none := by rw [← ho]; simp [rNums, hg1, hg2, c2]
    subst hn
    simp -implicitDefEqProofs
    refine rReader_ok hR s (by omega) _ (by omega) true ?_
    rw [if_neg (by simp)]
    simp -implicitDefEqProofs
    refine rReader_ok hR s (by omega) _ (by omega) true ?_
    rw [if_neg (by simp)]
    simp -implicitDefEqProofs
    refine rReader_ok hR s (by omega) _ (by omega) true ?_
    rw [if_neg (by simp)]
    simp -implicitDefEqProofs
    refine joinP_go ?_
    simp -implicitDefEqProofs [rRead]
    exact hQ ⟨u, 0, 0, 0, 0⟩ (by simp)
  subst c2
  have q2 := gNum_enc hg2
  rw [if_pos ⟨rfl, rfl⟩]
  simp -implicitDefEqProofs
  refine rReader_ok hR s (by omega) t2 (by omega) false ?_
  rw [hg3]
  dsimp only
  rcases (by omega : e3 ≠ 0 ∨ e3 = 0) with c3 | c3
  · rw [if_neg (by simp [c3])]
    have hn : o = none := by rw [← ho]; simp [rNums, hg1, hg2, hg3, c3]
    subst hn
    simp -implicitDefEqProofs
    refine rReader_ok hR s (by omega) _ (by omega) true ?_
    rw [if_neg (by simp)]
    simp -implicitDefEqProofs
    refine rReader_ok hR s (by omega) _ (by omega) true ?_
    rw [if_neg (by simp)]
    simp -implicitDefEqProofs
    refine joinP_go ?_
    simp -implicitDefEqProofs [rRead]
    exact hQ ⟨u, g, 0, 0, 0⟩ (by simp)
  subst c3
  have q3 := gNum_enc hg3
  rw [if_pos ⟨rfl, rfl⟩]
  simp -implicitDefEqProofs
  refine rReader_ok hR s (by omega) t3 (by omega) false ?_
  rw [hg4]
  dsimp only
  rcases (by omega : e4 ≠ 0 ∨ e4 = 0) with c4 | c4
  · rw [if_neg (by simp [c4])]
    have hn : o = none := by rw [← ho]; simp [rNums, hg1, hg2, hg3, hg4, c4]
    subst hn
    simp -implicitDefEqProofs
    refine rReader_ok hR s (by omega) _ (by omega) true ?_
    rw [if_neg (by simp)]
    simp -implicitDefEqProofs
    refine joinP_go ?_
    simp -implicitDefEqProofs [rRead]
    exact hQ ⟨u, g, x, 0, 0⟩ (by simp)
  subst c4
  have q4 := gNum_enc hg4
  rw [if_pos ⟨rfl, rfl⟩]
  simp -implicitDefEqProofs
  refine rReader_ok hR s (by omega) t4 (by omega) false ?_
  rw [hg5]
  dsimp only
  rcases (by omega : e5 ≠ 0 ∨ e5 = 0) with c5 | c5
  · rw [if_neg (by simp [c5])]
    have hn : o = none := by rw [← ho]; simp [rNums, hg1, hg2, hg3, hg4, hg5, c5]
    subst hn
    simp -implicitDefEqProofs
    refine joinP_go ?_
    simp -implicitDefEqProofs [rRead]
    exact hQ ⟨u, g, x, se, 0⟩ (by simp)
  subst c5
  have q5 := gNum_enc hg5
  rw [if_pos ⟨rfl, rfl⟩]
  simp -implicitDefEqProofs
  have hn5 : rNums s 5 0 = some ([u, g, x, se, k], t5) := by simp [rNums, hg1, hg2, hg3, hg4, hg5]
  rw [hn5] at ho
  dsimp only at ho
  refine joinP_go ?_
  by_cases d1 : t5 = (s.length : Int)
  · have d1' : (t5 == (s.length : Int)) = true := by simpa using d1
    simp -implicitDefEqProofs [rRead, d1']
    refine ref12_BodyMay_ok hR ⟨u, g, x, se, k⟩ ?_
    by_cases d2 : u < 8
    · rw [if_pos ⟨d1, d2⟩] at ho
      subst ho
      have hm : bMay ⟨u, g, x, se, k⟩ = true := by simp [bMay, Body.nums, d2, q1.1, q2.1, q3.1, q4.1, q5.1]
      rw [hm]
      simp -implicitDefEqProofs
      exact hQ ⟨u, g, x, se, k⟩ (fun t h => Option.some.inj h)
    · rw [if_neg (fun h => d2 h.2)] at ho
      subst ho
      have hm : bMay ⟨u, g, x, se, k⟩ = false := by simp [bMay, d2]
      rw [hm]
      simp -implicitDefEqProofs
      exact hQ ⟨u, g, x, se, k⟩ (by simp)
  · have d1' : (t5 == (s.length : Int)) = false := by simpa using d1
    rw [if_neg (fun h => d1 h.1)] at ho
    subst ho
    simp -implicitDefEqProofs [rRead, d1']
    exact hQ ⟨u, g, x, se, k⟩ (by simp)
end Go.AI
