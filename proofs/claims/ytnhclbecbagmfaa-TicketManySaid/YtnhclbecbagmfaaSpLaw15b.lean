/- TicketBack, TicketForms. -/
import Derived.Test.YtnhclbecbagmfaaSpLaw15
set_option linter.all false
namespace Go.AI
variable {A : Type} {R : Adts A}
theorem bMay_nums {b : Body} (h : bMay b = true) : (∀ x ∈ b.nums, nMay x = true) ∧ b.user < 8 := by
  simpa [bMay] using h
/-- A seal is made of a key and of numbers: unlike ones are unlike. -/
theorem nAll_inj : ∀ {l r : List Int}, (∀ x ∈ l, nMay x = true) → (∀ x ∈ r, nMay x = true) → l.length = r.length → nAll l = nAll r → l = r
  | [], [], _, _, _, _ => rfl
  | [], _ :: _, _, _, h, _ => by simp at h
  | _ :: _, [], _, _, h, _ => by simp at h
  | x :: l, y :: r, hl, hr, h, e => by
    rw [nAll_cons, nAll_cons] at e
    obtain ⟨rfl, e2⟩ := nS_head (hl x (by simp)) (hr y (by simp)) e
    rw [nAll_inj (fun z hz => hl z (by simp [hz])) (fun z hz => hr z (by simp [hz])) (by simpa using h) e2]
theorem body_inj {a c : Body} (ha : bMay a = true) (hc : bMay c = true) (h : nAll a.nums = nAll c.nums) : a = c := by
  have := nAll_inj (bMay_nums ha).1 (bMay_nums hc).1 rfl h
  obtain ⟨x, y, z, k, u⟩ := a
  obtain ⟨x2, y2, z2, k2, u2⟩ := c
  simpa [Body.nums] using this
/-- The first ticket of a book. -/
theorem tPut_first {m : Int} {ep : Int} {b : Body} (hm : 2 ≤ m) (he : nMay ep = true) (hb : bMay b = true) : tPut m [] ep b = ([65 :: eTerm ep, 83 :: (nS 0 ++ nAll b.nums)], 1, 0) := by
  have h1 : cMade m [] (65 :: eTerm ep) = ([65 :: eTerm ep], 0, 0) := by
    have := cMade_new (m := m) (ts := []) (s := 65 :: eTerm ep) (by simp) (by have := eTerm_len ep; simp; omega) (by simp) (by simp; omega)
    simpa using this
  have h2 : rKey m [] ep = ([65 :: eTerm ep], 0, 0) := by
    unfold rKey; rw [if_pos he, h1]; rfl
  have hl := nAll_len b.nums
  have hl5 : b.nums.length = 5 := rfl
  have h3 : cKey m [65 :: eTerm ep] 83 0 (nAll b.nums) = ([65 :: eTerm ep, 83 :: (nS 0 ++ nAll b.nums)], 1, 0) := by
    unfold cKey
    rw [if_pos (show nMay 0 = true from rfl)]
    have := cMade_new (m := m) (ts := [65 :: eTerm ep]) (s := 83 :: (nS 0 ++ nAll b.nums)) (by simp) (by have := nS_len 0; simp; omega) (by simp) (by simp; omega)
    simpa using this
  unfold tPut
  rw [if_pos hb, h2]
  simp only [if_true]
  rw [h3]
  rfl
theorem bFind_head (s : Bs) (r : List Bs) : bFind (s :: r) s = some 0 := by rw [bFind_cons, if_pos rfl]
/-- Another one of the same epoch. -/
theorem tPut_second {m : Int} {ep : Int} {a b : Body} (hm : 3 ≤ m) (he : nMay ep = true) (ha : bMay a = true) (hb : bMay b = true) :
    tPut m [65 :: eTerm ep, 83 :: (nS 0 ++ nAll a.nums)] ep b = if b = a then ([65 :: eTerm ep, 83 :: (nS 0 ++ nAll a.nums)], 1, 0) else ([65 :: eTerm ep, 83 :: (nS 0 ++ nAll a.nums), 83 :: (nS 0 ++ nAll b.nums)], 2, 0) := by
  have h1 : cMade m [65 :: eTerm ep, 83 :: (nS 0 ++ nAll a.nums)] (65 :: eTerm ep) = ([65 :: eTerm ep, 83 :: (nS 0 ++ nAll a.nums)], 0, 0) := by
    have := cMade_old (m := m) (ts := [65 :: eTerm ep, 83 :: (nS 0 ++ nAll a.nums)]) (s := 65 :: eTerm ep) (by simp) (by have := eTerm_len ep; simp; omega) (bFind_head _ _)
    simpa using this
  have h2 : rKey m [65 :: eTerm ep, 83 :: (nS 0 ++ nAll a.nums)] ep = ([65 :: eTerm ep, 83 :: (nS 0 ++ nAll a.nums)], 0, 0) := by
    unfold rKey; rw [if_pos he, h1]; rfl
  have hl := nAll_len b.nums
  have hl5 : b.nums.length = 5 := rfl
  have hne : (65 :: eTerm ep : Bs) ≠ 83 :: (nS 0 ++ nAll b.nums) := by simp
  unfold tPut
  rw [if_pos hb, h2]
  simp only [if_true]
  by_cases hab : b = a
  · subst hab
    rw [if_pos rfl]
    have h3 : cKey m [65 :: eTerm ep, 83 :: (nS 0 ++ nAll b.nums)] 83 0 (nAll b.nums) = ([65 :: eTerm ep, 83 :: (nS 0 ++ nAll b.nums)], 1, 0) := by
      unfold cKey
      rw [if_pos (show nMay 0 = true from rfl)]
      have hf : bFind [65 :: eTerm ep, 83 :: (nS 0 ++ nAll b.nums)] (83 :: (nS 0 ++ nAll b.nums)) = some 1 := by
        rw [bFind_cons, if_neg hne, bFind_head]; rfl
      have := cMade_old (m := m) (s := 83 :: (nS 0 ++ nAll b.nums)) (by simp) (by have := nS_len 0; simp; omega) hf
      simpa using this
    rw [h3]
    rfl
  · rw [if_neg hab]
    have hne2 : nAll b.nums ≠ nAll a.nums := fun h => hab (body_inj hb ha h)
    have h3 : cKey m [65 :: eTerm ep, 83 :: (nS 0 ++ nAll a.nums)] 83 0 (nAll b.nums) = ([65 :: eTerm ep, 83 :: (nS 0 ++ nAll a.nums), 83 :: (nS 0 ++ nAll b.nums)], 2, 0) := by
      unfold cKey
      rw [if_pos (show nMay 0 = true from rfl)]
      have := cMade_new (m := m) (ts := [65 :: eTerm ep, 83 :: (nS 0 ++ nAll a.nums)]) (s := 83 :: (nS 0 ++ nAll b.nums)) (by simp) (by have := nS_len 0; simp; omega) (by simp [hne2]) (by simp; omega)
      simpa using this
    rw [h3]
    rfl
section
variable {bk rbk : Int → List Bs → A}
theorem TicketBack_ok (hR : R.Ok) (hB : HasBook R bk) (hB' : HasRBook R rbk) (a c : Body) (epoch now keep : Int) : Tri Pr R n_law15_TicketBack [.agg a.row, .agg c.row, .int .i64 epoch, .int .i64 now, .int .i64 keep] [] fun u _ => u = .bool true := by
  apply c_law15_TicketBack
  unfold p_law15_TicketBack
  simp -implicitDefEqProofs [Body.row]
  refine awake15_ok hR hB hB' ?_
  simp -implicitDefEqProofs
  refine law15_twin_ok hR hB hB' 20 ?_
  rw [if_pos (by omega)]
  have b0 : bOk 20 [] := bOk_nil (by omega)
  rw [bits_mask epoch 10 (by omega) 1023 (by decide), bits_mask now 3 (by omega) 7 (by decide)]
  obtain ⟨ep, hep, ep1, ep2⟩ : ∃ e, epoch % 2 ^ 10 = e ∧ 0 ≤ e ∧ e < 1024 := ⟨_, rfl, by omega, by omega⟩
  obtain ⟨d, hd, d1, d2⟩ : ∃ e, now % 2 ^ 3 = e ∧ 0 ≤ e ∧ e < 8 := ⟨_, rfl, by omega, by omega⟩
  obtain ⟨k, hk, kk, k0, k5⟩ : ∃ k, (IntKind.u64.wrap keep).tmod 5 = k ∧ IntKind.i64.wrap k = k ∧ 0 ≤ k ∧ k < 5 := by
    have h1 : 0 ≤ IntKind.u64.wrap keep := by simp [IntKind.wrap, IntKind.signed, IntKind.bits]; omega
    have h2 := Int.tmod_nonneg 5 h1
    have h3 := Int.tmod_lt_of_pos (IntKind.u64.wrap keep) (b := 5) (by omega)
    exact ⟨_, rfl, w64 (by omega), h2, h3⟩
  rw [hep, hd]
  have w1 := w64 (n := ep + d) (by omega)
  have w2 := w64 (n := ep + d - 2) (by omega)
  have w3 := w64 (n := ep + d - 2 - ep) (by omega)
  have hme : nMay ep = true := by simp only [nMay, decide_eq_true_eq]; omega
  simp -implicitDefEqProofs [hk, kk]
  cases ha : bMay a with
  | false =>
    have k1 := tPut_bad (m := 20) (ts := []) (ep := ep) ha
    refine TPut_at (t := a) hR hB b0 k1 rfl ?_
    obtain ⟨⟨q, n, e⟩, k2⟩ : ∃ z, tPut 20 [] ep c = z := ⟨_, rfl⟩
    simp -implicitDefEqProofs
    refine TPut_at (t := c) hR hB b0 k2 rfl ?_
    simp -implicitDefEqProofs
    refine num14_ok ?_
    simp -implicitDefEqProofs
  | true =>
    have k1 := tPut_first (m := 20) (by omega) hme ha
    have b1 := bOk_tput b0 k1
    cases hc : bMay c with
    | false =>
      have k2 := tPut_bad (m := 20) (ts := [65 :: eTerm ep, 83 :: (nS 0 ++ nAll a.nums)]) (ep := ep) hc
      refine TPut_at (t := a) hR hB b0 k1 rfl ?_
      simp -implicitDefEqProofs
      refine TPut_at (t := c) hR hB b1 k2 rfl ?_
      simp -implicitDefEqProofs
      repeat (refine num14_ok ?_; simp -implicitDefEqProofs)
    | true =>
      have k2 := tPut_second (m := 20) (by omega) hme ha hc
      have g1 : ∀ r : List Bs, nMay (ep + d - 2) = true → tGet ((65 :: eTerm ep) :: (83 :: (nS 0 ++ nAll a.nums)) :: r) (ep + d - 2) k 1 = if ep ≤ ep + d - 2 ∧ ep + d - 2 - ep ≤ k then (a, 0) else (body0, 1501) := fun r hm =>
        tGet_live (key := 0) hme ha (bFind_head _ _) rfl (by
          have := bTerm_get (ts := (65 :: eTerm ep) :: (83 :: (nS 0 ++ nAll a.nums)) :: r) (i := 1) rfl
          simpa using this) hm ⟨k0, by omega⟩
      obtain ⟨q, n2, k2', g1'⟩ : ∃ q n2, tPut 20 [65 :: eTerm ep, 83 :: (nS 0 ++ nAll a.nums)] ep c = (q, n2, 0) ∧ (decide (1 = n2) = decide (a = c) ∧ (nMay (ep + d - 2) = true → tGet q (ep + d - 2) k 1 = if ep ≤ ep + d - 2 ∧ ep + d - 2 - ep ≤ k then (a, 0) else (body0, 1501))) := by
        by_cases hca : c = a
        · rw [if_pos hca] at k2
          exact ⟨_, _, k2, by simp [hca], g1 []⟩
        · rw [if_neg hca] at k2
          exact ⟨_, _, k2, by simp [Ne.symm hca], g1 [_]⟩
      clear k2 g1
      obtain ⟨g0, g1⟩ := g1'
      have b2 := bOk_tput b1 k2'
      obtain ⟨ts1, hts1⟩ : ∃ t, ([65 :: eTerm ep, 83 :: (nS 0 ++ nAll a.nums)] : List Bs) = t := ⟨_, rfl⟩
      rw [hts1] at k1 b1 k2'
      refine TPut_at (t := a) hR hB b0 k1 rfl ?_
      simp -implicitDefEqProofs
      refine TPut_at (t := c) hR hB b1 k2' rfl ?_
      simp -implicitDefEqProofs
      repeat (refine num14_ok ?_; simp -implicitDefEqProofs)
      by_cases hneg : ep + d - 2 < 0
      · simp -implicitDefEqProofs [w1, w2, hneg]
      · have hmm : nMay (ep + d - 2) = true := by simp only [nMay, decide_eq_true_eq]; omega
        have g2 := g1 hmm
        have hsa := shBody a a
        have hsc := shBody a c
        simp only [Body.row] at hsa hsc
        have heq : ((1 : Int) == n2) = decide (a = c) := by rw [← g0]; rfl
        simp -implicitDefEqProofs [w1, w2, hneg]
        by_cases hl1 : ep ≤ ep + d - 2
        · by_cases hl2 : ep + d - 2 - ep ≤ k
          · rw [if_pos ⟨hl1, hl2⟩] at g2
            refine TGet_at hR hB b2 g2 rfl ?_
            simp -implicitDefEqProofs [Body.row, hl1, hl2, w3, heq, hsa, hsc]
            refine num14_ok ?_
            simp -implicitDefEqProofs [hsa]
          · rw [if_neg (fun h => hl2 h.2)] at g2
            refine TGet_at hR hB b2 g2 rfl ?_
            simp -implicitDefEqProofs [Body.row, body0, hl1, hl2, w3, heq, hsa, hsc]
            refine num14_ok ?_
            simp -implicitDefEqProofs [hsa]
        · rw [if_neg (fun h => hl1 h.1)] at g2
          refine TGet_at hR hB b2 g2 rfl ?_
          simp -implicitDefEqProofs [Body.row, body0, hl1, heq, hsa, hsc]
          refine num14_ok ?_
          simp -implicitDefEqProofs [hsa]
def TFJ (ts : List Bs) (o : AHeap A) (vs : List AVal) (g : AHeap A) : Prop := ∃ (ep : Int) (t : Body), tPut 2 ts ep t = (ts, 0, 1500) ∧ vs = [.int .i64 ep] ∧ g = o ++ [.cells t_api_Body t.row]
theorem TicketForms_ok (hR : R.Ok) (hB : HasBook R bk) (hB' : HasRBook R rbk) (which x : Int) : Tri Pr R n_law15_TicketForms [.int .i64 which, .int .i64 x] [] fun u _ => u = .bool true := by
  apply c_law15_TicketForms
  unfold p_law15_TicketForms
  refine awake15_ok hR hB hB' ?_
  simp -implicitDefEqProofs
  rw [bits_mask x 10 (by omega) 1023 (by decide)]
  obtain ⟨d0, hd, d1, d2⟩ : ∃ d, x % 2 ^ 10 = d ∧ 0 ≤ d ∧ d < 1024 := ⟨_, rfl, by omega, by omega⟩
  rw [hd]
  have e1 := w64 (n := 1 + d0) (by omega)
  have e2 := w64 (n := 7 + (1 + d0)) (by omega)
  have e3 := w64 (n := 1073741823 + (1 + d0)) (by omega)
  have e4 := w64 (n := -(1 + d0)) (by omega)
  have e5 := w64 (n := 3 + (1 + d0)) (by omega)
  have e6 := w64 (n := 1073741823 - (1 + d0)) (by omega)
  have e7 := w64 (n := 4 + (1 + d0)) (by omega)
  refine law15_twin_ok hR hB hB' 2 ?_
  rw [if_pos (by omega)]
  simp -implicitDefEqProofs [e1]
  have b0 : bOk 2 [] := bOk_nil (by omega)
  have ha : bMay ⟨7, 1073741823, 1073741823, 1073741823, 1073741823⟩ = true := by decide
  have k1 := tPut_first (m := 2) (ep := 3) (b := ⟨7, 1073741823, 1073741823, 1073741823, 1073741823⟩) (by omega) (by decide) ha
  obtain ⟨t1, f1⟩ : ∃ t : List Bs, t = [65 :: eTerm 3, 83 :: (nS 0 ++ nAll (Body.nums ⟨7, 1073741823, 1073741823, 1073741823, 1073741823⟩))] := ⟨_, rfl⟩
  rw [← f1] at k1
  have b1 := bOk_tput b0 k1
  have k2 : tGet t1 3 0 1 = (⟨7, 1073741823, 1073741823, 1073741823, 1073741823⟩, 0) := by rw [f1]; decide +kernel
  have k3 : ∀ k g, tGet t1 (-(1 + d0)) k g = (body0, 1500) := fun k g => by
    unfold tGet; rw [if_neg]; rintro ⟨h, _⟩; simp only [nMay, decide_eq_true_eq] at h; omega
  have k4 : tGet t1 3 (-(1 + d0)) 1 = (body0, 1500) := by unfold tGet; rw [if_neg]; omega
  have k5 : tGet t1 3 (4 + (1 + d0)) 1 = (body0, 1500) := by unfold tGet; rw [if_neg]; omega
  have k6 : (t1.length : Int) = 2 := by rw [f1]; rfl
  -- there is no room for another epoch's key
  have hep : ∀ ep b, ep ≠ 3 → tPut 2 t1 ep b = (t1, 0, 1500) := by
    intro ep b hne
    cases hm : bMay b with
    | false => exact tPut_bad hm
    | true =>
      have hr : rKey 2 t1 ep = (t1, 0, 1400) := by
        unfold rKey
        cases he : nMay ep with
        | false => rfl
        | true =>
          have hnot : (65 :: eTerm ep : Bs) ∉ t1 := by
            rw [f1]
            simp only [List.mem_cons, List.not_mem_nil, or_false, not_or]
            refine ⟨fun h => hne (aTerm_inj he (by decide) h), by simp⟩
          rw [if_pos rfl, cMade_full hnot (by omega)]
          rfl
      unfold tPut
      rw [if_pos hm, hr]
      rfl
  -- nor for another body's term
  have hbd : ∀ b : Body, b.gen ≠ 1073741823 → tPut 2 t1 3 b = (t1, 0, 1500) := by
    intro b hne
    cases hm : bMay b with
    | false => exact tPut_bad hm
    | true =>
      have hr : rKey 2 t1 3 = (t1, 0, 0) := by rw [f1]; decide +kernel
      have hnot : (83 :: (nS 0 ++ nAll b.nums) : Bs) ∉ t1 := by
        rw [f1]
        simp only [List.mem_cons, List.not_mem_nil, or_false, not_or]
        refine ⟨by simp, fun h => ?_⟩
        have h2 : nAll b.nums = nAll (Body.nums ⟨7, 1073741823, 1073741823, 1073741823, 1073741823⟩) := by simpa using h
        have := body_inj hm ha h2
        rw [this] at hne
        exact hne rfl
      have hk : cKey 2 t1 83 0 (nAll b.nums) = (t1, 0, 300) := by
        unfold cKey
        rw [if_pos (show nMay 0 = true from rfl), cMade_full hnot (by omega)]
      unfold tPut
      rw [if_pos hm, hr]
      simp only [if_true]
      rw [hk]
      rfl
  clear f1
  refine TPut_at (t := ⟨7, 1073741823, 1073741823, 1073741823, 1073741823⟩) hR hB b0 k1 rfl ?_
  simp -implicitDefEqProofs
  refine joinP_all (TFJ t1 [.adt (bk 2 t1), .adt (rbk 2 []), .cells t_api_Body (Body.row ⟨7, 1073741823, 1073741823, 1073741823, 1073741823⟩)]) ?_ ?_
  · obtain ⟨k, hk, k0', k9⟩ : ∃ k, (IntKind.u64.wrap which).tmod 9 = k ∧ 0 ≤ k ∧ k < 9 := by
      have h1 : 0 ≤ IntKind.u64.wrap which := by simp [IntKind.wrap, IntKind.signed, IntKind.bits]; omega
      exact ⟨_, rfl, Int.tmod_nonneg _ h1, Int.tmod_lt_of_pos _ (by omega)⟩
    simp -implicitDefEqProofs [hk, e1, e2, e3, e4, e5, e6]
    refine iteP_of (fun _ => ?_) (fun _ => iteP_of (fun _ => ?_) (fun _ => iteP_of (fun _ => ?_) (fun _ => iteP_of (fun _ => ?_) (fun _ => iteP_of (fun _ => ?_) (fun _ => iteP_of (fun _ => ?_) (fun _ => iteP_of (fun _ => ?_) (fun _ => iteP_of (fun _ => ?_) (fun _ => ?_))))))))
    · exact ⟨3, ⟨7 + (1 + d0), 1073741823, 1073741823, 1073741823, 1073741823⟩, tPut_bad (by simp [bMay]; omega), rfl, rfl⟩
    · exact ⟨3, ⟨-(1 + d0), 1073741823, 1073741823, 1073741823, 1073741823⟩, tPut_bad (by simp [bMay, Body.nums, nMay]; omega), rfl, rfl⟩
    · exact ⟨3, ⟨7, -(1 + d0), 1073741823, 1073741823, 1073741823⟩, tPut_bad (by simp [bMay, Body.nums, nMay]; omega), rfl, rfl⟩
    · exact ⟨3, ⟨7, 1073741823, 1073741823 + (1 + d0), 1073741823, 1073741823⟩, tPut_bad (by simp [bMay, Body.nums, nMay]; omega), rfl, rfl⟩
    · exact ⟨3, ⟨7, 1073741823, 1073741823, -(1 + d0), 1073741823⟩, tPut_bad (by simp [bMay, Body.nums, nMay]; omega), rfl, rfl⟩
    · exact ⟨3, ⟨7, 1073741823, 1073741823, 1073741823, 1073741823 + (1 + d0)⟩, tPut_bad (by simp [bMay, Body.nums, nMay]; omega), rfl, rfl⟩
    · exact ⟨-(1 + d0), ⟨7, 1073741823, 1073741823, 1073741823, 1073741823⟩, hep _ _ (by omega), rfl, rfl⟩
    · exact ⟨3 + (1 + d0), ⟨7, 1073741823, 1073741823, 1073741823, 1073741823⟩, hep _ _ (by omega), rfl, rfl⟩
    · exact ⟨3, ⟨7, 1073741823 - (1 + d0), 1073741823, 1073741823, 1073741823⟩, hbd _ (by simp only; omega), rfl, rfl⟩
  rintro vs _ ⟨ep, t, ht, rfl, rfl⟩
  refine ⟨by simp, ?_⟩
  simp -implicitDefEqProofs [Body.row, e4, e7]
  refine TPut_at (t := t) hR hB b1 ht rfl ?_
  simp -implicitDefEqProofs
  refine TGet_at hR hB b1 (k3 _ _) rfl ?_
  simp -implicitDefEqProofs [Body.row, body0]
  refine TGet_at hR hB b1 k4 rfl ?_
  simp -implicitDefEqProofs [Body.row, body0, e7]
  refine TGet_at hR hB b1 k5 rfl ?_
  simp -implicitDefEqProofs [Body.row, body0]
  refine TGet_nil hR _ _ _ ?_
  simp -implicitDefEqProofs [Body.row, body0]
  refine TGet_at hR hB b1 k2 rfl ?_
  have hs := shBody ⟨7, 1073741823, 1073741823, 1073741823, 1073741823⟩ ⟨7, 1073741823, 1073741823, 1073741823, 1073741823⟩
  simp only [Body.row] at hs
  simp -implicitDefEqProofs [Body.row]
  repeat (refine num14_ok ?_; simp -implicitDefEqProofs [hs])
  refine Len_at hR hB k6 rfl ?_
  simp -implicitDefEqProofs
end
end Go.AI
