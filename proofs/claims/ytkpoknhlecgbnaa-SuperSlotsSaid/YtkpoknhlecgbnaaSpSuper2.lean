/- The boot's sectors: which one counts; the document's. -/
import Derived.Test.YtkpoknhlecgbnaaSpSuper
set_option linter.all false
namespace Go.AI
variable {A : Type} {R : Adts A}
theorem super_Put_nil (hR : R.Ok) (x : Int) {h : AHeap A} {K : AVal → AHeap A → Prop} (hk : K (.tup [.str [], .int .i64 1]) h) : Tri Pr R n_super_Put [.nilp, .int .i64 x] h K := by
  apply c_super_Put
  unfold p_super_Put
  simp -implicitDefEqProofs; exact hk
theorem super_Get_nil (hR : R.Ok) (s : Bs) {h : AHeap A} {K : AVal → AHeap A → Prop} (hk : K (.tup [.int .i64 0, .int .i64 1]) h) : Tri Pr R n_super_Get [.nilp, .str s] h K := by
  apply c_super_Get
  unfold p_super_Get
  simp -implicitDefEqProofs; exact hk
theorem super_Pick_nil (hR : R.Ok) (s t : Bs) {h : AHeap A} {K : AVal → AHeap A → Prop} (hk : K (.tup [.int .i64 0, .int .i64 0, .int .i64 1]) h) : Tri Pr R n_super_Pick [.nilp, .str s, .str t] h K := by
  apply c_super_Pick
  unfold p_super_Pick
  simp -implicitDefEqProofs; exact hk
section
variable {mk : Int → List Bs → A}
theorem super_Pick_ok (hR : R.Ok) (hB : HasBook R mk) {m : Int} {ts : List Bs} (s t : Bs) (hs : s.length < 8000000000000000000) (ht : t.length < 8000000000000000000) {h : AHeap A} {b : Nat} (hb : h[b]? = some (.adt (mk m ts))) {K : AVal → AHeap A → Prop}
    (hk : K (.tup [.int .i64 (sPick ts s t).1, .int .i64 (sPick ts s t).2.1, .int .i64 (sPick ts s t).2.2]) h) : Tri Pr R n_super_Pick [.ptr b 0, .str s, .str t] h K := by
  apply c_super_Pick
  unfold p_super_Pick
  simp -implicitDefEqProofs
  refine super_Get_ok hR hB s hs hb ?_
  simp -implicitDefEqProofs
  refine super_Get_ok hR hB t ht hb ?_
  unfold sPick at hk
  obtain ⟨x, e, hx⟩ : ∃ x e, sGet ts s = (x, e) := ⟨_, _, rfl⟩
  obtain ⟨y, f, hy⟩ : ∃ x e, sGet ts t = (x, e) := ⟨_, _, rfl⟩
  rw [hx, hy] at hk
  rw [hx, hy]
  dsimp only at hk ⊢
  by_cases c1 : e = 0
  · subst c1
    rw [if_neg (by simp)] at hk
    by_cases c2 : y ≤ x
    · rw [if_pos ⟨rfl, c2⟩] at hk
      simp -implicitDefEqProofs [c2]; exact hk
    · rw [if_neg (by simp [c2])] at hk
      simp -implicitDefEqProofs [c2]; exact hk
  · have c1' : (e != 0) = true := by simpa using c1
    have c1'' : (e == 0) = false := by simpa using c1
    by_cases c3 : f = 0
    · subst c3
      rw [if_neg (by simp), if_neg (by simp [c1])] at hk
      simp -implicitDefEqProofs [c1', c1'']; exact hk
    · have c3' : (f != 0) = true := by simpa using c3
      rw [if_pos ⟨c1, c3⟩] at hk
      simp -implicitDefEqProofs [c1', c3']; exact hk
end
section
variable {mk : Int → List Bs → A}
theorem ref1_PutSuper_ok (hR : R.Ok) (hB : HasRBook R mk) {m : Int} {ts : List Bs} (hok : bOk m ts) (boot : Int) {h : AHeap A} {b : Nat} (hb : h[b]? = some (.adt (mk m ts))) {K : AVal → AHeap A → Prop}
    (hk : K (.tup [.str (sPut m ts boot).2.1, .int .i64 (sPut m ts boot).2.2]) (h.set b (.adt (mk m (sPut m ts boot).1)))) : Tri Pr R n_ref1_PutSuper [.ptr b 0, .int .i64 boot] h K := by
  refine rbook_own hR hB rfl rfl ?_ hb hk
  apply c_ref1_PutSuper
  unfold p_ref1_PutSuper
  by_cases h1 : 1 ≤ boot ∧ boot ≤ 1023
  · have hm : bootMay boot = true := by simp [bootMay, h1]
    have h2 : ¬ boot < 1 := by omega
    have h3 : ¬ 1023 < boot := by omega
    have hl := nS_len boot
    have h4 : 5 + (nS boot).length < 9223372036854775808 := by omega
    simp -implicitDefEqProofs [h2, h3]
    refine ref1_Nums_ok hR [boot] (by simp) true (t := t_int) (by simp) ?_
    rw [nAll_one]
    simp -implicitDefEqProofs [h4]
    refine ref1_Hash_ok hR hB hok _ (by simp; omega) (by simp) ?_
    have hc : 72 :: 115 :: 117 :: 112 :: 101 :: 114 :: nS boot = supT boot := rfl
    rw [hc]
    by_cases h5 : (cMade m ts (supT boot)).2.2 = 0
    · simp -implicitDefEqProofs [h5]
      refine ref1_Nums_ok hR [boot, (cMade m ts (supT boot)).2.1] (by simp) true (t := t_int) (by simp) ?_
      have hl2 := nS_len (cMade m ts (supT boot)).2.1
      have hn : nAll [boot, (cMade m ts (supT boot)).2.1] = nS boot ++ nS (cMade m ts (supT boot)).2.1 := by simp [nAll]
      rw [hn]
      refine ref1_sector_ok hR _ (by simp; omega) ?_
      simp -implicitDefEqProofs [sPut, hm, h5]
    · have h6 : ((cMade m ts (supT boot)).2.2 != 0) = true := by simpa using h5
      simp -implicitDefEqProofs [h6, sPut, hm, h5]
  · have hm : bootMay boot = false := by simp [bootMay]; omega
    by_cases h2 : boot < 1
    · simp -implicitDefEqProofs [h2, sPut, hm]
    · have h3 : 1023 < boot := by omega
      simp -implicitDefEqProofs [h2, h3, sPut, hm]
theorem ref1_GetSuper_ok (hR : R.Ok) (hB : HasRBook R mk) {m : Int} {ts : List Bs} (hok : bOk m ts) (s : Bs) (hs : s.length < 8000000000000000000) {h : AHeap A} {b : Nat} (hb : h[b]? = some (.adt (mk m ts))) {K : AVal → AHeap A → Prop}
    (hk : K (.tup [.int .i64 (sGet ts s).1, .int .i64 (sGet ts s).2]) h) : Tri Pr R n_ref1_GetSuper [.ptr b 0, .str s] h K := by
  refine rbook_own hR hB (ts' := ts) rfl rfl ?_ hb (by rw [set_same hb]; exact hk)
  apply c_ref1_GetSuper
  unfold p_ref1_GetSuper
  obtain ⟨r, hr⟩ : ∃ r, sGet ts s = r := ⟨_, rfl⟩
  rw [hr]
  unfold sGet at hr
  simp -implicitDefEqProofs
  have hf : (.cells t_bastionref1_Reader [.str s, .int .i64 0, .bool false] : AObj A) = rRead s 0 false := rfl
  rw [hf]
  refine rReader_ok hR s (by omega) 0 (by omega) false ?_
  obtain ⟨x, t1, e1, hg1⟩ : ∃ x t1 e1, gNum s 0 = (x, t1, e1) := ⟨_, _, _, rfl⟩
  rw [hg1] at hr ⊢
  dsimp only at hr ⊢
  by_cases c3 : s.length = 64
  · by_cases c1 : e1 = 0
    · subst c1
      obtain ⟨q1, q2, q3, q4, q5⟩ := gNum_enc hg1
      rw [if_neg (by simp)] at hr
      rw [if_pos ⟨rfl, rfl⟩]
      refine rReader_ok hR s (by omega) t1 (by omega) false ?_
      obtain ⟨y, t2, e2, hg2⟩ : ∃ y t2 e2, gNum s t1 = (y, t2, e2) := ⟨_, _, _, rfl⟩
      rw [hg2] at hr ⊢
      dsimp only at hr ⊢
      by_cases c2 : e2 = 0
      · subst c2
        obtain ⟨p1, p2, p3, p4, p5⟩ := gNum_enc hg2
        rw [if_neg (by simp)] at hr
        rw [if_pos ⟨rfl, rfl⟩]
        refine joinP_go ?_
        by_cases c4 : 1 ≤ x ∧ x ≤ 1023
        · have hm : bootMay x = true := by simp [bootMay, c4]
          have d1 : ¬ x < 1 := by omega
          have d2 : ¬ 1023 < x := by omega
          have hl := nS_len x
          have h4 : 5 + (nS x).length < 9223372036854775808 := by omega
          have hc : 72 :: 115 :: 117 :: 112 :: 101 :: 114 :: nS x = supT x := rfl
          have f2 : 0 ≤ t2 := by omega
          have f3 : t2 ≤ 64 := by omega
          have e5 := w64 (n := 64 - t2) (by omega)
          obtain ⟨n, hn⟩ : ∃ n : Nat, (64 - t2).toNat = n := ⟨_, rfl⟩
          have hn2 : 64 - t2.toNat = n := by omega
          rw [hn2] at hr
          have f5 : 64 - t2 ≤ 140737488355328 := by omega
          simp -implicitDefEqProofs [c3, d1, d2, f2, f3, e5, mkslP, f5, hn]
          refine z_readn (by rfl) (zCells_eq n).symm ?_
          by_cases c6 : s.drop t2.toNat = List.replicate n 0
          · simp -implicitDefEqProofs [c6]
            refine ref1_Nums_ok hR [x] (by simp) true (t := t_int) (by simp) ?_
            rw [nAll_one]
            simp -implicitDefEqProofs [h4]
            refine ref1_IsHash_ok hR hB hok _ (by simp; omega) y (by simp) ?_
            rw [hc]
            cases c5 : cIs ts (supT x) y with
            | false =>
              rw [if_pos (.inr (.inr (.inl c5)))] at hr; subst hr
              simp -implicitDefEqProofs
            | true =>
              rw [if_neg (by rintro (h | h | h | h); exact h c3; rw [hm] at h; simp at h; rw [c5] at h; simp at h; exact h c6)] at hr; subst hr
              simp -implicitDefEqProofs
          · rw [if_pos (.inr (.inr (.inr c6)))] at hr; subst hr
            have c6' : (s.drop t2.toNat != List.replicate n 0) = true := by simpa using c6
            simp -implicitDefEqProofs [c6']
        · have c4' : bootMay x = false := by simp [bootMay]; omega
          rw [if_pos (.inr (.inl c4'))] at hr; subst hr
          by_cases d1 : x < 1
          · simp -implicitDefEqProofs [c3, d1]
          · have d2 : 1023 < x := by omega
            simp -implicitDefEqProofs [c3, d1, d2]
      · rw [if_pos c2] at hr; subst hr
        rw [if_neg (by simp [c2])]
        refine joinP_go ?_
        simp -implicitDefEqProofs [c3]
    · rw [if_pos c1] at hr; subst hr
      rw [if_neg (by simp [c1])]
      refine rReader_ok hR s (by omega) 0 (by omega) true ?_
      rw [if_neg (by simp)]
      refine joinP_go ?_
      simp -implicitDefEqProofs [c3]
  · have hr' : r = (0, 1000) := by
      rw [← hr]
      split
      · rfl
      · split
        · rfl
        · rw [if_pos (.inl c3)]
    subst hr'
    have c3' : ((s.length : Int) != 64) = true := by simp; omega
    by_cases c1 : e1 = 0
    · obtain ⟨q1, q2, q3, q4, q5⟩ := gNum_enc (by rw [hg1, c1])
      rw [if_pos ⟨rfl, c1⟩]
      refine rReader_ok hR s (by omega) t1 (by omega) false ?_
      split
      · refine joinP_go ?_
        simp -implicitDefEqProofs [c3']
      · refine joinP_go ?_
        simp -implicitDefEqProofs [c3']
    · rw [if_neg (by simp [c1])]
      refine rReader_ok hR s (by omega) 0 (by omega) true ?_
      rw [if_neg (by simp)]
      refine joinP_go ?_
      simp -implicitDefEqProofs [c3']
theorem ref1_Pick_ok (hR : R.Ok) (hB : HasRBook R mk) {m : Int} {ts : List Bs} (hok : bOk m ts) (s t : Bs) (hs : s.length < 8000000000000000000) (ht : t.length < 8000000000000000000) {h : AHeap A} {b : Nat} (hb : h[b]? = some (.adt (mk m ts))) {K : AVal → AHeap A → Prop}
    (hk : K (.tup [.int .i64 (sPick ts s t).1, .int .i64 (sPick ts s t).2.1, .int .i64 (sPick ts s t).2.2]) h) : Tri Pr R n_ref1_Pick [.ptr b 0, .str s, .str t] h K := by
  apply c_ref1_Pick
  unfold p_ref1_Pick
  refine ref1_GetSuper_ok hR hB hok s hs hb ?_
  simp -implicitDefEqProofs
  refine ref1_GetSuper_ok hR hB hok t ht hb ?_
  unfold sPick at hk
  obtain ⟨_, z1, z2⟩ := sGet_err ts s
  obtain ⟨_, w1, w2⟩ := sGet_err ts t
  obtain ⟨x, e, hx⟩ : ∃ x e, sGet ts s = (x, e) := ⟨_, _, rfl⟩
  obtain ⟨y, f, hy⟩ : ∃ x e, sGet ts t = (x, e) := ⟨_, _, rfl⟩
  rw [hx, hy] at hk
  rw [hx] at z1 z2
  rw [hy] at w1 w2
  rw [hx, hy]
  dsimp only at hk z1 z2 w1 w2 ⊢
  by_cases c1 : e = 0
  · subst c1
    rw [if_neg (by simp)] at hk
    have hx1 := z2 rfl
    by_cases c3 : f = 0
    · subst c3
      by_cases c2 : y ≤ x
      · rw [if_pos ⟨rfl, c2⟩] at hk
        simp -implicitDefEqProofs [c2]; exact hk
      · rw [if_neg (by simp [c2])] at hk
        simp -implicitDefEqProofs [c2]; exact hk
    · have c3' : (f != 0) = true := by simpa using c3
      have hy0 := w1 c3
      rw [if_pos ⟨rfl, by omega⟩] at hk
      simp -implicitDefEqProofs [c3']; exact hk
  · have c1' : (e != 0) = true := by simpa using c1
    have c1'' : (e == 0) = false := by simpa using c1
    by_cases c3 : f = 0
    · subst c3
      rw [if_neg (by simp), if_neg (by simp [c1])] at hk
      simp -implicitDefEqProofs [c1', c1'']; exact hk
    · have c3' : (f != 0) = true := by simpa using c3
      rw [if_pos ⟨c1, c3⟩] at hk
      simp -implicitDefEqProofs [c1', c3']; exact hk
end
end Go.AI
