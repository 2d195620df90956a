/- The boot's sectors. -/
import Derived.Test.YtkpoknhlecgbnaaSpReader3
import Derived.Test.YtkpoknhlecgbnaaSpSuper0
set_option linter.all false
namespace Go.AI
variable {A : Type} {R : Adts A}
theorem z_readn {n : Nat} {K : AVal → Prop} {h : AHeap A} {b : Nat} {ex : Bool} {t : TypeId} {cs : List AVal} (hb : h[b]? = some (.cells t cs)) (hc : cs = (List.replicate n [AVal.int .u8 0]).flatten) (hk : K (.str (List.replicate n 0))) : b2sP (.sl b 0 n n ex) h K := by
  subst hc
  have e : (List.replicate n [AVal.int .u8 0]).flatten = List.replicate n (.int .u8 0) := zCells_eq n
  rw [e] at hb
  unfold b2sP
  dsimp only
  simp only [cellsAt, hb, Option.bind_some, AObj.read]
  rw [if_pos (by simp)]
  simp only [List.drop_zero]
  rw [List.take_of_length_le (by simp), zCells_bytes]
  exact hk
theorem record_Fill_ok (hR : R.Ok) (s : Bs) (hs : s.length ≤ 64) {h : AHeap A} {K : AVal → AHeap A → Prop} (hk : K (.tup [.str (pad s), .bool true]) h) : Tri Pr R n_record_Fill [.str s] h K := by
  refine Tri.fn1 hR _ rfl rfl ?_ hk
  apply c_record_Fill
  unfold p_record_Fill
  have h1 : ¬ (64 : Int) < s.length := by omega
  have e1 := w64 (n := 64 - (s.length : Int)) (by omega)
  have h9 : (0 : Int) ≤ 64 - s.length ∧ 64 - (s.length : Int) ≤ 140737488355328 := by omega
  simp -implicitDefEqProofs [h1, e1]
  refine mkz_ok h9 ?_
  have e2 : (64 - (s.length : Int)).toNat = 64 - s.length := by omega
  have h2 : s.length + (64 - s.length) < 9223372036854775808 := by omega
  simp -implicitDefEqProofs [e2, h2]
  exact Ans.of (by simp [pad])
theorem ref1_sector_ok (hR : R.Ok) (s : Bs) (hs : s.length ≤ 64) {h : AHeap A} {K : AVal → AHeap A → Prop} (hk : K (.str (pad s)) h) : Tri Pr R n_ref1_sector [.str s] h K := by
  refine Tri.fn1 hR _ rfl rfl ?_ hk
  apply c_ref1_sector
  unfold p_ref1_sector
  have e1 := w64 (n := 64 - (s.length : Int)) (by omega)
  have h9 : (0 : Int) ≤ 64 - s.length ∧ 64 - (s.length : Int) ≤ 140737488355328 := by omega
  simp -implicitDefEqProofs [e1]
  refine mkz_ok h9 ?_
  have e2 : (64 - (s.length : Int)).toNat = 64 - s.length := by omega
  have h2 : s.length + (64 - s.length) < 9223372036854775808 := by omega
  simp -implicitDefEqProofs [e2, h2]
  exact Ans.of (by simp [pad])
theorem super_may_ok (x : Int) {h : AHeap A} {K : AVal → AHeap A → Prop} (hk : K (.bool (bootMay x)) h) : Tri Pr R n_super_may [.int .i64 x] h K := by
  apply c_super_may
  unfold p_super_may
  by_cases h1 : 1 ≤ x
  · by_cases h2 : x ≤ 1023
    · simp [bootMay, h1, h2] at hk; simp -implicitDefEqProofs [h1, h2]; exact hk
    · simp [bootMay, h1, h2] at hk; simp -implicitDefEqProofs [h1, h2]; exact hk
  · simp [bootMay, h1] at hk; simp -implicitDefEqProofs [h1]; exact hk
theorem book_own (hR : R.Ok) {mk : Int → List Bs → A} (hB : HasBook R mk) {m : Int} {ts ts' : List Bs} {f : FuncId} {us : List AVal} (hus : us.all (AVal.ix 0) = true) {v : AVal} (hv : v.ix 0 = true)
    (t : Tri Pr R f (.ptr 0 0 :: us) [.adt (mk m ts)] fun u g => u = v ∧ ∃ r, g = .adt (mk m ts') :: r)
    {h : AHeap A} {b : Nat} (hb : h[b]? = some (.adt (mk m ts))) {K : AVal → AHeap A → Prop} (hk : K v (h.set b (.adt (mk m ts')))) : Tri Pr R f (.ptr b 0 :: us) h K := by
  have hus' : ixs 0 us = true := by rw [ixs_all]; exact hus
  refine Tri.own hR (as2 := .ptr 0 0 :: us) (Q := fun u o => u = v ∧ o = .adt (mk m ts')) ?_ (book_ix hB _ _ _) ?_ (book_ren hB _ _) ?_ hb ?_ ?_
  · simp [ixs, AVal.ix, ixs_mono (Nat.zero_le 1) us hus']
  · rintro _ _ ⟨rfl, rfl⟩; exact ⟨hv, book_ren hB _ _⟩
  · refine Tri.post (t.mono ?_)
    rintro _ _ ⟨rfl, r, rfl⟩
    exact Gives.cut hR (m := 1) (by simp) (by simp) (by simp [ixs, ix_mono (Nat.zero_le 1) _ hv]) (by simp; exact ⟨book_ix hB _ _ _, fun τ _ => book_ren hB _ _ _⟩) ⟨_, rfl, _, ⟨rfl, rfl⟩, rfl⟩
  · simp only [rens, AVal.ren]
    rw [rens_ix0 _ _ hus']; simp
  · rintro _ _ ⟨rfl, rfl⟩; exact hk
def BoolJ (c : Bool) (o : AObj A) (vs : List AVal) (g : AHeap A) : Prop := vs = [.bool c] ∧ ∃ r, g = o :: r
section
variable {mk : Int → List Bs → A}
theorem super_Put_ok (hR : R.Ok) (hB : HasBook R mk) {m : Int} {ts : List Bs} (hok : bOk m ts) (boot : Int) {h : AHeap A} {b : Nat} (hb : h[b]? = some (.adt (mk m ts))) {K : AVal → AHeap A → Prop}
    (hk : K (.tup [.str (sPut m ts boot).2.1, .int .i64 (sPut m ts boot).2.2]) (h.set b (.adt (mk m (sPut m ts boot).1)))) : Tri Pr R n_super_Put [.ptr b 0, .int .i64 boot] h K := by
  apply c_super_Put
  unfold p_super_Put
  simp -implicitDefEqProofs
  refine super_may_ok boot ?_
  cases hm : bootMay boot with
  | false =>
    simp [sPut, hm, set_same hb] at hk
    simp -implicitDefEqProofs; exact hk
  | true =>
    simp only [sPut, hm, if_true] at hk
    simp -implicitDefEqProofs
    refine field_Num_any hR boot ?_
    have hl := nS_len boot
    have h4 : 5 + (nS boot).length < 9223372036854775808 := by omega
    simp -implicitDefEqProofs [h4]
    refine craft_Hash_ok hR hB hok _ (by simp; omega) hb ?_
    have hc : 72 :: 115 :: 117 :: 112 :: 101 :: 114 :: nS boot = supT boot := rfl
    rw [hc]
    by_cases h5 : (cMade m ts (supT boot)).2.2 = 0
    · simp only [h5, if_true] at hk
      simp -implicitDefEqProofs [h5]
      refine field_Num_any hR _ ?_
      have hl2 := nS_len (cMade m ts (supT boot)).2.1
      have h6 : (nS boot).length + (nS (cMade m ts (supT boot)).2.1).length < 9223372036854775808 := by omega
      simp -implicitDefEqProofs [h6]
      refine record_Fill_ok hR _ (by simp; omega) ?_
      simp -implicitDefEqProofs
      exact hk
    · simp only [h5, if_false] at hk
      have h6 : ((cMade m ts (supT boot)).2.2 != 0) = true := by simpa using h5
      simp -implicitDefEqProofs [h6]; exact hk
theorem super_Get_ok (hR : R.Ok) (hB : HasBook R mk) {m : Int} {ts : List Bs} (s : Bs) (hs : s.length < 8000000000000000000) {h : AHeap A} {b : Nat} (hb : h[b]? = some (.adt (mk m ts))) {K : AVal → AHeap A → Prop}
    (hk : K (.tup [.int .i64 (sGet ts s).1, .int .i64 (sGet ts s).2]) h) : Tri Pr R n_super_Get [.ptr b 0, .str s] h K := by
  refine book_own hR hB (ts' := ts) rfl rfl ?_ hb (by rw [set_same hb]; exact hk)
  apply c_super_Get
  unfold p_super_Get
  obtain ⟨r, hr⟩ : ∃ r, sGet ts s = r := ⟨_, rfl⟩
  rw [hr]
  unfold sGet at hr
  simp -implicitDefEqProofs
  have hf : (.cells t_field_Reader [.str s, .int .i64 0, .nili] : AObj A) = fRead s 0 .nili := rfl
  rw [hf]
  refine fReader_ok hR s (by omega) 0 (by omega) ?_
  obtain ⟨x, t1, e1, hg1⟩ : ∃ x t1 e1, gNum s 0 = (x, t1, e1) := ⟨_, _, _, rfl⟩
  rw [hg1] at hr ⊢
  dsimp only at hr ⊢
  by_cases c1 : e1 = 0
  · subst c1
    obtain ⟨q1, q2, q3, q4, q5⟩ := gNum_enc hg1
    rw [if_neg (by simp)] at hr
    rw [if_pos rfl]
    simp -implicitDefEqProofs
    refine fReader_ok hR s (by omega) t1 (by omega) ?_
    obtain ⟨y, t2, e2, hg2⟩ : ∃ y t2 e2, gNum s t1 = (y, t2, e2) := ⟨_, _, _, rfl⟩
    rw [hg2] at hr ⊢
    dsimp only at hr ⊢
    by_cases c2 : e2 = 0
    · subst c2
      obtain ⟨p1, p2, p3, p4, p5⟩ := gNum_enc hg2
      rw [if_neg (by simp)] at hr
      rw [if_pos rfl]
      refine joinP_go ?_
      by_cases c3 : s.length = 64
      · by_cases c4 : bootMay x = true
        · have hx := bootMay_num c4
          have ht : s.take t1.toNat = nS x := by simpa [nS, hx] using q5
          have hl := nS_len x
          have h4 : 5 + (nS x).length < 9223372036854775808 := by omega
          have hc : 72 :: 115 :: 117 :: 112 :: 101 :: 114 :: nS x = supT x := rfl
          have f1 : 0 ≤ t1 := by omega
          have f2 : 0 ≤ t2 := by omega
          have f3 : t2 ≤ 64 := by omega
          have f4 : t1 ≤ 64 := by omega
          have e5 := w64 (n := 64 - t2) (by omega)
          simp -implicitDefEqProofs [c3]
          refine super_may_ok x ?_
          simp -implicitDefEqProofs [c4, f1, f4, c3, ht, h4]
          refine craft_IsHash_ok hR hB _ (by simp; omega) y rfl ?_
          rw [hc]
          cases c5 : cIs ts (supT x) y with
          | false =>
            rw [if_pos (.inr (.inr (.inl c5)))] at hr; subst hr
            simp -implicitDefEqProofs
          | true =>
            obtain ⟨n, hn⟩ : ∃ n : Nat, (64 - t2).toNat = n := ⟨_, rfl⟩
            have hn2 : 64 - t2.toNat = n := by omega
            rw [hn2] at hr
            have f5 : 64 - t2 ≤ 140737488355328 := by omega
            simp -implicitDefEqProofs [c3, f2, f3, e5, mkslP, f5, hn]
            refine z_readn (by rfl) (zCells_eq n).symm ?_
            by_cases c6 : s.drop t2.toNat = List.replicate n 0
            · rw [if_neg (by rintro (h | h | h | h); exact h c3; rw [c4] at h; simp at h; rw [c5] at h; simp at h; exact h c6)] at hr; subst hr
              simp -implicitDefEqProofs [c6]
            · rw [if_pos (.inr (.inr (.inr c6)))] at hr; subst hr
              have c6' : (s.drop t2.toNat != List.replicate n 0) = true := by simpa using c6
              simp -implicitDefEqProofs [c6']
        · have c4' : bootMay x = false := by simpa using c4
          rw [if_pos (.inr (.inl c4'))] at hr; subst hr
          simp -implicitDefEqProofs [c3]
          refine super_may_ok x ?_
          simp -implicitDefEqProofs [c4']
      · rw [if_pos (.inl c3)] at hr; subst hr
        have c3' : ((s.length : Int) != 64) = true := by simp; omega
        simp -implicitDefEqProofs [c3']
    · rw [if_pos c2] at hr; subst hr
      rw [if_neg c2]
      intro a e
      simp -implicitDefEqProofs
      refine joinP_go ?_
      simp -implicitDefEqProofs
  · rw [if_pos c1] at hr; subst hr
    rw [if_neg c1]
    intro a e
    simp -implicitDefEqProofs
    refine fReader_bad hR s 0 _ _ ?_
    simp -implicitDefEqProofs
    refine joinP_go ?_
    simp -implicitDefEqProofs
end
end Go.AI
