/- Crafts. -/
import Derived.Test.YtnhclbecbagmfaaSpCraft0
set_option linter.all false
namespace Go.AI
variable {A : Type} {R : Adts A}
theorem rbook_own (hR : R.Ok) {mk : Int → List Bs → A} (hB : HasRBook R mk) {m : Int} {ts ts' : List Bs} {f : FuncId} {us : List AVal} (hus : us.all (AVal.ix 0) = true) {v : AVal} (hv : v.ix 0 = true)
    (t : Tri Pr R f (.ptr 0 0 :: us) [.adt (mk m ts)] fun u g => u = v ∧ ∃ r, g = .adt (mk m ts') :: r)
    {h : AHeap A} {b : Nat} (hb : h[b]? = some (.adt (mk m ts))) {K : AVal → AHeap A → Prop} (hk : K v (h.set b (.adt (mk m ts')))) : Tri Pr R f (.ptr b 0 :: us) h K := by
  have hus' : ixs 0 us = true := by rw [ixs_all]; exact hus
  refine Tri.own hR (as2 := .ptr 0 0 :: us) (Q := fun u o => u = v ∧ o = .adt (mk m ts')) ?_ (rbook_ix hB _ _ _) ?_ (rbook_ren hB _ _) ?_ hb ?_ ?_
  · simp [ixs, AVal.ix, ixs_mono (Nat.zero_le 1) us hus']
  · rintro _ _ ⟨rfl, rfl⟩; exact ⟨hv, rbook_ren hB _ _⟩
  · refine Tri.post (t.mono ?_)
    rintro _ _ ⟨rfl, r, rfl⟩
    exact Gives.cut hR (m := 1) (by simp) (by simp) (by simp [ixs, ix_mono (Nat.zero_le 1) _ hv]) (by simp; exact ⟨rbook_ix hB _ _ _, fun τ _ => rbook_ren hB _ _ _⟩) ⟨_, rfl, _, ⟨rfl, rfl⟩, rfl⟩
  · simp only [rens, AVal.ren]
    rw [rens_ix0 _ _ hus']; simp
  · rintro _ _ ⟨rfl, rfl⟩; exact hk
section craft
variable {mk : Int → List Bs → A}
theorem craft_keyed_ok (hR : R.Ok) (k : UInt8) (key : Int) {h : AHeap A} {K : AVal → AHeap A → Prop} (hk : K (.tup [.str (k :: nS key), .bool (nMay key)]) h) : Tri Pr R n_craft_keyed [.str [k], .int .i64 key] h K := by
  apply c_craft_keyed
  unfold p_craft_keyed
  refine field_Num_any hR key ?_
  have h1 : 1 + (nS key).length < 9223372036854775808 := by have := nS_len key; omega
  simp -implicitDefEqProofs [h1]
  cases hx : nMay key with
  | true => rw [hx] at hk; simpa using hk
  | false => rw [hx] at hk; simpa using hk
theorem craft_Seal_ok (hR : R.Ok) (hB : HasBook R mk) {m : Int} {ts : List Bs} (hok : bOk m ts) (key : Int) (s : Bs) (hs : s.length < 9000000000000000000) {h : AHeap A} {b : Nat} (hb : h[b]? = some (.adt (mk m ts))) {K : AVal → AHeap A → Prop}
    (hk : K (.tup [.int .i64 (cKey m ts 83 key s).2.1, .int .i64 (cKey m ts 83 key s).2.2]) (h.set b (.adt (mk m (cKey m ts 83 key s).1)))) : Tri Pr R n_craft_Seal [.ptr b 0, .int .i64 key, .str s] h K := by
  apply c_craft_Seal
  unfold p_craft_Seal
  refine craft_keyed_ok hR 83 key ?_
  have h1 : (nS key).length + 1 + s.length < 9223372036854775808 := by have := nS_len key; omega
  simp -implicitDefEqProofs [h1]
  cases hx : nMay key with
  | true =>
    simp only [cKey, hx, if_true] at hk
    refine craft_named_ok hR hB hok _ hb ?_
    simpa using hk
  | false =>
    simp [cKey, hx, set_same hb] at hk
    apply c_craft_named
    unfold p_craft_named
    simpa using hk
theorem craft_Open_ok (hR : R.Ok) (hB : HasBook R mk) {m : Int} {ts : List Bs} (key tag : Int) {h : AHeap A} {b : Nat} (hb : h[b]? = some (.adt (mk m ts))) {K : AVal → AHeap A → Prop}
    (hk : K (.tup [.str (cOpen ts key tag).1, .int .i64 (cOpen ts key tag).2]) h) : Tri Pr R n_craft_Open [.ptr b 0, .int .i64 key, .int .i64 tag] h K := by
  apply c_craft_Open
  unfold p_craft_Open
  simp -implicitDefEqProofs
  refine craft_keyed_ok hR 83 key ?_
  simp -implicitDefEqProofs
  refine book_Term_ok hR hB tag hb ?_
  simp -implicitDefEqProofs
  obtain ⟨r, hr⟩ : ∃ r, cOpen ts key tag = r := ⟨_, rfl⟩
  rw [hr] at hk
  unfold cOpen at hr
  obtain ⟨t, e, ht⟩ : ∃ t e, bTerm ts tag = (t, e) := ⟨_, _, rfl⟩
  rw [ht] at hr ⊢
  simp only at hr ⊢
  cases hx : nMay key with
  | false =>
    simp [hx] at hr; subst hr
    simpa using hk
  | true =>
    by_cases he : e = 0
    · subst he
      simp -implicitDefEqProofs
      apply c_strings_HasPrefix
      unfold p_strings_HasPrefix
      apply c_internal_stringslite_HasPrefix
      unfold p_internal_stringslite_HasPrefix
      have h0 : (0 : Int) ≤ ((nS key).length : Int) + 1 := by omega
      have h1 : (((nS key).length : Int) + 1).toNat = (nS key).length + 1 := by omega
      by_cases hl : (nS key).length + 1 ≤ t.length
      · have hl' : ((nS key).length : Int) + 1 ≤ t.length := by omega
        by_cases hp : t.take ((nS key).length + 1) = 83 :: nS key
        · simp [hx, hl, hp] at hr; subst hr
          simp -implicitDefEqProofs [hl, hl', hp, h0, h1]
          simpa using hk
        · simp [hx, hl, hp] at hr; subst hr
          have hp' : (t.take ((nS key).length + 1) == 83 :: nS key) = false := by simp [hp]
          simp -implicitDefEqProofs [hl, hl', hp', h0, h1]
          simpa using hk
      · have hl' : ¬ ((nS key).length : Int) + 1 ≤ t.length := by omega
        simp [hx, hl] at hr; subst hr
        simp -implicitDefEqProofs [hl, hl']
        simpa using hk
    · simp [he] at hr; subst hr
      have he' : (e != 0) = true := by simp [he]
      simp -implicitDefEqProofs [he']
      simpa using hk
theorem craft_named_nil (hR : R.Ok) (s : Bs) (c : Bool) {h : AHeap A} {K : AVal → AHeap A → Prop} (hk : K (.tup [.int .i64 0, .int .i64 1]) h) : Tri Pr R n_craft_named [.nilp, .str s, .bool c] h K := by
  apply c_craft_named
  unfold p_craft_named
  simpa using hk
theorem craft_Atom_nil (hR : R.Ok) (s : Bs) (hs : s.length < 9000000000000000000) {h : AHeap A} {K : AVal → AHeap A → Prop} (hk : K (.tup [.int .i64 0, .int .i64 1]) h) : Tri Pr R n_craft_Atom [.nilp, .str s] h K := by
  apply c_craft_Atom
  unfold p_craft_Atom
  have h1 : 1 + s.length < 9223372036854775808 := by omega
  simp -implicitDefEqProofs [h1]
  refine craft_named_nil hR _ _ ?_
  simpa using hk
theorem craft_Seal_nil (hR : R.Ok) (key : Int) (s : Bs) (hs : s.length < 9000000000000000000) {h : AHeap A} {K : AVal → AHeap A → Prop} (hk : K (.tup [.int .i64 0, .int .i64 1]) h) : Tri Pr R n_craft_Seal [.nilp, .int .i64 key, .str s] h K := by
  apply c_craft_Seal
  unfold p_craft_Seal
  refine craft_keyed_ok hR 83 key ?_
  have h1 : (nS key).length + 1 + s.length < 9223372036854775808 := by have := nS_len key; omega
  simp -implicitDefEqProofs [h1]
  refine craft_named_nil hR _ _ ?_
  simpa using hk
theorem craft_Open_nil (hR : R.Ok) (key tag : Int) {h : AHeap A} {K : AVal → AHeap A → Prop} (hk : K (.tup [.str [], .int .i64 1]) h) : Tri Pr R n_craft_Open [.nilp, .int .i64 key, .int .i64 tag] h K := by
  apply c_craft_Open
  unfold p_craft_Open
  simpa using hk
end craft
section ref
variable {mk : Int → List Bs → A}
theorem nAll_one (key : Int) : nAll [key] = nS key := by simp [nAll]
theorem ref1_Seal_ok (hR : R.Ok) (hB : HasRBook R mk) {m : Int} {ts : List Bs} (hok : bOk m ts) (key : Int) (s : Bs) (hs : s.length < 9000000000000000000) {h : AHeap A} {b : Nat} (hb : h[b]? = some (.adt (mk m ts))) {K : AVal → AHeap A → Prop}
    (hk : K (.tup [.int .i64 (cKey m ts 83 key s).2.1, .int .i64 (cKey m ts 83 key s).2.2]) (h.set b (.adt (mk m (cKey m ts 83 key s).1)))) : Tri Pr R n_ref1_Seal [.ptr b 0, .int .i64 key, .str s] h K := by
  refine rbook_own hR hB rfl rfl ?_ hb hk
  apply c_ref1_Seal
  unfold p_ref1_Seal
  refine ref1_num_ok key ?_
  cases hx : nMay key with
  | false => simp -implicitDefEqProofs [cKey, hx]
  | true =>
    simp -implicitDefEqProofs
    refine ref1_Nums_ok hR [key] (by simp) true (t := t_int) (by simp) ?_
    rw [nAll_one]
    have h2 := nS_len key
    have h1 : (nS key).length + 1 + s.length < 9223372036854775808 := by omega
    have h3 : 1 + (nS key).length < 9223372036854775808 := by omega
    simp -implicitDefEqProofs [h1, h3]
    refine ref1_made_ok hR hB hok _ (by simp) ?_
    simp -implicitDefEqProofs [cKey, hx]
theorem ref1_Open_ok (hR : R.Ok) (hB : HasRBook R mk) {m : Int} {ts : List Bs} (key tag : Int) {h : AHeap A} {b : Nat} (hb : h[b]? = some (.adt (mk m ts))) {K : AVal → AHeap A → Prop}
    (hk : K (.tup [.str (cOpen ts key tag).1, .int .i64 (cOpen ts key tag).2]) h) : Tri Pr R n_ref1_Open [.ptr b 0, .int .i64 key, .int .i64 tag] h K := by
  refine rbook_own hR hB (ts' := ts) rfl rfl ?_ hb (by rw [set_same hb]; exact hk)
  apply c_ref1_Open
  unfold p_ref1_Open
  refine rbook_Term_ok hR hB (m := m) (ts := ts) tag rfl ?_
  simp -implicitDefEqProofs
  refine ref1_Nums_ok hR [key] (by simp) true (t := t_int) (by simp) ?_
  rw [nAll_one]
  have h2 := nS_len key
  have h3 : 1 + (nS key).length < 9223372036854775808 := by omega
  simp -implicitDefEqProofs [h3]
  obtain ⟨r, hr⟩ : ∃ r, cOpen ts key tag = r := ⟨_, rfl⟩
  rw [hr]
  unfold cOpen at hr
  obtain ⟨t, e, ht⟩ : ∃ t e, bTerm ts tag = (t, e) := ⟨_, _, rfl⟩
  rw [ht] at hr ⊢
  simp only at hr ⊢
  by_cases he : e = 0
  · subst he
    simp -implicitDefEqProofs
    refine ref1_num_ok key ?_
    cases hx : nMay key with
    | false =>
      simp [hx] at hr; subst hr
      simp -implicitDefEqProofs
    | true =>
      have h0 : (0 : Int) ≤ ((nS key).length : Int) + 1 := by omega
      have h1 : (((nS key).length : Int) + 1).toNat = (nS key).length + 1 := by omega
      by_cases hl : (nS key).length + 1 ≤ t.length
      · have hl' : ((nS key).length : Int) + 1 ≤ t.length := by omega
        have hl2 : ¬ (t.length : Int) < ((nS key).length : Int) + 1 := by omega
        by_cases hp : t.take ((nS key).length + 1) = 83 :: nS key
        · simp [hx, hl, hp] at hr; subst hr
          simp -implicitDefEqProofs [hl, hl', hl2, hp, h0, h1]
        · simp [hx, hl, hp] at hr; subst hr
          have hp' : (t.take ((nS key).length + 1) != 83 :: nS key) = true := by simp [hp]
          simp -implicitDefEqProofs [hl, hl', hl2, hp', h0, h1]
      · have hl2 : (t.length : Int) < ((nS key).length : Int) + 1 := by omega
        simp [hx, hl] at hr; subst hr
        simp -implicitDefEqProofs [hl2]
  · simp [he] at hr; subst hr
    have he' : (e != 0) = true := by simp [he]
    simp -implicitDefEqProofs [he']
end ref
end Go.AI
