/- The document's book. -/
import Derived.Test.YtnhclbecbagmfaaSpBook2
set_option linter.all false
namespace Go.AI
variable {A : Type} {R : Adts A}
section rbook
variable {mk : Int → List Bs → A}
theorem rbook_ix (hB : HasRBook R mk) (m : Int) (ts : List Bs) (n : Nat) : (AObj.adt (mk m ts)).ix R n := by
  intro g hg
  obtain rfl := (hB.lay _ _ _).1 hg
  unfold rbookG
  have h1 : ixs n (ts.map .str) = true := by simp [ixs_all, AVal.ix]
  split
  · simp [AVal.ix]
  · simp [AVal.ix, h1]
theorem rbook_ren (hB : HasRBook R mk) (m : Int) (ts : List Bs) (τ : Nat → Nat) : (AObj.adt (mk m ts)).ren R τ = .adt (mk m ts) := by simp [AObj.ren, hB.ren]
theorem rbook_shut0 (hR : R.Ok) (hB : HasRBook R mk) {m : Int} {h : AHeap A} {v : AVal} {K : List AVal → AHeap A → Prop} (h0 : h[0]? = some (.cells t_bastionref1_Book [.int .i64 m, .nils]))
    (hv : v.ix 0 = true) (hk : K [v] [.adt (mk m [])]) : Gives Pr R 1 h [v] K := by
  have hl := (List.getElem?_eq_some_iff.1 h0).1
  refine Gives.shut 0 [] (mk m []) (rbookG m []) ((hB.lay _ _ _).2 rfl) (by simpa [rbookG, GC.on] using h0) rfl (fun i s hs => by simp [rbookG] at hs) (by simp) (by simp [rbookG]) (by simp [rbookG]) ?_
  have e := take1_set (kills h []) (.adt (mk m [])) (by rw [kills_length]; exact hl)
  refine Gives.cut hR (m := 1) (by omega) (by simp [kills_length]; omega) (by simp [ixs, ix_mono (Nat.zero_le 1) v hv]) (by rw [e]; simp; exact ⟨rbook_ix hB _ _ _, fun τ _ => rbook_ren hB _ _ _⟩) (by rw [e]; exact hk)
theorem rbook_shut (hR : R.Ok) (hB : HasRBook R mk) {m : Int} {ts : List Bs} (hne : ts ≠ []) {h : AHeap A} {v : AVal} {K : List AVal → AHeap A → Prop} (j1 n : Nat) (hn : n = ts.length) (h0 : h[0]? = some (.cells t_bastionref1_Book [.int .i64 m, .sl j1 0 n n false]))
    (hs : h[j1]? = some (.cells t_string (ts.map .str))) (hd : 0 ≠ j1) (hv : v.ix 0 = true) (hk : K [v] [.adt (mk m ts)]) : Gives Pr R 1 h [v] K := by
  subst hn
  have hl := (List.getElem?_eq_some_iff.1 h0).1
  refine Gives.shut 0 [j1] (mk m ts) (rbookG m ts) ((hB.lay _ _ _).2 rfl) (by simpa [rbookG, GC.on, hne] using h0) (by simp [rbookG, hne]) (fun i s hs' => ?_) (by simp [hd]) (by simp [rbookG, hne]; omega) (by simp [rbookG, hne]) ?_
  · match i, hs' with
    | 0, hs' => simp [rbookG, hne] at hs'; subst hs'; exact ⟨hs, rfl⟩
    | i + 1, hs' => simp [rbookG, hne] at hs'
  · have e := take1_set (kills h [j1]) (.adt (mk m ts)) (by rw [kills_length]; exact hl)
    refine Gives.cut hR (m := 1) (by omega) (by simp [kills_length]; omega) (by simp [ixs, ix_mono (Nat.zero_le 1) v hv]) (by rw [e]; simp; exact ⟨rbook_ix hB _ _ _, fun τ _ => rbook_ren hB _ _ _⟩) (by rw [e]; exact hk)
/-- A new book. -/
theorem rbook_New_ok (hR : R.Ok) (hB : HasRBook R mk) (m : Int) {h : AHeap A} {K : AVal → AHeap A → Prop}
    (hk : if 1 ≤ m ∧ m ≤ 65536 then K (.tup [.ptr h.length 0, .int .i64 0]) (h ++ [.adt (mk m [])]) else K (.tup [.nilp, .int .i64 200]) h) : Tri Pr R n_ref1_NewBook [.int .i64 m] h K := by
  by_cases hm : 1 ≤ m ∧ m ≤ 65536
  · rw [if_pos hm] at hk
    refine Tri.make hR rfl (v0 := .tup [.ptr 0 0, .int .i64 0]) (h0 := [.adt (mk m [])]) (Tri.post ?_) (by simpa [AVal.ren, rens, rbook_ren hB] using hk)
    apply c_ref1_NewBook
    unfold p_ref1_NewBook
    have h1 : ¬ m < 1 := by omega
    have h2 : ¬ 65536 < m := by omega
    simp [h1, h2]
    refine Gives.shut 0 [] (mk m []) (rbookG m []) ((hB.lay _ _ _).2 rfl) rfl rfl (fun i s hs => by simp [rbookG] at hs) (by simp) (by simp [rbookG]) (by simp [rbookG]) ?_
    exact Gives.done (by simp) ⟨_, rfl, rfl, rfl⟩
  · rw [if_neg hm] at hk
    refine Tri.fn1 hR _ rfl rfl ?_ hk
    apply c_ref1_NewBook
    unfold p_ref1_NewBook
    simp
    refine iteP_of (fun h1 => iteP_of (fun h2 => Ans.rfl' _) (fun h2 => ?_)) (fun h1 => Ans.rfl' _)
    simp at h1 h2; omega
/-- A call over a book's two objects. -/
theorem rbook_call (hR : R.Ok) (hB : HasRBook R mk) {m : Int} {ts ts' : List Bs} {f : FuncId} {us : List AVal} (hus : us.all (AVal.ix 0) = true) {v : AVal} (hv : v.ix 0 = true)
    (t0 : ts = [] → Tri Pr R f (.ptr 0 0 :: us) [.cells t_bastionref1_Book [.int .i64 m, .nils]] fun u g => Gives Pr R 1 g [u] fun vs g => vs = [v] ∧ g = [.adt (mk m ts')])
    (t1 : ts ≠ [] → Tri Pr R f (.ptr 0 0 :: us) [.cells t_bastionref1_Book [.int .i64 m, .sl 1 0 ts.length ts.length false], .cells t_string (ts.map .str)] fun u g => Gives Pr R 1 g [u] fun vs g => vs = [v] ∧ g = [.adt (mk m ts')])
    {h : AHeap A} {b : Nat} (hb : h[b]? = some (.adt (mk m ts))) {K : AVal → AHeap A → Prop} (hk : K v (h.set b (.adt (mk m ts')))) : Tri Pr R f (.ptr b 0 :: us) h K := by
  have hus' : ixs 0 us = true := by rw [ixs_all]; exact hus
  refine Tri.own hR (as2 := .ptr 0 0 :: us) (Q := fun u o => u = v ∧ o = .adt (mk m ts')) ?_ (rbook_ix hB _ _ _) ?_ (rbook_ren hB _ _) ?_ hb ?_ ?_
  · simp [ixs, AVal.ix, ixs_mono (Nat.zero_le 1) us hus']
  · rintro _ _ ⟨rfl, rfl⟩; exact ⟨hv, rbook_ren hB _ _⟩
  · refine Tri.post (Tri.pre (Gives.opened 0 rfl (by simp) fun g hg => ?_))
    obtain rfl := (hB.lay _ _ _).1 hg
    refine Gives.done (by simp) ?_
    have fin : ∀ u g, Gives Pr R 1 g [u] (fun vs g => vs = [v] ∧ g = [.adt (mk m ts')]) → Gives Pr R 1 g [u] fun vs h2 => ∃ v_1, vs = [v_1] ∧ ∃ o', (v_1 = v ∧ o' = .adt (mk m ts')) ∧ h2 = [o'] := fun u g hg => hg.mono fun vs h _ ⟨h1, h2⟩ => ⟨v, h1, _, ⟨rfl, rfl⟩, h2⟩
    by_cases h0 : ts = []
    · subst h0
      simp [rbookG, GC.at]
      exact (t0 rfl).mono fun u g hg => by simpa using fin u g hg
    · simp [rbookG, GC.at, h0]
      exact (t1 h0).mono fun u g hg => by simpa using fin u g hg
  · simp only [rens, AVal.ren]
    rw [rens_ix0 _ _ hus']; simp
  · rintro _ _ ⟨rfl, rfl⟩; exact hk
theorem rbook_same (hR : R.Ok) (hB : HasRBook R mk) {m : Int} {ts : List Bs} {f : FuncId} {us : List AVal} (hus : us.all (AVal.ix 0) = true) {v : AVal} (hv : v.ix 0 = true)
    (t0 : ts = [] → Tri Pr R f (.ptr 0 0 :: us) [.cells t_bastionref1_Book [.int .i64 m, .nils]] fun u g => u = v ∧ g = [.cells t_bastionref1_Book [.int .i64 m, .nils]])
    (t1 : ts ≠ [] → Tri Pr R f (.ptr 0 0 :: us) [.cells t_bastionref1_Book [.int .i64 m, .sl 1 0 ts.length ts.length false], .cells t_string (ts.map .str)] fun u g => u = v ∧ g = [.cells t_bastionref1_Book [.int .i64 m, .sl 1 0 ts.length ts.length false], .cells t_string (ts.map .str)])
    {h : AHeap A} {b : Nat} (hb : h[b]? = some (.adt (mk m ts))) {K : AVal → AHeap A → Prop} (hk : K v h) : Tri Pr R f (.ptr b 0 :: us) h K := by
  refine rbook_call hR hB (ts' := ts) hus hv (fun h0 => (t0 h0).mono ?_) (fun h0 => (t1 h0).mono ?_) hb (by rw [set_same hb]; exact hk)
  · subst h0
    rintro _ _ ⟨rfl, rfl⟩
    exact rbook_shut0 hR hB rfl hv ⟨rfl, rfl⟩
  · rintro _ _ ⟨rfl, rfl⟩
    exact rbook_shut hR hB h0 1 _ rfl rfl rfl (by omega) hv ⟨rfl, rfl⟩
theorem bFind_take (ts : List Bs) (s : Bs) (i : Nat) (h : ∀ j : Nat, j < i → ts[j]? ≠ some s) (hi : ts[i]? = some s) : bFind ts s = some i := by
  obtain ⟨hlt, he⟩ := List.getElem?_eq_some_iff.1 hi
  simp only [bFind, List.idxOf?]
  rw [List.findIdx?_eq_some_iff_getElem]
  refine ⟨hlt, by simp [he], fun j hj => ?_⟩
  have := h j hj
  rw [List.getElem?_eq_getElem (by omega)] at this
  simpa using this
theorem bFind_none (ts : List Bs) (s : Bs) (h : ∀ j : Nat, ts[j]? ≠ some s) : bFind ts s = none := by
  simp only [bFind, List.idxOf?, List.findIdx?_eq_none_iff]
  intro x hx
  obtain ⟨j, hj⟩ := List.mem_iff_getElem?.1 hx
  simp only [beq_eq_false_iff_ne]
  rintro rfl; exact h j hj
theorem rbook_Find_ok (hR : R.Ok) (hB : HasRBook R mk) {m : Int} {ts : List Bs} (hok : bOk m ts) (s : Bs) {h : AHeap A} {b : Nat} (hb : h[b]? = some (.adt (mk m ts))) {K : AVal → AHeap A → Prop}
    (hk : K (.tup [.int .i64 ((bFind ts s).getD 0 : Nat), .bool (bFind ts s).isSome]) h) : Tri Pr R n_ref1_Book_Find [.ptr b 0, .str s] h K := by
  have hlen := hok.len
  have hmost := hok.most
  refine rbook_same hR hB rfl rfl (fun h0 => ?_) (fun h0 => ?_) hb hk
  · subst h0
    apply c_ref1_Book_Find
    unfold p_ref1_Book_Find
    refine loopP_unr 1 ?_
    simp [unr, bFind]
  · apply c_ref1_Book_Find
    unfold p_ref1_Book_Find
    refine loopP_go (fun k y g => ∃ i : Nat, y = [.int .i64 i] ∧ g = [.cells t_bastionref1_Book [.int .i64 m, .sl 1 0 ts.length ts.length false], .cells t_string (ts.map .str)] ∧ i ≤ ts.length ∧ k = ts.length - i ∧ ∀ j : Nat, j < i → ts[j]? ≠ some s) ts.length
      (Gives.done (by simp) ⟨0, rfl, rfl, by omega, by omega, by omega⟩) ?_
    rintro k y g ⟨i, rfl, rfl, hi, rfl, hp⟩
    simp
    refine iteP_of (fun h1 => ?_) (fun h1 => ?_)
    · simp at h1
      have e1 := w64 (n := (i : Int) + 1) (by omega)
      simp [h1, e1]
      refine iteP_of (fun h2 => ?_) (fun h2 => ?_)
      · simp at h2
        rw [bFind_take ts s i hp (by rw [List.getElem?_eq_getElem h1, h2])]
        simp
      · simp at h2
        refine Gives.done (by simp) ⟨ts.length - (i + 1), by omega, i + 1, by simp, rfl, by omega, rfl, fun j hj => ?_⟩
        by_cases hji : j = i
        · subst hji; rw [List.getElem?_eq_getElem h1]; simpa using h2
        · exact hp j (by omega)
    · simp at h1
      rw [bFind_none ts s fun j => ?_]
      · simp
      · by_cases hj : j < i
        · exact hp j hj
        · rw [List.getElem?_eq_none (by omega)]; simp
theorem rbook_Term_ok (hR : R.Ok) (hB : HasRBook R mk) {m : Int} {ts : List Bs} (x : Int) {h : AHeap A} {b : Nat} (hb : h[b]? = some (.adt (mk m ts))) {K : AVal → AHeap A → Prop}
    (hk : K (.tup [.str (bTerm ts x).1, .int .i64 (bTerm ts x).2]) h) : Tri Pr R n_ref1_Book_Term [.ptr b 0, .int .i64 x] h K := by
  refine rbook_same hR hB rfl rfl (fun h0 => ?_) (fun h0 => ?_) hb hk
  · subst h0
    apply c_ref1_Book_Term
    unfold p_ref1_Book_Term
    simp [bTerm]
    refine iteP_of (fun h1 => iteP_of (fun h2 => ?_) (fun h2 => ?_)) (fun h1 => ?_)
    · simp at h1 h2; simp [show ¬ (0 ≤ x ∧ x < 0) by omega]
    · simp at h1 h2; omega
    · simp at h1; simp [show ¬ (0 ≤ x ∧ x < 0) by omega]
  · apply c_ref1_Book_Term
    unfold p_ref1_Book_Term
    by_cases hx : 0 ≤ x ∧ x < ts.length
    · have h1 : ¬ x < 0 := by omega
      have h2 : ¬ (ts.length : Int) ≤ x := by omega
      have h3 : x.toNat < ts.length := by omega
      simp [bTerm, hx, h1, h2, h3]
    · simp [bTerm, hx]
      refine iteP_of (fun h1 => iteP_of (fun h2 => ?_) (fun h2 => ?_)) (fun h1 => ?_)
      · simp
      · simp at h1 h2; omega
      · simp
end rbook
end Go.AI
