/- A book's other methods; the document's book. -/
import Derived.Test.YtnhclbecbagmfaaSpBook
set_option linter.all false
namespace Go.AI
variable {A : Type} {R : Adts A}
theorem set_same {h : AHeap A} {b : Nat} {o : AObj A} (hb : h[b]? = some o) : h.set b o = h := by
  obtain ⟨hlt, he⟩ := List.getElem?_eq_some_iff.1 hb
  rw [← he]; exact List.set_getElem_self hlt
section book
variable {mk : Int → List Bs → A}
/-- A call that looks into a book alone. -/
theorem book_look (hR : R.Ok) (hB : HasBook R mk) {m : Int} {ts : List Bs} {f : FuncId} {us : List AVal} (hus : us.all (AVal.ix 0) = true) {v : AVal} (hv : v.ix 0 = true)
    (t0 : ts = [] → Tri Pr R f (.ptr 0 0 :: us) [.cells t_book_Book [.int .i64 m, .nils, .map 1], .map [] 0] fun u g => u = v ∧ g = [.cells t_book_Book [.int .i64 m, .nils, .map 1], .map [] 0])
    (t1 : ts ≠ [] → Tri Pr R f (.ptr 0 0 :: us) [.cells t_book_Book [.int .i64 m, .sl 2 0 ts.length ts.length false, .map 1], .map (bEnts ts 0) ts.length, .cells t_string (ts.map .str)] fun u g => u = v ∧ g = [.cells t_book_Book [.int .i64 m, .sl 2 0 ts.length ts.length false, .map 1], .map (bEnts ts 0) ts.length, .cells t_string (ts.map .str)])
    {h : AHeap A} {b : Nat} (hb : h[b]? = some (.adt (mk m ts))) {K : AVal → AHeap A → Prop} (hk : K v h) : Tri Pr R f (.ptr b 0 :: us) h K := by
  have hus' : ixs 0 us = true := by rw [ixs_all]; exact hus
  refine Tri.own hR (as2 := .ptr 0 0 :: us) (Q := fun u o => u = v ∧ o = .adt (mk m ts)) ?_ (book_ix hB _ _ _) ?_ (book_ren hB _ _) ?_ hb ?_ ?_
  · simp [ixs, AVal.ix, ixs_mono (Nat.zero_le 1) us hus']
  · rintro _ _ ⟨rfl, rfl⟩; exact ⟨hv, book_ren hB _ _⟩
  · refine Tri.post (Tri.pre (Gives.opened 0 rfl (by simp) fun g hg => ?_))
    obtain rfl := (hB.lay _ _ _).1 hg
    refine Gives.done (by simp) ?_
    by_cases h0 : ts = []
    · subst h0
      simp [bookG, GC.at]
      refine (t0 rfl).mono ?_
      rintro _ _ ⟨rfl, rfl⟩
      exact book_shut0 hR hB 1 rfl rfl (by omega) hv ⟨_, rfl, _, ⟨rfl, rfl⟩, rfl⟩
    · simp [bookG, GC.at, h0]
      refine (t1 h0).mono ?_
      rintro _ _ ⟨rfl, rfl⟩
      exact book_shut hR hB h0 1 2 _ rfl rfl rfl rfl (by omega) hv ⟨_, rfl, _, ⟨rfl, rfl⟩, rfl⟩
  · simp only [rens, AVal.ren]
    rw [rens_ix0 _ _ hus']; simp
  · rintro _ _ ⟨rfl, rfl⟩; rw [set_same hb]; exact hk
theorem book_Find_ok (hR : R.Ok) (hB : HasBook R mk) {m : Int} {ts : List Bs} (s : Bs) {h : AHeap A} {b : Nat} (hb : h[b]? = some (.adt (mk m ts))) {K : AVal → AHeap A → Prop}
    (hk : K (.tup [.int .i64 ((bFind ts s).getD 0 : Nat), .bool (bFind ts s).isSome]) h) : Tri Pr R n_book_Book_Find [.ptr b 0, .str s] h K := by
  refine book_look hR hB rfl rfl (fun h0 => ?_) (fun h0 => ?_) hb hk
  · subst h0
    apply c_book_Book_Find
    unfold p_book_Book_Find
    simp [lkP, keyOk, mapAt, findK, bFind]
  · apply c_book_Book_Find
    unfold p_book_Book_Find
    cases hf : bFind ts s with
    | none => simp [lkP, keyOk, mapAt, findK_bEnts, hf]
    | some i => simp [lkP, keyOk, mapAt, findK_bEnts, hf]
theorem book_Len_ok (hR : R.Ok) (hB : HasBook R mk) {m : Int} {ts : List Bs} {h : AHeap A} {b : Nat} (hb : h[b]? = some (.adt (mk m ts))) {K : AVal → AHeap A → Prop}
    (hk : K (.int .i64 ts.length) h) : Tri Pr R n_book_Book_Len [.ptr b 0] h K := by
  refine book_look hR hB rfl rfl (fun h0 => ?_) (fun h0 => ?_) hb hk
  · subst h0
    apply c_book_Book_Len
    unfold p_book_Book_Len
    simp
  · apply c_book_Book_Len
    unfold p_book_Book_Len
    simp
/-- The term of a name. -/
def bTerm (ts : List Bs) (x : Int) : Bs × Int := if 0 ≤ x ∧ x < ts.length then (ts.getD x.toNat [], 0) else ([], 202)
theorem book_Term_ok (hR : R.Ok) (hB : HasBook R mk) {m : Int} {ts : List Bs} (x : Int) {h : AHeap A} {b : Nat} (hb : h[b]? = some (.adt (mk m ts))) {K : AVal → AHeap A → Prop}
    (hk : K (.tup [.str (bTerm ts x).1, .int .i64 (bTerm ts x).2]) h) : Tri Pr R n_book_Book_Term [.ptr b 0, .int .i64 x] h K := by
  refine book_look hR hB rfl rfl (fun h0 => ?_) (fun h0 => ?_) hb hk
  · subst h0
    apply c_book_Book_Term
    unfold p_book_Book_Term
    simp [bTerm]
    refine iteP_of (fun h1 => iteP_of (fun h2 => ?_) (fun h2 => ?_)) (fun h1 => ?_)
    · simp at h1 h2; simp [show ¬ (0 ≤ x ∧ x < 0) by omega]
    · simp at h1 h2; omega
    · simp at h1; simp [show ¬ (0 ≤ x ∧ x < 0) by omega]
  · apply c_book_Book_Term
    unfold p_book_Book_Term
    by_cases hx : 0 ≤ x ∧ x < ts.length
    · have h1 : ¬ x < 0 := by omega
      have h2 : ¬ (ts.length : Int) ≤ x := by omega
      have h3 : x.toNat < ts.length := by omega
      simp [bTerm, hx, h1, h2, h3]
    · simp [bTerm, hx]
      refine iteP_of (fun h1 => iteP_of (fun h2 => ?_) (fun h2 => ?_)) (fun h1 => ?_)
      · simp
      · simp at h1 h2; omega
      · simp
end book
end Go.AI
