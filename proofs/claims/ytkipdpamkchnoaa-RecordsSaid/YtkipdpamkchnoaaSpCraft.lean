/- Crafts. -/
import Derived.Test.YtkipdpamkchnoaaSpCraft0
set_option linter.all false
namespace Go.AI
variable {A : Type} {R : Adts A}
theorem rbook_own (hR : R.Ok) {mk : Int → List Bs → A} (hB : HasRBook R mk) {m : Int} {ts ts' : List Bs} {f : FuncId} {us : List AVal} (hus : us.all (AVal.ix 0) = true) {v : AVal} (hv : v.ix 0 = true)
    (t : Tri Pr R f (.ptr 0 0 :: us) [.adt (mk m ts)] fun u g => u = v ∧ ∃ r, g = .adt (mk m ts') :: r)
    {h : AHeap A} {b : Nat} (hb : h[b]? = some (.adt (mk m ts))) {K : AVal → AHeap A → Prop} (hk : K v (h.set b (.adt (mk m ts')))) : Tri Pr R f (.ptr b 0 :: us) h K := by
  have hus' : ixs 0 us = true := by rw [ixs_all]; exact hus
  refine Tri.own hR (as2 := .ptr 0 0 :: us) (Q := fun u o => u = v ∧ o = .adt (mk m ts')) ?_ (rbook_ix hB _ _ _) ?_ (rbook_ren hB _ _) ?_ hb ?_ ?_
  · simp [ixs, AVal.ix, ixs_mono (Nat.zero_le 1) us hus']
  · rintro _ _ ⟨rfl, rfl⟩; exact ⟨hv, rbook_ren hB _ _⟩
  · refine Tri.post (t.mono ?_)
    rintro _ _ ⟨rfl, r, rfl⟩
    exact Gives.cut hR (m := 1) (by simp) (by simp) (by simp [ixs, ix_mono (Nat.zero_le 1) _ hv]) (by simp; exact ⟨rbook_ix hB _ _ _, fun τ _ => rbook_ren hB _ _ _⟩) ⟨_, rfl, _, ⟨rfl, rfl⟩, rfl⟩
  · simp only [rens, AVal.ren]
    rw [rens_ix0 _ _ hus']; simp
  · rintro _ _ ⟨rfl, rfl⟩; exact hk
section craft
variable {mk : Int → List Bs → A}
theorem craft_Hash_ok (hR : R.Ok) (hB : HasBook R mk) {m : Int} {ts : List Bs} (hok : bOk m ts) (s : Bs) (hs : s.length < 9000000000000000000) {h : AHeap A} {b : Nat} (hb : h[b]? = some (.adt (mk m ts))) {K : AVal → AHeap A → Prop}
    (hk : K (.tup [.int .i64 (cMade m ts (72 :: s)).2.1, .int .i64 (cMade m ts (72 :: s)).2.2]) (h.set b (.adt (mk m (cMade m ts (72 :: s)).1)))) : Tri Pr R n_craft_Hash [.ptr b 0, .str s] h K := by
  apply c_craft_Hash
  unfold p_craft_Hash
  have h1 : 1 + s.length < 9223372036854775808 := by omega
  simp -implicitDefEqProofs [h1]
  refine craft_named_ok hR hB hok _ hb ?_
  simpa using hk
theorem craft_is_ok (hR : R.Ok) (hB : HasBook R mk) {m : Int} {ts : List Bs} (s : Bs) (tag : Int) {h : AHeap A} {b : Nat} (hb : h[b]? = some (.adt (mk m ts))) {K : AVal → AHeap A → Prop}
    (hk : K (.bool (cIs ts s tag)) h) : Tri Pr R n_craft_is [.ptr b 0, .str s, .int .i64 tag] h K := by
  apply c_craft_is
  unfold p_craft_is
  refine book_Find_ok hR hB s hb ?_
  cases hf : bFind ts s with
  | none => simp [cIs, hf] at hk; simpa using hk
  | some i => simp [cIs, hf] at hk; simpa using hk
theorem craft_IsHash_ok (hR : R.Ok) (hB : HasBook R mk) {m : Int} {ts : List Bs} (s : Bs) (hs : s.length < 9000000000000000000) (tag : Int) {h : AHeap A} {b : Nat} (hb : h[b]? = some (.adt (mk m ts))) {K : AVal → AHeap A → Prop}
    (hk : K (.bool (cIs ts (72 :: s) tag)) h) : Tri Pr R n_craft_IsHash [.ptr b 0, .str s, .int .i64 tag] h K := by
  apply c_craft_IsHash
  unfold p_craft_IsHash
  have h1 : 1 + s.length < 9223372036854775808 := by omega
  simp -implicitDefEqProofs [h1]
  exact craft_is_ok hR hB _ _ hb hk
theorem craft_named_nil (hR : R.Ok) (s : Bs) (c : Bool) {h : AHeap A} {K : AVal → AHeap A → Prop} (hk : K (.tup [.int .i64 0, .int .i64 1]) h) : Tri Pr R n_craft_named [.nilp, .str s, .bool c] h K := by
  apply c_craft_named
  unfold p_craft_named
  simpa using hk
theorem craft_is_nil (hR : R.Ok) (s : Bs) (tag : Int) {h : AHeap A} {K : AVal → AHeap A → Prop} (hk : K (.bool false) h) : Tri Pr R n_craft_is [.nilp, .str s, .int .i64 tag] h K := by
  apply c_craft_is
  unfold p_craft_is
  apply c_book_Book_Find
  unfold p_book_Book_Find
  simpa using hk
theorem craft_IsHash_nil (hR : R.Ok) (s : Bs) (hs : s.length < 9000000000000000000) (tag : Int) {h : AHeap A} {K : AVal → AHeap A → Prop} (hk : K (.bool false) h) : Tri Pr R n_craft_IsHash [.nilp, .str s, .int .i64 tag] h K := by
  apply c_craft_IsHash
  unfold p_craft_IsHash
  have h1 : 1 + s.length < 9223372036854775808 := by omega
  simp -implicitDefEqProofs [h1]
  exact craft_is_nil hR _ _ hk
end craft
section ref
variable {mk : Int → List Bs → A}
theorem ref1_Hash_ok (hR : R.Ok) (hB : HasRBook R mk) {m : Int} {ts : List Bs} (hok : bOk m ts) (s : Bs) (hs : s.length < 9000000000000000000) {h : AHeap A} {b : Nat} (hb : h[b]? = some (.adt (mk m ts))) {K : AVal → AHeap A → Prop}
    (hk : K (.tup [.int .i64 (cMade m ts (72 :: s)).2.1, .int .i64 (cMade m ts (72 :: s)).2.2]) (h.set b (.adt (mk m (cMade m ts (72 :: s)).1)))) : Tri Pr R n_ref1_Hash [.ptr b 0, .str s] h K := by
  apply c_ref1_Hash
  unfold p_ref1_Hash
  have h1 : 1 + s.length < 9223372036854775808 := by omega
  simp -implicitDefEqProofs [h1]
  refine ref1_made_ok hR hB hok _ hb ?_
  simpa using hk
theorem nAll_one (key : Int) : nAll [key] = nS key := by simp [nAll]
theorem ref1_IsHash_ok (hR : R.Ok) (hB : HasRBook R mk) {m : Int} {ts : List Bs} (hok : bOk m ts) (s : Bs) (hs : s.length < 9000000000000000000) (tag : Int) {h : AHeap A} {b : Nat} (hb : h[b]? = some (.adt (mk m ts))) {K : AVal → AHeap A → Prop}
    (hk : K (.bool (cIs ts (72 :: s) tag)) h) : Tri Pr R n_ref1_IsHash [.ptr b 0, .str s, .int .i64 tag] h K := by
  apply c_ref1_IsHash
  unfold p_ref1_IsHash
  have h1 : 1 + s.length < 9223372036854775808 := by omega
  simp -implicitDefEqProofs [h1]
  refine rbook_Find_ok hR hB hok _ hb ?_
  cases hf : bFind ts (72 :: s) with
  | none => simp [cIs, hf] at hk; simpa using hk
  | some i => simp [cIs, hf] at hk; simpa using hk
end ref
end Go.AI
