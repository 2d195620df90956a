/- Crafts, told by equations; texts that are handed over. -/
import Derived.Test.YtnhclbecbagmfaaSpCraft
import Derived.Test.YtnhclbecbagmfaaSpTie
set_option linter.all false
namespace Go.AI
variable {A : Type} {R : Adts A}
/-- A slice of texts that is handed over. -/
def IsStrs (a : AVal) (l : List Bs) : Prop := (a = .nils ∧ l = []) ∨ ∃ b o cap, a = .lst b o l.length cap (l.map .str)
theorem IsStrs.len {a : AVal} {l : List Bs} (h : IsStrs a l) (K : AVal → Prop) : lenP a K = K (.int .i64 l.length) := by
  rcases h with ⟨rfl, rfl⟩ | ⟨b, o, cap, rfl⟩ <;> simp
theorem IsStrs.ix {a : AVal} {l : List Bs} (h : IsStrs a l) {n : Nat} : a.ix n = true := by
  rcases h with ⟨rfl, rfl⟩ | ⟨b, o, cap, rfl⟩
  · rfl
  · simp [AVal.ix, ixs_all]
theorem IsStrs.get {a : AVal} {l : List Bs} (h : IsStrs a l) {n : Nat} (h1 : n < l.length) : ∃ b o cs, ∀ K, idxP 1 a (.int .i64 n) K = K (.fp b o (.str l[n] :: cs)) := by
  rcases h with ⟨rfl, rfl⟩ | ⟨b, o, cap, rfl⟩
  · simp at h1
  · refine ⟨b, o + n * 1, (l.map .str).drop (n + 1), fun K => ?_⟩
    rw [idxP_l K 1 b o l.length cap _ .i64 n (by omega) (by omega), Nat.mul_one, List.drop_eq_getElem_cons (by simpa using h1)]
    simp
theorem strs_TR {P : Program} {n : Nat} {t e : TypeId} {us : List AVal} (hu : P.underlying t = some (.slice e)) (he : P.underlying e = some .string) (h : TR P (n + 2) t us) :
    ∃ a l, us = [a] ∧ IsStrs a l ∧ ∀ x ∈ l, x.length ≤ reachBytes := by
  rcases TR_slice hu h with rfl | ⟨b, o, len, cap, rows, rfl, h1, h2, h3, h4⟩
  · exact ⟨_, [], rfl, .inl ⟨rfl, rfl⟩, by simp⟩
  · have : ∃ l : List Bs, rows = l.map (fun x => [AVal.str x]) ∧ ∀ x ∈ l, x.length ≤ reachBytes := by
      clear h1 h2 h3 h
      induction rows with
      | nil => exact ⟨[], rfl, by simp⟩
      | cons r rs ih =>
        obtain ⟨l, rfl, hl⟩ := ih fun r hr => h4 r (by simp [hr])
        obtain ⟨_, h5⟩ := h4 r (by simp)
        obtain ⟨x, rfl, hx⟩ := TR_string he h5
        exact ⟨x :: l, rfl, by intro y hy; rcases List.mem_cons.1 hy with rfl | hy; exact hx; exact hl y hy⟩
    obtain ⟨l, rfl, hl⟩ := this
    subst h3
    refine ⟨_, l, rfl, .inr ⟨b, o, cap, ?_⟩, hl⟩
    rw [List.length_map]
    congr 1
    clear hl h4 h1 h
    induction l with
    | nil => rfl
    | cons x l ih => simp [ih]
/-- The terms behind the first names. -/
def bNames (m : Int) (l : List Bs) (i : Nat) : List Bs := (l.take i).foldl (fun ts s => (bName m ts s).1) []
theorem bNames_succ {m : Int} {l : List Bs} {i : Nat} (h : i < l.length) : bNames m l (i + 1) = (bName m (bNames m l i) l[i]).1 := by
  unfold bNames
  rw [← List.take_append_getElem h, List.foldl_append]; rfl
theorem bNames_ok {m : Int} (hm : 1 ≤ m ∧ m ≤ 65536) (l : List Bs) : ∀ i, bOk m (bNames m l i)
  | 0 => bOk_nil hm
  | i + 1 => by
    by_cases h : i < l.length
    · rw [bNames_succ h]; exact bName_ok (bNames_ok hm l i)
    · have : bNames m l (i + 1) = bNames m l i := by unfold bNames; rw [List.take_of_length_le (by omega), List.take_of_length_le (by omega)]
      rw [this]; exact bNames_ok hm l i
def SameI (bk : Int → List Bs → A) (m : Int) (ts : List Bs) (k : Nat) (y : List AVal) (g : AHeap A) : Prop :=
  ∃ i : Nat, y = [.int .i64 i] ∧ g = [.adt (bk m ts), .cells t_bastionref1_Book [.int .i64 m, .sl 2 0 ts.length ts.length false], .cells t_string (ts.map .str)] ∧ i ≤ ts.length ∧ k = ts.length - i
theorem book_low {mk : Int → List Bs → A} (hB : HasBook R mk) (m : Int) (ts : List Bs) {n : Nat} : AObj.low R n (.adt (mk m ts)) := ⟨book_ix hB _ _ _, fun τ _ => book_ren hB _ _ _⟩
theorem rbook_low {mk : Int → List Bs → A} (hB : HasRBook R mk) (m : Int) (ts : List Bs) {n : Nat} : AObj.low R n (.adt (mk m ts)) := ⟨rbook_ix hB _ _ _, fun τ _ => rbook_ren hB _ _ _⟩
theorem rbook_shutA (hR : R.Ok) {mk : Int → List Bs → A} (hB : HasRBook R mk) {m : Int} {o : AObj A} (ho : o.low R 2) {v : AVal} (hv : v.ix 0 = true) {K : List AVal → AHeap A → Prop} (hk : K [v] [o, .adt (mk m [])]) :
    Gives Pr R 2 [o, .cells t_bastionref1_Book [.int .i64 m, .nils]] [v] K := by
  refine Gives.shut 1 [] (mk m []) (rbookG m []) ((hB.lay _ _ _).2 rfl) (by simp [rbookG, GC.on]) rfl (fun i s hs => by simp [rbookG] at hs) (by simp) (by simp [rbookG]) (by simp [rbookG]) ?_
  refine Gives.cut hR (m := 2) (by omega) (by simp [kills_length]) (by simp [ixs, ix_mono (Nat.zero_le 2) v hv]) (by simp [kills]; exact ⟨ho, rbook_low hB _ _⟩) hk
theorem rbook_shutB (hR : R.Ok) {mk : Int → List Bs → A} (hB : HasRBook R mk) {m : Int} {ts : List Bs} (hne : ts ≠ []) {o : AObj A} (ho : o.low R 2) {v : AVal} (hv : v.ix 0 = true) {K : List AVal → AHeap A → Prop} (hk : K [v] [o, .adt (mk m ts)]) :
    Gives Pr R 2 [o, .cells t_bastionref1_Book [.int .i64 m, .sl 2 0 ts.length ts.length false], .cells t_string (ts.map .str)] [v] K := by
  refine Gives.shut 1 [2] (mk m ts) (rbookG m ts) ((hB.lay _ _ _).2 rfl) (by simp [rbookG, GC.on, hne]) (by simp [rbookG, hne]) (fun i s hs' => ?_) (by simp) (by simp [rbookG, hne]; omega) (by simp [rbookG, hne]) ?_
  · match i, hs' with
    | 0, hs' => simp [rbookG, hne] at hs'; subst hs'; exact ⟨rfl, rfl⟩
    | i + 1, hs' => simp [rbookG, hne] at hs'
  refine Gives.cut hR (m := 2) (by omega) (by simp [kills_length]) (by simp [ixs, ix_mono (Nat.zero_le 2) v hv]) (by simp [kills]; exact ⟨ho, rbook_low hB _ _⟩) hk
def TwinI (q : Nat) (bk rbk : Int → List Bs → A) (m : Int) (l : List Bs) (k : Nat) (y : List AVal) (g : AHeap A) : Prop :=
  ∃ i : Nat, y = [.int .i64 i] ∧ g = [.adt (bk m (bNames m l i)), .adt (rbk m (bNames m l i))] ∧ i ≤ l.length ∧ i ≤ q ∧ k = q - i
section
variable {mk : Int → List Bs → A}
theorem Atom_at (hR : R.Ok) (hB : HasBook R mk) {m : Int} {ts r : List Bs} {s : Bs} {n e : Int} (hok : bOk m ts) (hs : s.length < 1000) (he : cMade m ts (65 :: s) = (r, n, e)) {h : AHeap A} {b : Nat} (hb : h[b]? = some (.adt (mk m ts))) {K : AVal → AHeap A → Prop}
    (hk : K (.tup [.int .i64 n, .int .i64 e]) (h.set b (.adt (mk m r)))) : Tri Pr R n_craft_Atom [.ptr b 0, .str s] h K := by
  refine craft_Atom_ok hR hB hok s (by omega) hb ?_
  rw [he]; exact hk
theorem Seal_at (hR : R.Ok) (hB : HasBook R mk) {m : Int} {ts r : List Bs} {key : Int} {s : Bs} {n e : Int} (hok : bOk m ts) (hs : s.length < 1000) (he : cKey m ts 83 key s = (r, n, e)) {h : AHeap A} {b : Nat} (hb : h[b]? = some (.adt (mk m ts))) {K : AVal → AHeap A → Prop}
    (hk : K (.tup [.int .i64 n, .int .i64 e]) (h.set b (.adt (mk m r)))) : Tri Pr R n_craft_Seal [.ptr b 0, .int .i64 key, .str s] h K := by
  refine craft_Seal_ok hR hB hok key s (by omega) hb ?_
  rw [he]; exact hk
theorem Open_at (hR : R.Ok) (hB : HasBook R mk) {m : Int} {ts : List Bs} {key tag : Int} {s : Bs} {e : Int} (he : cOpen ts key tag = (s, e)) {h : AHeap A} {b : Nat} (hb : h[b]? = some (.adt (mk m ts))) {K : AVal → AHeap A → Prop}
    (hk : K (.tup [.str s, .int .i64 e]) h) : Tri Pr R n_craft_Open [.ptr b 0, .int .i64 key, .int .i64 tag] h K := by
  refine craft_Open_ok hR hB key tag hb ?_
  rw [he]; exact hk
theorem Len_at (hR : R.Ok) (hB : HasBook R mk) {m : Int} {ts : List Bs} {n : Int} (he : (ts.length : Int) = n) {h : AHeap A} {b : Nat} (hb : h[b]? = some (.adt (mk m ts))) {K : AVal → AHeap A → Prop}
    (hk : K (.int .i64 n) h) : Tri Pr R n_book_Book_Len [.ptr b 0] h K := by
  refine book_Len_ok hR hB hb ?_
  rw [he]; exact hk
theorem bOk_at {m : Int} {ts r : List Bs} {s : Bs} {n e : Int} (h : bOk m ts) (he : cMade m ts s = (r, n, e)) : bOk m r := by
  have := cMade_ok (s := s) h
  rwa [he] at this
theorem bOk_key {m : Int} {ts r : List Bs} {k : UInt8} {key : Int} {s : Bs} {n e : Int} (h : bOk m ts) (he : cKey m ts k key s = (r, n, e)) : bOk m r := by
  have := cKey_ok (k := k) (key := key) (s := s) h
  rwa [he] at this
end
end Go.AI
