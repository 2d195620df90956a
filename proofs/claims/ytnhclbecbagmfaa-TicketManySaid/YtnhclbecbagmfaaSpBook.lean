/- A book: its lists as one object; what its methods do. -/
import Derived.Test.YtnhclbecbagmfaaSpUse
import Derived.Test.YtnhclbecbagmfaaFns
set_option linter.all false
namespace Go.AI
variable {A : Type} {R : Adts A}
abbrev Bs := List UInt8
/-- A term's place. -/
def bFind (ts : List Bs) (s : Bs) : Option Nat := ts.idxOf? s
/-- A term is named: the terms behind it, the name, the error. -/
def bName (most : Int) (ts : List Bs) (s : Bs) : List Bs × Int × Int :=
  if s = [] ∨ 512 < s.length then (ts, 0, 200)
  else match bFind ts s with
    | some i => (ts, i, 0)
    | none => if most ≤ ts.length then (ts, 0, 201) else (ts ++ [s], ts.length, 0)
def bEnts : List Bs → Nat → List AEnt
  | [], _ => []
  | s :: r, i => ⟨.str s, .int .i64 i, i⟩ :: bEnts r (i + 1)
def bookG (m : Int) (ts : List Bs) : Grp A :=
  if ts = [] then { e := t_book_Book, cs := [.g (.int .i64 m), .g .nils, .mp 0], subs := [.map [] 0] }
  else { e := t_book_Book, cs := [.g (.int .i64 m), .sl 1 0 ts.length ts.length false, .mp 0], subs := [.map (bEnts ts 0) ts.length, .cells t_string (ts.map .str)] }
def rbookG (m : Int) (ts : List Bs) : Grp A :=
  if ts = [] then { e := t_bastionref1_Book, cs := [.g (.int .i64 m), .g .nils], subs := [] }
  else { e := t_bastionref1_Book, cs := [.g (.int .i64 m), .sl 0 0 ts.length ts.length false], subs := [.cells t_string (ts.map .str)] }
/-- The data types know books. -/
structure HasBook (R : Adts A) (mk : Int → List Bs → A) : Prop where
  lay : ∀ m ts g, R.lay (mk m ts) g ↔ g = bookG m ts
  ren : ∀ τ m ts, R.ren τ (mk m ts) = mk m ts
structure HasRBook (R : Adts A) (mk : Int → List Bs → A) : Prop where
  lay : ∀ m ts g, R.lay (mk m ts) g ↔ g = rbookG m ts
  ren : ∀ τ m ts, R.ren τ (mk m ts) = mk m ts
theorem bEnts_length : ∀ (ts : List Bs) (i : Nat), (bEnts ts i).length = ts.length
  | [], _ => rfl
  | s :: r, i => by simp [bEnts, bEnts_length r]
theorem bEnts_append : ∀ (ts us : List Bs) (i : Nat), bEnts (ts ++ us) i = bEnts ts i ++ bEnts us (i + ts.length)
  | [], us, i => by simp [bEnts]
  | s :: r, us, i => by simp [bEnts, bEnts_append r]; congr 1; omega
theorem findK_bEnts (s : Bs) : ∀ (ts : List Bs) (i j : Nat), findK true (.str s) (bEnts ts i) j = some ((bFind ts s).map fun k => (j + k, .int .i64 ((i + k : Nat) : Int)))
  | [], i, j => by simp [bEnts, findK, bFind]
  | t :: r, i, j => by
    simp only [bEnts, findK]
    have ih := findK_bEnts s r (i + 1) (j + 1)
    by_cases h : s = t
    · subst h; simp [sameKey, bFind, List.idxOf?, List.findIdx?_cons]
    · have h2 : (t == s) = false := by simp [Ne.symm h]
      have h3 : (s == t) = false := by simp [h]
      have h4 : bFind (t :: r) s = (bFind r s).map (· + 1) := by simp [bFind, List.idxOf?, List.findIdx?_cons, h2]
      simp only [sameKey, h3, ih, h4, Option.map_map]
      congr 2
      funext k
      simp only [Function.comp]
      rw [show j + 1 + k = j + (k + 1) by omega, show i + 1 + k = i + (k + 1) by omega]
theorem born_bEnts : ∀ (ts : List Bs) (i k : Nat), k < ts.length → (bEnts ts i).findIdx? (fun e => (e.born : Int) == ((i + k : Nat) : Int)) = some k
  | [], i, k, h => by simp at h
  | t :: r, i, 0, h => by simp [bEnts, List.findIdx?_cons]
  | t :: r, i, k + 1, h => by
    have ih := born_bEnts r (i + 1) k (by simpa using h)
    have h1 : ((i : Int) == ((i + (k + 1) : Nat) : Int)) = false := by simp; omega
    rw [show i + 1 + k = i + (k + 1) by omega] at ih
    simp only [bEnts, List.findIdx?_cons, h1, ih]
    rfl
/-- What holds of a book. -/
structure bOk (m : Int) (ts : List Bs) : Prop where
  most : 1 ≤ m ∧ m ≤ 65536
  len : (ts.length : Int) ≤ m
  short : ∀ t ∈ ts, t ≠ [] ∧ t.length ≤ 512
  nd : ts.Nodup
theorem bName_ok {m : Int} {ts : List Bs} {s : Bs} (h : bOk m ts) : bOk m (bName m ts s).1 := by
  unfold bName
  split
  · exact h
  · rename_i h1
    split
    · exact h
    · rename_i h2
      split
      · exact h
      · rename_i h3
        refine ⟨h.most, by simp; omega, fun t ht => ?_, ?_⟩
        · rcases List.mem_append.1 ht with h4 | h4
          · exact h.short t h4
          · simp at h4; subst h4; exact ⟨fun h => h1 (.inl h), by omega⟩
        · rw [List.nodup_append]
          refine ⟨h.nd, by simp, fun a ha b hb he => ?_⟩
          simp at hb; subst hb; subst he
          simp [bFind] at h2
          exact h2 ha
section book
variable {mk : Int → List Bs → A}
theorem book_ix (hB : HasBook R mk) (m : Int) (ts : List Bs) (n : Nat) : (AObj.adt (mk m ts)).ix R n := by
  intro g hg
  obtain rfl := (hB.lay _ _ _).1 hg
  unfold bookG
  have h1 : ixs n (ts.map .str) = true := by simp [ixs_all, AVal.ix]
  have h2 : ∀ (ts : List Bs) (i : Nat), ∀ e ∈ bEnts ts i, e.key.ix n = true ∧ e.val.ix n = true := by
    intro ts
    induction ts with
    | nil => intro i e he; cases he
    | cons t r ih => intro i e he; rcases List.mem_cons.1 he with rfl | he; exact ⟨rfl, rfl⟩; exact ih _ e he
  split
  · simp [AVal.ix]
  · simp [AVal.ix, h1]; exact h2 ts 0
theorem book_ren (hB : HasBook R mk) (m : Int) (ts : List Bs) (τ : Nat → Nat) : (AObj.adt (mk m ts)).ren R τ = .adt (mk m ts) := by simp [AObj.ren, hB.ren]
/-- A new book. -/
theorem book_New_ok (hR : R.Ok) (hB : HasBook R mk) (m : Int) {h : AHeap A} {K : AVal → AHeap A → Prop}
    (hk : if 1 ≤ m ∧ m ≤ 65536 then K (.tup [.ptr h.length 0, .int .i64 0]) (h ++ [.adt (mk m [])]) else K (.tup [.nilp, .int .i64 200]) h) : Tri Pr R n_book_New [.int .i64 m] h K := by
  by_cases hm : 1 ≤ m ∧ m ≤ 65536
  · rw [if_pos hm] at hk
    refine Tri.make hR rfl (v0 := .tup [.ptr 0 0, .int .i64 0]) (h0 := [.adt (mk m [])]) (Tri.post ?_) (by simpa [AVal.ren, rens, book_ren hB] using hk)
    apply c_book_New
    unfold p_book_New
    have h1 : ¬ m < 1 := by omega
    have h2 : ¬ 65536 < m := by omega
    simp [h1, h2, mkmP]
    refine Gives.shut 1 [0] (mk m []) (bookG m []) ((hB.lay _ _ _).2 rfl) rfl rfl (fun i s hs => ?_) (by simp) (by simp [bookG]) (by simp [bookG]) ?_
    · match i, hs with
      | 0, hs => simp [bookG] at hs; subst hs; exact ⟨rfl, rfl⟩
      | i + 1, hs => simp [bookG] at hs
    · refine Gives.pick hR [] [.dead] (.adt (mk m [])) _ [.tup [.ptr 0 0, .int .i64 0]] rfl (by simp) (by simp) ⟨book_ix hB _ _ _, book_ren hB _ _⟩ (by simp [rens, AVal.ren]) rfl ?_
      exact ⟨_, rfl, rfl, rfl⟩
  · rw [if_neg hm] at hk
    refine Tri.fn1 hR _ rfl rfl ?_ hk
    apply c_book_New
    unfold p_book_New
    simp
    refine iteP_of (fun h1 => iteP_of (fun h2 => Ans.rfl' _) (fun h2 => ?_)) (fun h1 => Ans.rfl' _)
    simp at h1 h2; omega
theorem bEnts_born (ts : List Bs) : ∀ (i : Nat), ∀ e ∈ bEnts ts i, e.born < i + ts.length := by
  induction ts with
  | nil => intro i e he; cases he
  | cons t r ih =>
    intro i e he
    rcases List.mem_cons.1 he with rfl | he
    · simp
    · have := ih (i + 1) e he; simp; omega
theorem bEnts_nf (ts : List Bs) : (bEnts ts 0).findIdx? (fun e => (e.born : Int) == (ts.length : Int)) = none := by
  rw [List.findIdx?_eq_none_iff]
  intro e he
  have := bEnts_born ts 0 e he
  simp; omega
theorem bEnts_put (ts : List Bs) (z v : AVal) (s : Bs) : (bEnts ts 0 ++ [({ key := .str s, val := z, born := ts.length } : AEnt)]).modify ts.length (fun e => { key := e.key, val := v, born := e.born }) = bEnts ts 0 ++ [⟨.str s, v, ts.length⟩] := by
  apply List.ext_getElem?
  intro k
  rw [List.getElem?_modify]
  have hl := bEnts_length ts 0
  by_cases h1 : k < ts.length
  · rw [List.getElem?_append_left (by omega), List.getElem?_append_left (by omega)]
    simp [show ts.length ≠ k by omega]
  · by_cases h2 : k = ts.length
    · subst h2
      rw [List.getElem?_append_right (by omega), List.getElem?_append_right (by omega)]
      simp [hl]
    · rw [List.getElem?_eq_none (by simp; omega), List.getElem?_eq_none (by simp; omega)]
      rfl
theorem bEnts_snoc (ts : List Bs) (s : Bs) : bEnts (ts ++ [s]) 0 = bEnts ts 0 ++ [⟨.str s, .int .i64 ts.length, ts.length⟩] := by
  rw [bEnts_append]; simp [bEnts]
theorem take1_set (h : AHeap A) (o : AObj A) (hl : 0 < h.length) : (h.set 0 o).take 1 = [o] := by
  cases h with
  | nil => simp at hl
  | cons a r => simp
/-- A book is told as one object again. -/
theorem book_shut0 (hR : R.Ok) (hB : HasBook R mk) {m : Int} {h : AHeap A} {v : AVal} {K : List AVal → AHeap A → Prop} (j0 : Nat) (h0 : h[0]? = some (.cells t_book_Book [.int .i64 m, .nils, .map j0])) (hm : h[j0]? = some (.map [] 0))
    (hd : 0 ≠ j0) (hv : v.ix 0 = true) (hk : K [v] [.adt (mk m [])]) : Gives Pr R 1 h [v] K := by
  have hl := (List.getElem?_eq_some_iff.1 h0).1
  refine Gives.shut 0 [j0] (mk m []) (bookG m []) ((hB.lay _ _ _).2 rfl) (by simpa [bookG, GC.on] using h0) rfl (fun i s hs => ?_) (by simp [hd]) (by simp [bookG]) (by simp [bookG]) ?_
  · match i, hs with
    | 0, hs => simp [bookG] at hs; subst hs; exact ⟨hm, rfl⟩
    | i + 1, hs => simp [bookG] at hs
  · have e := take1_set (kills h [j0]) (.adt (mk m [])) (by rw [kills_length]; exact hl)
    refine Gives.cut hR (m := 1) (by omega) (by simp [kills_length]; omega) (by simp [ixs, ix_mono (Nat.zero_le 1) v hv]) (by rw [e]; simp; exact ⟨book_ix hB _ _ _, fun τ _ => book_ren hB _ _ _⟩) (by rw [e]; exact hk)
theorem book_shut (hR : R.Ok) (hB : HasBook R mk) {m : Int} {ts : List Bs} (hne : ts ≠ []) {h : AHeap A} {v : AVal} {K : List AVal → AHeap A → Prop} (j0 j1 n : Nat) (hn : n = ts.length) (h0 : h[0]? = some (.cells t_book_Book [.int .i64 m, .sl j1 0 n n false, .map j0]))
    (hm : h[j0]? = some (.map (bEnts ts 0) n)) (hs : h[j1]? = some (.cells t_string (ts.map .str)))
    (hd : 0 ≠ j0 ∧ 0 ≠ j1 ∧ j0 ≠ j1) (hv : v.ix 0 = true) (hk : K [v] [.adt (mk m ts)]) : Gives Pr R 1 h [v] K := by
  subst hn
  have hl := (List.getElem?_eq_some_iff.1 h0).1
  refine Gives.shut 0 [j0, j1] (mk m ts) (bookG m ts) ((hB.lay _ _ _).2 rfl) (by simpa [bookG, GC.on, hne] using h0) (by simp [bookG, hne]) (fun i s hs' => ?_) (by simp [hd]) (by simp [bookG, hne]; omega) (by simp [bookG, hne]) ?_
  · match i, hs' with
    | 0, hs' => simp [bookG, hne] at hs'; subst hs'; exact ⟨hm, rfl⟩
    | 1, hs' => simp [bookG, hne] at hs'; subst hs'; exact ⟨hs, rfl⟩
    | i + 2, hs' => simp [bookG, hne] at hs'
  · have e := take1_set (kills h [j0, j1]) (.adt (mk m ts)) (by rw [kills_length]; exact hl)
    refine Gives.cut hR (m := 1) (by omega) (by simp [kills_length]; omega) (by simp [ixs, ix_mono (Nat.zero_le 1) v hv]) (by rw [e]; simp; exact ⟨book_ix hB _ _ _, fun τ _ => book_ren hB _ _ _⟩) (by rw [e]; exact hk)
/-- A term is named. -/
theorem book_Name_ok (hR : R.Ok) (hB : HasBook R mk) {m : Int} {ts : List Bs} (hok : bOk m ts) (s : Bs) {h : AHeap A} {b : Nat} (hb : h[b]? = some (.adt (mk m ts))) {K : AVal → AHeap A → Prop}
    (hk : K (.tup [.int .i64 (bName m ts s).2.1, .int .i64 (bName m ts s).2.2]) (h.set b (.adt (mk m (bName m ts s).1)))) : Tri Pr R n_book_Book_Name [.ptr b 0, .str s] h K := by
  refine Tri.own hR (as2 := [.ptr 0 0, .str s]) (Q := fun v o => v = .tup [.int .i64 (bName m ts s).2.1, .int .i64 (bName m ts s).2.2] ∧ o = .adt (mk m (bName m ts s).1)) rfl (book_ix hB _ _ _) ?_ (book_ren hB _ _) ?_ hb (by simp [rens, AVal.ren]) ?_
  · rintro _ _ ⟨rfl, rfl⟩; exact ⟨rfl, book_ren hB _ _⟩
  · refine Tri.post (Tri.pre (Gives.opened 0 rfl (by simp) fun g hg => ?_))
    obtain rfl := (hB.lay _ _ _).1 hg
    refine Gives.done (by simp) ?_
    apply c_book_Book_Name
    unfold p_book_Book_Name
    have hm := hok.most
    have hlen := hok.len
    obtain ⟨r, hr⟩ : ∃ r, bName m ts s = r := ⟨_, rfl⟩
    rw [hr]
    unfold bName at hr
    by_cases h0 : ts = []
    · subst h0
      have hf : bFind [] s = none := rfl
      have h5 : ¬ m ≤ 0 := by omega
      split at hr
      · rename_i h1
        subst hr
        simp [bookG, GC.at]
        refine iteP_of (fun h2 => iteP_of (fun h3 => ?_) (fun h3 => ?_)) (fun h2 => ?_)
        · exact book_shut0 hR hB 1 rfl rfl (by omega) rfl ⟨_, rfl, _, ⟨rfl, rfl⟩, rfl⟩
        · simp at h2 h3; rcases h1 with h1 | h1; exact (h2 h1).elim; omega
        · exact book_shut0 hR hB 1 rfl rfl (by omega) rfl ⟨_, rfl, _, ⟨rfl, rfl⟩, rfl⟩
      · rename_i h1
        have h2 : s.isEmpty = false := by simp; exact fun h => h1 (.inl h)
        have h3 : ¬ (512 : Int) < s.length := by omega
        simp [hf, h5] at hr
        subst hr
        simp [bookG, GC.at, h2, h3, lkP, keyOk, mapAt, findK, h5, appP, appV, srcOf, cellsAt, mentP, mentV, AVal.scalar, estP, estV]
        exact book_shut hR hB (ts := [s]) (by simp) 1 3 1 rfl rfl rfl rfl (by omega) rfl ⟨_, rfl, _, ⟨rfl, rfl⟩, rfl⟩
    · split at hr
      · rename_i h1
        subst hr
        simp [bookG, GC.at, h0]
        refine iteP_of (fun h2 => iteP_of (fun h3 => ?_) (fun h3 => ?_)) (fun h2 => ?_)
        · exact book_shut hR hB h0 1 2 _ rfl rfl rfl rfl (by omega) rfl ⟨_, rfl, _, ⟨rfl, rfl⟩, rfl⟩
        · simp at h2 h3; rcases h1 with h1 | h1; exact (h2 h1).elim; omega
        · exact book_shut hR hB h0 1 2 _ rfl rfl rfl rfl (by omega) rfl ⟨_, rfl, _, ⟨rfl, rfl⟩, rfl⟩
      · rename_i h1
        have h2 : s.isEmpty = false := by simp; exact fun h => h1 (.inl h)
        have h3 : ¬ (512 : Int) < s.length := by omega
        cases hf : bFind ts s with
        | some i =>
          simp [hf] at hr
          subst hr
          simp [bookG, GC.at, h0, h2, h3, lkP, keyOk, mapAt, findK_bEnts, hf]
          exact book_shut hR hB h0 1 2 _ rfl rfl rfl rfl (by omega) rfl ⟨_, rfl, _, ⟨rfl, rfl⟩, rfl⟩
        | none =>
          by_cases h4 : m ≤ ts.length
          · simp [hf, h4] at hr
            subst hr
            simp [bookG, GC.at, h0, h2, h3, lkP, keyOk, mapAt, findK_bEnts, hf, h4]
            exact book_shut hR hB h0 1 2 _ rfl rfl rfl rfl (by omega) rfl ⟨_, rfl, _, ⟨rfl, rfl⟩, rfl⟩
          · simp [hf, h4] at hr
            subst hr
            have h6 : ¬ ts.length + 1 ≤ ts.length := by omega
            have h7 : (2 * (ts.length + 1) + 1000) * 16 ≤ 140737488355328 := by omega
            simp [bookG, GC.at, h0, h2, h3, lkP, keyOk, mapAt, findK_bEnts, hf, h4, appP, appV, srcOf, cellsAt, h6, h7, mentP, mentV, AVal.scalar, estP, estV, bEnts_nf, bEnts_length, bEnts_put]
            refine book_shut hR hB (ts := ts ++ [s]) (by simp) 1 4 (ts.length + 1) (by simp) rfl ?_ ?_ (by omega) rfl ⟨_, rfl, _, ⟨rfl, rfl⟩, rfl⟩
            · simp [bEnts_snoc]
            · simp
              exact List.take_of_length_le (by simp)
  · rintro _ _ ⟨rfl, rfl⟩; exact hk
end book
end Go.AI
