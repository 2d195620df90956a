/- Journals: events that are compared and copied, the disk, the data types. -/
import Derived.Test.YtjnnihaofffkfaaMcJournalKeeps
set_option linter.all false
namespace Go.AI
variable {A : Type} {R : Adts A}
/-- Events that can be read in a heap. -/
structure Rd (a : AVal) (l : List Ev) (h : AHeap A) : Prop where
  len : ∀ K : AVal → Prop, lenP a K = K (.int .i64 l.length)
  get : ∀ (i : Nat) (hi : i < l.length), ∃ p, (∀ K, idxP 8 a (.int .i64 i) K = K p) ∧ ldV 8 true p h = some (.agg l[i].row)
  src : srcOf 8 h a = some (l.length, l.flatMap Ev.row)
theorem Rd.of {a : AVal} {l : List Ev} {n : Nat} {t h : AHeap A} (ha : EvArg a l n t) (ht : ∀ k o, t[k]? = some o → h[n + k]? = some o) : Rd a l h := ⟨ha.len, ha.get h ht, ha.src h ht⟩
theorem Rd.nil (h : AHeap A) : Rd .nils [] h := Rd.of (EvArg.nil 0 []) (by simp)
theorem Rd.rows {a : AVal} {l : List Ev} (ha : IsRows Ev.row a l) (h : AHeap A) : Rd a l h := Rd.of (EvArg.rows ha 0 []) (by simp)
theorem Rd.sl (l : List Ev) (q cap : Nat) (ex : Bool) {e : TypeId} {h : AHeap A} (hq : h[q]? = some (.cells e (l.flatMap Ev.row))) : Rd (.sl q 0 l.length cap ex) l h := Rd.of (EvArg.sl l q cap ex e) (fun k o hk => by
  match k, hk with
  | 0, hk => simp at hk; subst hk; exact hq
  | k + 1, hk => simp at hk)
/-- A part of a list of events. -/
theorem Rd.part (l : List Ev) (i n q o cap : Nat) (ex : Bool) {e : TypeId} {h : AHeap A} (hq : h[q]? = some (.cells e (l.flatMap Ev.row))) (hi : i + n ≤ l.length) (ho : o = i * 8) : Rd (.sl q o n cap ex) ((l.drop i).take n) h := by
  subst ho
  have hl := evs_len l
  have hn : ((l.drop i).take n).length = n := by simp; omega
  have hdr : (l.flatMap Ev.row).drop (i * 8) = (l.drop i).flatMap Ev.row := by
    have h0 : l = l.take i ++ l.drop i := (List.take_append_drop i l).symm
    have h1 : ((l.take i).flatMap Ev.row).length = i * 8 := by rw [evs_len, List.length_take, Nat.min_eq_left (by omega)]
    conv => lhs; rw [h0, List.flatMap_append]
    rw [← h1, List.drop_left]
  have htk : ((l.drop i).flatMap Ev.row).take (n * 8) = ((l.drop i).take n).flatMap Ev.row := by
    have h0 : l.drop i = (l.drop i).take n ++ (l.drop i).drop n := (List.take_append_drop n _).symm
    have h1 : (((l.drop i).take n).flatMap Ev.row).length = n * 8 := by rw [evs_len, hn]
    conv => lhs; rw [h0, List.flatMap_append]
    rw [← h1, List.take_left]
  refine ⟨fun K => by simp [hn], fun j hj => ?_, ?_⟩
  · rw [hn] at hj
    refine ⟨.ptr q (i * 8 + j * 8), fun K => by simp [idxP, hj], ?_⟩
    have h3 : i * 8 + j * 8 + 8 ≤ (l.flatMap Ev.row).length := by omega
    have h2 := rows_drop (f := Ev.row) (n := 8) (fun x => rfl) l (i + j) (by omega)
    have h4 : ((l.flatMap Ev.row).drop (i * 8 + j * 8)).take 8 = l[i + j].row := by
      have : i * 8 + j * 8 = (i + j) * 8 := by omega
      rw [this, h2]; simp [Ev.row]
    have h5 : ((l.drop i).take n)[j]'(by rw [hn]; exact hj) = l[i + j] := by simp
    simp only [ldV, cellsAt, hq, AObj.read, Option.bind_some, h3, if_true, h4, h5]
  · simp only [srcOf, cellsAt, hq, Option.bind_some, AObj.read]
    rw [if_pos (by omega), hdr, htk, hn]
def SmI (g : AHeap A) (l r : List Ev) (m : Nat) (y : List AVal) (h : AHeap A) : Prop := ∃ i : Nat, y = [.int .i64 i] ∧ h = g ∧ i ≤ l.length ∧ l.take i = r.take i ∧ m = l.length - i
theorem SameEvents_ok (hR : R.Ok) {a b : AVal} {l r : List Ev} {h : AHeap A} (ha : Rd a l h) (hb : Rd b r h) (hn : l.length < 1000000000) {K : AVal → AHeap A → Prop} (hk : K (.bool (decide (l = r))) h) : Tri Pr R n_law0_SameEvents [a, b] h K := by
  apply c_law0_SameEvents
  unfold p_law0_SameEvents
  simp -implicitDefEqProofs [ha.len, hb.len]
  by_cases hlen : l.length = r.length
  · have h1 : ((l.length : Int) != (r.length : Int)) = false := by simp [hlen]
    simp -implicitDefEqProofs [h1]
    refine loopP_go (SmI h l r) l.length (Gives.done (by simp) ⟨0, rfl, rfl, by omega, rfl, by omega⟩) ?_
    rintro m y g ⟨i, rfl, rfl, hi, heq, rfl⟩
    have e1 := w64 (n := (i : Int) + 1) (by omega)
    by_cases hil : i < l.length
    · obtain ⟨p, hp, hv⟩ := ha.get i hil
      obtain ⟨q, hq, hw⟩ := hb.get i (by omega)
      have hil' : (i : Int) < (l.length : Int) := by omega
      have hs := shEv l[i] (r[i]'(by omega))
      simp -implicitDefEqProofs [hil, hil', hp, hv, hq, hw, hs]
      by_cases he : l[i] = r[i]'(by omega)
      · simp -implicitDefEqProofs [he, e1]
        refine Gives.done (by simp) ⟨l.length - (i + 1), by omega, i + 1, rfl, rfl, by omega, ?_, rfl⟩
        rw [List.take_add_one, List.take_add_one, heq, List.getElem?_eq_getElem hil, List.getElem?_eq_getElem (by omega : i < r.length), he]
      · have hne : l ≠ r := by rintro rfl; exact he rfl
        simp -implicitDefEqProofs [he]
        simpa [hne] using hk
    · have hil' : ¬ (i : Int) < (l.length : Int) := by omega
      have hlr : l = r := by
        rw [List.take_of_length_le (by omega), List.take_of_length_le (by omega)] at heq
        exact heq
      simp -implicitDefEqProofs [hil, hil']
      simpa [hlr] using hk
  · have h1 : ((l.length : Int) != (r.length : Int)) = true := by simp; omega
    have hne : l ≠ r := by rintro rfl; exact hlen rfl
    simp -implicitDefEqProofs [h1]
    simpa [hne] using hk
theorem CopyEvents_ok (hR : R.Ok) {a : AVal} {l : List Ev} {h : AHeap A} (ha : Rd a l h) (hsrc : srcOf 8 (h ++ [.cells t_api_Event []]) a = some (l.length, l.flatMap Ev.row)) (hn : l.length ≤ 1000000) {K : AVal → AHeap A → Prop}
    (hk : if l = [] then K (.sl h.length 0 0 0 true) (h ++ [.cells t_api_Event []]) else K (.sl (h.length + 1) 0 l.length l.length false) (h ++ [.cells t_api_Event [], .cells t_api_Event (l.flatMap Ev.row)])) : Tri Pr R n_law0_CopyEvents [a] h K := by
  apply c_law0_CopyEvents
  unfold p_law0_CopyEvents
  simp -implicitDefEqProofs
  refine app_new (t := t_api_Event) (by simp) hsrc hn ?_
  by_cases h0 : l = []
  · rw [if_pos h0] at hk ⊢; exact hk
  · rw [if_neg h0] at hk ⊢; simpa using hk
section
variable {dk rdk : List Bs → Ws → Bool → A}
theorem pair11_ok (hR : R.Ok) (hD : HasDisk R dk) (hD' : HasRDisk R rdk) {n : Int} {k : List Bs} (hn : 1 ≤ n ∧ n ≤ 256) (he : List.replicate n.toNat zSec = k) {h : AHeap A} {K : AVal → AHeap A → Prop}
    (hk : K (.tup [.ptr h.length 0, .ptr (h.length + 1) 0]) (h ++ [.adt (dk k [] false), .adt (rdk k [] false)])) : Tri Pr R n_law11_pair [.int .i64 n] h K := by
  apply c_law11_pair
  unfold p_law11_pair
  refine disk_New_at hR hD hn he ?_
  simp -implicitDefEqProofs
  refine rdisk_New_ok hR hD' n ?_
  rw [if_pos hn, he]
  simp -implicitDefEqProofs
  refine num14_ok ?_
  simp -implicitDefEqProofs
  simpa using hk
end
inductive JD where
  | book (m : Int) (ts : List Bs)
  | rbook (m : Int) (ts : List Bs)
  | disk (k : List Bs) (w : Ws) (d : Bool)
  | rdisk (k : List Bs) (w : Ws) (d : Bool)
  | jrn (b d : Nat) (J : JS)
def JD.lay : JD → Grp JD → Prop
  | .book m ts, g => g = bookG m ts
  | .rbook m ts, g => g = rbookG m ts
  | .disk k w d, g => g = diskG k w d
  | .rdisk k w d, g => g = rdiskG k w d
  | .jrn b d J, g => g = jG b d J
def JD.ren (τ : Nat → Nat) : JD → JD
  | .jrn b d J => .jrn (τ b) (τ d) J
  | a => a
def RJ : Adts JD := ⟨JD.lay, JD.ren⟩
theorem jG_ren {A : Type} (R : Adts A) (τ : Nat → Nat) (b d : Nat) (J : JS) : (jG b d J : Grp A).ren R τ = jG (τ b) (τ d) J := by
  unfold jG Grp.ren
  have h8 : rens τ (J.es.flatMap Ev.row) = J.es.flatMap Ev.row := rens_ix0 τ _ (evs_ix 0 _)
  split <;> simp [GC.ren, AVal.ren, AObj.ren, h8]
theorem RJ_ok : RJ.Ok := by
  intro a τ g'
  cases a with
  | book m ts => exact ⟨fun h => ⟨_, rfl, h.trans (bookG_ren RJ τ m ts).symm⟩, fun ⟨g, h1, h2⟩ => by subst h2; rw [show g = bookG m ts from h1, bookG_ren]; rfl⟩
  | rbook m ts => exact ⟨fun h => ⟨_, rfl, h.trans (rbookG_ren RJ τ m ts).symm⟩, fun ⟨g, h1, h2⟩ => by subst h2; rw [show g = rbookG m ts from h1, rbookG_ren]; rfl⟩
  | disk k w d => exact ⟨fun h => ⟨_, rfl, h.trans (diskG_ren RJ τ k w d).symm⟩, fun ⟨g, h1, h2⟩ => by subst h2; rw [show g = diskG k w d from h1, diskG_ren]; rfl⟩
  | rdisk k w d => exact ⟨fun h => ⟨_, rfl, h.trans (rdiskG_ren RJ τ k w d).symm⟩, fun ⟨g, h1, h2⟩ => by subst h2; rw [show g = rdiskG k w d from h1, rdiskG_ren]; rfl⟩
  | jrn b d J => exact ⟨fun h => ⟨_, rfl, h.trans (jG_ren RJ τ b d J).symm⟩, fun ⟨g, h1, h2⟩ => by subst h2; rw [show g = jG b d J from h1, jG_ren]; rfl⟩
theorem RJ_book : HasBook RJ JD.book := ⟨fun _ _ _ => Iff.rfl, fun _ _ _ => rfl⟩
theorem RJ_rbook : HasRBook RJ JD.rbook := ⟨fun _ _ _ => Iff.rfl, fun _ _ _ => rfl⟩
theorem RJ_disk : HasDisk RJ JD.disk := ⟨fun _ _ _ _ => Iff.rfl, fun _ _ _ _ => rfl⟩
theorem RJ_rdisk : HasRDisk RJ JD.rdisk := ⟨fun _ _ _ _ => Iff.rfl, fun _ _ _ _ => rfl⟩
theorem RJ_jrn : HasJrn RJ JD.jrn := ⟨fun _ _ _ _ => Iff.rfl, fun _ _ _ _ => rfl⟩
end Go.AI

/- Journals: what every program answers that is one. -/
set_option linter.all false
namespace Go.AI
variable {A : Type} {R : Adts A}
theorem jOpen_ok {m : Int} {ts t k k' : List Bs} {w w' : Ws} {dn : Bool} {res : Int ⊕ JS} (h : bOk m ts) (he : jOpen m ts k w dn = (t, k', w', res)) : bOk m t := by
  unfold jOpen at he
  split at he
  · simp only [Prod.mk.injEq] at he; rw [← he.1]; exact h
  · split at he
    · simp only [Prod.mk.injEq] at he; rw [← he.1]; exact h
    · obtain ⟨⟨boot, at_, e0⟩, he1⟩ : ∃ z, sPick ts ((dPut k w).getD 0 []) ((dPut k w).getD 1 []) = z := ⟨_, rfl⟩
      rw [he1] at he
      dsimp only at he
      have h2 := sPut_ok (boot := boot + 1) h
      obtain ⟨⟨t1, s, f⟩, he2⟩ : ∃ z, sPut m ts (boot + 1) = z := ⟨_, rfl⟩
      rw [he2] at he h2
      dsimp only at he h2
      split at he
      · simp only [Prod.mk.injEq] at he; rw [← he.1]; exact h2
      · simp only [Prod.mk.injEq] at he; rw [← he.1]; exact h2
theorem jOpen_dok {m : Int} {ts t k k' : List Bs} {w w' : Ws} {dn : Bool} {res : Int ⊕ JS} (h : dOk k w) (he : jOpen m ts k w dn = (t, k', w', res)) : dOk k' w' ∧ k'.length = k.length ∧ (w' = [] ∨ w' = w) := by
  unfold jOpen at he
  split at he
  · simp only [Prod.mk.injEq] at he; obtain ⟨_, rfl, rfl, _⟩ := he; exact ⟨h, rfl, .inr rfl⟩
  · split at he
    · simp only [Prod.mk.injEq] at he; obtain ⟨_, rfl, rfl, _⟩ := he; exact ⟨h, rfl, .inr rfl⟩
    · rename_i _ hsz
      obtain ⟨⟨boot, at_, e0⟩, he1⟩ : ∃ z, sPick ts ((dPut k w).getD 0 []) ((dPut k w).getD 1 []) = z := ⟨_, rfl⟩
      obtain ⟨p1, p2, p3, p4⟩ := sPick_may ts ((dPut k w).getD 0 []) ((dPut k w).getD 1 [])
      rw [he1] at he p1 p2 p3 p4
      dsimp only at he p1 p2 p3 p4
      obtain ⟨⟨t1, s, f⟩, he2⟩ : ∃ z, sPut m ts (boot + 1) = z := ⟨_, rfl⟩
      rw [he2] at he
      dsimp only at he
      by_cases hf : f = 0
      · rw [if_pos hf] at he
        subst hf
        simp only [Prod.mk.injEq] at he
        obtain ⟨_, rfl, rfl, _⟩ := he
        have := dOk_put (dOk_write h (x := at_) (s := s) ⟨by omega, by omega, sPut_sec he2⟩)
        rw [dPut_snoc] at this
        exact ⟨this, by rw [List.length_set, dPut_len], .inl rfl⟩
      · rw [if_neg hf] at he
        simp only [Prod.mk.injEq] at he; obtain ⟨_, rfl, rfl, _⟩ := he; exact ⟨h, rfl, .inr rfl⟩
theorem jPut_bok {m : Int} {ts t : List Bs} {J : JS} {n : Nat} {dn : Bool} {l : List Ev} {ss : List Bs} {p e : Int} (h : bOk m ts) (he : jPut m ts J n dn l = (t, ss, p, e)) : bOk m t := by
  have := jPut_ok (J := J) (size := n) (down := dn) (es := l) h
  rwa [he] at this
def evOne : Ev := ⟨0, 0, 0, 0, 0, 0, 0, 5⟩
def evTwo : Ev := ⟨8, 0, 0, 0, 0, 0, 0, 0⟩
def ev99 : Ev := ⟨99, 0, 0, 0, 0, 0, 0, 0⟩
def aw0 := jOpen 99 [] (List.replicate 5 zSec) [] false
def aw1 := jPut 99 aw0.1 ⟨1, 0, [], false⟩ 5 false [evOne]
def aw2 := jPut 99 aw1.1 ⟨1, 1, [evOne], false⟩ 5 false [evTwo, evTwo]
def awP := dPut aw0.2.1 ([] ++ jWs (2 + ((0 : Nat) : Int)) aw1.2.1)
def awW : Ws := [] ++ jWs (2 + ((1 : Nat) : Int)) aw2.2.1
def awK := dLost 1 5 awP awW
def aw4 := jOpen 99 aw2.1 awK [] false
section
variable {bk rbk : Int → List Bs → A} {dk rdk : List Bs → Ws → Bool → A} {jm : Nat → Nat → JS → A}
theorem Open_nil (hR : R.Ok) {x : AVal} {h : AHeap A} {K : AVal → AHeap A → Prop} (hk : K (.tup [.nilp, .int .i64 1]) h) : Tri Pr R n_journal_Open [.nilp, x] h K := by
  apply c_journal_Open
  unfold p_journal_Open
  simp -implicitDefEqProofs
  exact hk
theorem Open_nild (hR : R.Ok) {b : Nat} {h : AHeap A} {K : AVal → AHeap A → Prop} (hk : K (.tup [.nilp, .int .i64 1]) h) : Tri Pr R n_journal_Open [.ptr b 0, .nilp] h K := by
  apply c_journal_Open
  unfold p_journal_Open
  simp -implicitDefEqProofs
  exact hk
theorem Append_at (hR : R.Ok) (hB : HasBook R bk) (hD : HasDisk R dk) (hJ : HasJrn R jm) {m : Int} {ts t : List Bs} {k k2 : List Bs} {w : Ws} {dn : Bool} {J : JS} {a : AVal} {l : List Ev} {ss : List Bs} {p : Int} (hok : bOk m ts) (hdk : dOk k w) (hw : w.length ≤ 600) (hn : J.es.length ≤ 300) (hl : l.length < 1000000000)
    (he : jPut m ts J k.length dn l = (t, ss, p, 0)) (h2 : dPut k (w ++ jWs (2 + J.es.length) ss) = k2) {h : AHeap A} {b d j : Nat} (hb : h[b]? = some (.adt (bk m ts))) (hd : h[d]? = some (.adt (dk k w dn))) (hj : h[j]? = some (.adt (jm b d J))) (hne : b ≠ d ∧ b ≠ j ∧ d ≠ j) (ha : EvsAt a l h fun q => b ≠ q ∧ d ≠ q ∧ j ≠ q) {K : AVal → AHeap A → Prop}
    (hk : K (.int .i64 0) (((h.set b (.adt (bk m t))).set d (.adt (dk k2 [] dn))).set j (.adt (jm b d ⟨J.boot, p, J.es ++ l, J.over⟩)))) : Tri Pr R n_journal_Journal_Append [.ptr j 0, a] h K := by
  refine Append_ok hR hB hD hJ hok hdk hw hn hl he hb hd hj hne ha ?_
  rw [if_pos rfl, h2]; exact hk
theorem Append_bad (hR : R.Ok) (hB : HasBook R bk) (hD : HasDisk R dk) (hJ : HasJrn R jm) {m : Int} {ts t : List Bs} {k : List Bs} {w : Ws} {dn : Bool} {J : JS} {a : AVal} {l : List Ev} {ss : List Bs} {p e : Int} (hok : bOk m ts) (hdk : dOk k w) (hw : w.length ≤ 600) (hn : J.es.length ≤ 300) (hl : l.length < 1000000000)
    (he : jPut m ts J k.length dn l = (t, ss, p, e)) (h2 : e ≠ 0) {h : AHeap A} {b d j : Nat} (hb : h[b]? = some (.adt (bk m ts))) (hd : h[d]? = some (.adt (dk k w dn))) (hj : h[j]? = some (.adt (jm b d J))) (hne : b ≠ d ∧ b ≠ j ∧ d ≠ j) (ha : EvsAt a l h fun q => b ≠ q ∧ d ≠ q ∧ j ≠ q) {K : AVal → AHeap A → Prop}
    (hk : K (.int .i64 e) (h.set b (.adt (bk m t)))) : Tri Pr R n_journal_Journal_Append [.ptr j 0, a] h K := by
  refine Append_ok hR hB hD hJ hok hdk hw hn hl he hb hd hj hne ha ?_
  rw [if_neg h2]; exact hk
theorem Write_at (hR : R.Ok) (hB : HasBook R bk) (hD : HasDisk R dk) (hJ : HasJrn R jm) {m : Int} {ts t : List Bs} {k : List Bs} {w w2 : Ws} {dn : Bool} {J : JS} {a : AVal} {l : List Ev} {ss : List Bs} {p : Int} (hok : bOk m ts) (hdk : dOk k w) (hw : w.length ≤ 600) (hn : J.es.length ≤ 300) (hl : l.length < 1000000000)
    (he : jPut m ts J k.length dn l = (t, ss, p, 0)) (h2 : w ++ jWs (2 + J.es.length) ss = w2) {h : AHeap A} {b d j : Nat} (hb : h[b]? = some (.adt (bk m ts))) (hd : h[d]? = some (.adt (dk k w dn))) (hj : h[j]? = some (.adt (jm b d J))) (hne : b ≠ d ∧ b ≠ j ∧ d ≠ j) (ha : EvsAt a l h fun q => b ≠ q ∧ d ≠ q ∧ j ≠ q) {K : AVal → AHeap A → Prop}
    (hk : K (.int .i64 0) (((h.set b (.adt (bk m t))).set d (.adt (dk k w2 dn))).set j (.adt (jm b d ⟨J.boot, J.prev, J.es, true⟩)))) : Tri Pr R n_journal_Journal_Write [.ptr j 0, a] h K := by
  refine Write_ok hR hB hD hJ hok hdk hw hn hl he hb hd hj hne ha ?_
  rw [if_pos rfl, h2]; exact hk
theorem Write_bad (hR : R.Ok) (hB : HasBook R bk) (hD : HasDisk R dk) (hJ : HasJrn R jm) {m : Int} {ts t : List Bs} {k : List Bs} {w : Ws} {dn : Bool} {J : JS} {a : AVal} {l : List Ev} {ss : List Bs} {p e : Int} (hok : bOk m ts) (hdk : dOk k w) (hw : w.length ≤ 600) (hn : J.es.length ≤ 300) (hl : l.length < 1000000000)
    (he : jPut m ts J k.length dn l = (t, ss, p, e)) (h2 : e ≠ 0) {h : AHeap A} {b d j : Nat} (hb : h[b]? = some (.adt (bk m ts))) (hd : h[d]? = some (.adt (dk k w dn))) (hj : h[j]? = some (.adt (jm b d J))) (hne : b ≠ d ∧ b ≠ j ∧ d ≠ j) (ha : EvsAt a l h fun q => b ≠ q ∧ d ≠ q ∧ j ≠ q) {K : AVal → AHeap A → Prop}
    (hk : K (.int .i64 e) (h.set b (.adt (bk m t)))) : Tri Pr R n_journal_Journal_Write [.ptr j 0, a] h K := by
  refine Write_ok hR hB hD hJ hok hdk hw hn hl he hb hd hj hne ha ?_
  rw [if_neg h2]; exact hk
theorem Events_at (hR : R.Ok) (hB : HasBook R bk) (hD : HasDisk R dk) (hJ : HasJrn R jm) {m : Int} {ts k : List Bs} {w : Ws} {dn : Bool} {J : JS} (hn : J.es.length ≤ 300) (h0 : J.es ≠ []) {h : AHeap A} {b d j : Nat} (hb : h[b]? = some (.adt (bk m ts))) (hd : h[d]? = some (.adt (dk k w dn))) (hj : h[j]? = some (.adt (jm b d J))) (hne : b ≠ d ∧ b ≠ j ∧ d ≠ j) {K : AVal → AHeap A → Prop}
    (hk : K (.sl h.length 0 J.es.length J.es.length false) (h ++ [.cells t_api_Event (J.es.flatMap Ev.row)])) : Tri Pr R n_journal_Journal_Events [.ptr j 0] h K := by
  refine Events_ok hR hB hD hJ hn hb hd hj hne ?_
  rw [if_neg h0]; exact hk
theorem EvsAt.at {l : List Ev} {n q cap : Nat} {ex : Bool} {h : AHeap A} {x : Nat → Prop} (hq : h[q]? = some (.cells t_api_Event (l.flatMap Ev.row))) (hn : n = l.length) (hx : x q) : EvsAt (.sl q 0 n cap ex) l h x := by
  subst hn; exact .inr (.inr ⟨q, cap, ex, rfl, hq, hx⟩)
theorem awake11_ok (hR : R.Ok) (hB : HasBook R bk) (hB' : HasRBook R rbk) (hD : HasDisk R dk) (hD' : HasRDisk R rdk) (hJ : HasJrn R jm) {h : AHeap A} {K : AVal → AHeap A → Prop} (hk : K (.bool true) h) : Tri Pr R n_law11_awake [] h K := by
  refine Tri.fn1 hR _ rfl rfl ?_ hk
  apply c_law11_awake
  unfold p_law11_awake
  have b0 : bOk 99 [] := bOk_nil (by omega)
  have d0 : dOk (List.replicate 5 zSec) [] := dOk_new (n := 5) (by omega)
  have q0 : jOpen 99 [] (List.replicate 5 zSec) [] false = (aw0.1, aw0.2.1, [], .inr ⟨1, 0, [], false⟩) := by decide +kernel
  have q1 : jPut 99 aw0.1 ⟨1, 0, [], false⟩ aw0.2.1.length false [evOne] = (aw1.1, aw1.2.1, 1, 0) := by decide +kernel
  have q2 : jPut 99 aw1.1 ⟨1, 1, [evOne], false⟩ awP.length false [evTwo, evTwo] = (aw2.1, aw2.2.1, 3, 0) := by decide +kernel
  have q3 : jPut 99 aw2.1 ⟨1, 1, [evOne], true⟩ awP.length false [evOne] = (aw2.1, [], 0, 1102) := by decide +kernel
  have q4 : jOpen 99 aw2.1 awK [] false = (aw4.1, aw4.2.1, [], .inr ⟨2, 2, [evOne, evTwo], false⟩) := by decide +kernel
  have q5 : jPut 99 aw4.1 ⟨2, 2, [evOne, evTwo], false⟩ aw4.2.1.length false [evTwo, evTwo] = (aw4.1, [], 0, 1101) := by decide +kernel
  have q6 : jPut 99 aw4.1 ⟨2, 2, [evOne, evTwo], false⟩ aw4.2.1.length false [ev99] = (aw4.1, [], 0, 1100) := by decide +kernel
  have n4 : aw4.2.1.length = 5 := by decide +kernel
  have b1 := jOpen_ok b0 q0
  have d1 := (jOpen_dok d0 q0).1
  have b2 := jPut_bok b1 q1
  have d2 : dOk awP [] := dOk_put ((jPut_facts q1 d1).2 rfl).2.2.2.2.2
  have b3 := jPut_bok b2 q2
  have d3 : dOk awP awW := ((jPut_facts q2 d2).2 rfl).2.2.2.2.2
  have l3 : awW.length = 2 := by decide +kernel
  have d4 : dOk awK [] := dOk_lost d3 (by omega)
  have b5 := jOpen_ok b3 q4
  have d5 := (jOpen_dok d4 q4).1
  have eP : dPut aw0.2.1 ([] ++ jWs (2 + ((0 : Nat) : Int)) aw1.2.1) = awP := rfl
  have eW : ([] ++ jWs (2 + ((1 : Nat) : Int)) aw2.2.1 : Ws) = awW := rfl
  have eK : dLost 1 5 awP awW = awK := rfl
  generalize aw0.1 = t0 at *
  generalize aw0.2.1 = k0 at *
  generalize aw1.1 = t1 at *
  generalize aw1.2.1 = s1 at *
  generalize aw2.1 = t2 at *
  generalize aw2.2.1 = s2 at *
  generalize aw4.1 = t4 at *
  generalize aw4.2.1 = k4 at *
  generalize awP = kP at *
  generalize awW = wW at *
  generalize awK = kK at *
  refine law11_twin_ok hR hB hB' 99 ?_
  rw [if_pos (by omega)]
  simp -implicitDefEqProofs
  refine pair11_ok hR hD hD' (n := 5) (by omega) rfl ?_
  have e5 : (5 : Int).toNat = 5 := rfl
  rw [e5]
  generalize List.replicate 5 zSec = z5 at *
  simp -implicitDefEqProofs
  refine Open_ok hR hB hD hJ b0 d0 (by simp) q0 rfl rfl (by decide) ?_
  simp -implicitDefEqProofs
  refine Open_nil hR ?_
  simp -implicitDefEqProofs
  refine num14_ok ?_
  simp -implicitDefEqProofs
  refine Append_at (l := [evOne]) hR hB hD hJ b1 d1 (by simp) (by simp) (by simp) q1 eP rfl rfl rfl (by decide) (EvsAt.at rfl rfl (by decide)) ?_
  simp -implicitDefEqProofs
  refine Write_at (l := [evTwo, evTwo]) hR hB hD hJ b2 d2 (by simp) (by simp) (by simp) q2 eW rfl rfl rfl (by decide) (EvsAt.at rfl rfl (by decide)) ?_
  simp -implicitDefEqProofs
  refine Append_bad (l := [evOne]) hR hB hD hJ b3 d3 (by omega) (by simp) (by simp) q3 (by decide) rfl rfl rfl (by decide) (EvsAt.at rfl rfl (by decide)) ?_
  simp -implicitDefEqProofs
  refine disk_Crash_at hR hD d3 (by omega) (by omega) eK rfl ?_
  simp -implicitDefEqProofs
  refine disk_Restart_at hR hD rfl ?_
  simp -implicitDefEqProofs
  refine Open_ok hR hB hD hJ b3 d4 (by simp) q4 rfl rfl (by decide) ?_
  simp -implicitDefEqProofs
  refine num14_ok ?_
  simp -implicitDefEqProofs
  refine Append_bad (l := [evTwo, evTwo]) hR hB hD hJ b5 d5 (by simp) (by simp) (by simp) q5 (by decide) rfl rfl rfl (by decide) (EvsAt.at rfl rfl (by decide)) ?_
  simp -implicitDefEqProofs
  refine Append_bad (l := [ev99]) hR hB hD hJ b5 d5 (by simp) (by simp) (by simp) q6 (by decide) rfl rfl rfl (by decide) (EvsAt.at rfl rfl (by decide)) ?_
  simp -implicitDefEqProofs
  refine joinP_go ?_
  refine num14_ok ?_
  simp -implicitDefEqProofs
  refine Boot_ok hR hB hD hJ (b := 0) (d := 2) (j := 4) rfl rfl rfl (by decide) ?_
  simp -implicitDefEqProofs
  refine num14_ok ?_
  simp -implicitDefEqProofs
  refine num14_ok ?_
  simp -implicitDefEqProofs
  refine num14_ok ?_
  simp -implicitDefEqProofs
  refine Boot_ok hR hB hD hJ (b := 0) (d := 2) rfl rfl rfl (by decide) ?_
  simp -implicitDefEqProofs
  constructor
  · refine Events_at hR hB hD hJ (J := ⟨2, 2, [evOne, evTwo], false⟩) (b := 0) (d := 2) (j := 10) (by simp) (by simp) rfl rfl rfl (by decide) ?_
    simp -implicitDefEqProofs
    refine SameEvents_ok hR (l := [evOne, evTwo]) (r := [evOne, evTwo]) (Rd.sl [evOne, evTwo] 13 _ _ rfl) (Rd.sl [evOne, evTwo] 14 _ _ rfl) (by simp) ?_
    simp -implicitDefEqProofs
    refine Room_ok hR hB hD hJ (J := ⟨2, 2, [evOne, evTwo], false⟩) (b := 0) (d := 2) (j := 10) (k := k4) (by omega) (by simp) rfl rfl rfl (by decide) ?_
    rw [n4]
    simp -implicitDefEqProofs
    refine num14_ok ?_
    simp -implicitDefEqProofs
    refine num14_ok ?_
    simp -implicitDefEqProofs
    exact Ans.rfl' _
  · refine Events_at hR hB hD hJ (J := ⟨2, 2, [evOne, evTwo], false⟩) (b := 0) (d := 2) (j := 10) (by simp) (by simp) rfl rfl rfl (by decide) ?_
    simp -implicitDefEqProofs
    refine SameEvents_ok hR (l := [evOne, evTwo]) (r := [evOne, evTwo]) (Rd.sl [evOne, evTwo] 14 _ _ rfl) (Rd.sl [evOne, evTwo] 13 _ _ rfl) (by simp) ?_
    simp -implicitDefEqProofs
    refine Room_ok hR hB hD hJ (J := ⟨2, 2, [evOne, evTwo], false⟩) (b := 0) (d := 2) (j := 10) (k := k4) (by omega) (by simp) rfl rfl rfl (by decide) ?_
    rw [n4]
    simp -implicitDefEqProofs
    refine num14_ok ?_
    simp -implicitDefEqProofs
    refine num14_ok ?_
    simp -implicitDefEqProofs
    exact Ans.rfl' _
end
end Go.AI

/- RecordForms (printed by gen/law9b.py). -/
set_option linter.all false
namespace Go.AI
variable {A : Type} {R : Adts A}
theorem recPut_bad {m : Int} {ts : List Bs} {r : Rec} (h : ¬ recMay r = true) : recPut m ts r = (ts, [], 0, 900) := by unfold recPut; rw [if_neg h]
theorem recBody_seq {r q : Rec} (hr : nMay r.seq = true) (hq : nMay q.seq = true) (h : recT r = recT q) : r.seq = q.seq := by
  have h1 : recBody r = recBody q := by simpa [recT] using h
  have e : ∀ x : Rec, recBody x = nS x.seq ++ (nS x.boot ++ (nS x.prev ++ (nS (evPut x.ev).length ++ evPut x.ev))) := fun x => by simp [recBody, nAll]
  rw [e, e] at h1
  exact (nS_head hr hq h1).1
def FJ (ts : List Bs) (o : AHeap A) (vs : List AVal) (g : AHeap A) : Prop := ∃ r : Rec, recPut 1 ts r = (ts, [], 0, 900) ∧ g = o ++ [.cells t_api_Record r.row]
section
variable {bk rbk : Int → List Bs → A}
end
end Go.AI

/- RecordBack. -/
set_option linter.all false
namespace Go.AI
variable {A : Type} {R : Adts A}
theorem bTerm_one {u s : Bs} {n : Int} (h : bTerm [u] n = (s, 0)) : n = 0 ∧ s = u := by
  unfold bTerm at h
  split at h
  · rename_i h1
    have : n = 0 := by simp at h1; omega
    subst this
    simp at h
    exact ⟨rfl, h.symm⟩
  · simp at h
theorem bytes_mapM (t : Bs) : (t.map fun b => AVal.int .u8 b.toNat).mapM byteOf = some t := by
  induction t with
  | nil => rfl
  | cons c t ih => rw [List.map_cons, List.mapM_cons, ih]; simp [byteOf]
theorem recRead_own {x : Rec} {t : Bs} (h : t ≠ pad (recBody x ++ nS 0)) : recRead [recT x] t = none := by
  cases e : recRead [recT x] t with
  | none => rfl
  | some p =>
    obtain ⟨r, n⟩ := p
    obtain ⟨h1, h2, h3, h4⟩ := recRead_enc (by simp) e
    exfalso
    apply h
    have e1 := bTerm_one h3
    obtain ⟨rfl, e2⟩ := e1
    have e3 : recBody r = recBody x := by simpa [recT] using e2
    rw [h4, e3]
theorem recGet_none {ts : List Bs} {s : Bs} {seq prev : Int} (h : recRead ts s = none) : recGet ts s seq prev = (rec0, 0, 900) := by unfold recGet; rw [h]
theorem recPut_new {m : Int} {ts : List Bs} {r : Rec} (h : recMay r = true) (h3 : recT r ∉ ts) (h4 : (ts.length : Int) < m) (h5 : ts.length < 256) : recPut m ts r = (ts ++ [recT r], pad (recBody r ++ nS (ts.length : Int)), (ts.length : Int), 0) := by
  have h2 := recBody_len h
  have h1 : cMade m ts (recT r) = (ts ++ [recT r], (ts.length : Int), 0) := cMade_new (by simp [recT]) (by simp [recT]; omega) h3 h4
  have e : (nS (ts.length : Int)).length ≤ 2 := by
    have : nMay (ts.length : Int) = true := by simp [nMay]; omega
    simp only [nS, this, if_true, nE]
    split
    · simp
    · rw [if_pos (by omega)]; simp
  unfold recPut
  rw [if_pos h, h1]
  simp only [if_true]
  rw [if_pos (by rw [List.length_append]; omega)]
theorem bits_xor8 (a : UInt8) (d : Int) (h : 1 ≤ d ∧ d ≤ 128) : ∃ c : UInt8, bits .u8 (· ^^^ ·) (a.toNat : Int) d = (c.toNat : Int) ∧ c ≠ a := by
  obtain ⟨n, rfl⟩ := Int.eq_ofNat_of_zero_le (show 0 ≤ d by omega)
  refine ⟨a ^^^ UInt8.ofNat n, ?_, ?_⟩
  · have h1 : BitVec.ofInt 8 (a.toNat : Int) = a.toBitVec := by apply BitVec.eq_of_toNat_eq; simp
    have h2 : BitVec.ofInt 8 (n : Int) = (UInt8.ofNat n).toBitVec := by apply BitVec.eq_of_toNat_eq; simp
    show IntKind.u8.wrap ((BitVec.ofInt 8 (a.toNat : Int) ^^^ BitVec.ofInt 8 (n : Int)).toNat : Int) = _
    rw [h1, h2, w8m]
    have h3 : (a.toBitVec ^^^ (UInt8.ofNat n).toBitVec).toNat = (a ^^^ UInt8.ofNat n).toNat := rfl
    rw [h3]
    have := (a ^^^ UInt8.ofNat n).toNat_lt
    omega
  · intro e
    have e1 : a ^^^ (a ^^^ UInt8.ofNat n) = a ^^^ a := by rw [e]
    rw [← UInt8.xor_assoc, UInt8.xor_self, UInt8.zero_xor] at e1
    have e2 := congrArg UInt8.toNat e1
    simp at e2
    omega
theorem turn_go {t : TypeId} {s : Bs} {k : Nat} {d : Int} (hk : k < s.length) (hd : 1 ≤ d ∧ d ≤ 128) {h : AHeap A} {K : AVal → AHeap A → Prop} (hK : ∀ s' : Bs, s' ≠ s → s'.length = s.length → K (.str s') (h ++ [.cells t (s'.map fun b => .int .u8 b.toNat)])) :
    s2bP t (.str s) h fun v53 h => idxP 1 v53 (.int .i64 (k : Int)) fun v54 => optP (ldV 1 false v54 h) fun v55 => binP .xor .other v55 (.int .u8 d) fun v59 => idxP 1 v53 (.int .i64 (k : Int)) fun v60 => stP 1 v60 v59 h fun h => b2sP v53 h fun v61 => K v61 h := by
  obtain ⟨c, hc, hc1⟩ := bits_xor8 s[k] d hd
  have e1 : (s.map fun b => AVal.int .u8 b.toNat)[k]? = some (.int .u8 (s[k].toNat : Int)) := by simp [hk]
  have e2 : (s.map fun b => AVal.int .u8 b.toNat).set k (.int .u8 (c.toNat : Int)) = (s.set k c).map fun b => AVal.int .u8 b.toNat := by rw [List.map_set]
  have e3 := bytes_mapM (s.set k c)
  have hne : s.set k c ≠ s := by
    intro e
    have := congrArg (fun l : Bs => l[k]?) e
    simp [hk] at this
    exact hc1 this
  unfold s2bP
  simp -implicitDefEqProofs [hk, e1, hc]
  rw [setO_one _ _ _ _ _ _ rfl (by simpa using hk), e2]
  obtain ⟨z, hz⟩ : ∃ z, (List.set s k c).map (fun b => AVal.int .u8 b.toNat) = z := ⟨_, rfl⟩
  have lz : z.length = s.length := by rw [← hz]; simp
  rw [hz] at e3 ⊢
  simp -implicitDefEqProofs [b2sP, cellsAt, lz]
  rw [List.take_of_length_le (by omega), e3, ← hz]
  exact hK _ hne (by simp)
section
variable {bk rbk : Int → List Bs → A}
end
end Go.AI

/- Journals: what is written is found again, plainly. -/
set_option linter.all false
namespace Go.AI
/-- A book that has grown. -/
def Mono (ts t : List Bs) : Prop := ∀ x r, bTerm ts x = (r, 0) → bTerm t x = (r, 0)
theorem Mono.rfl' (ts : List Bs) : Mono ts ts := fun _ _ h => h
theorem Mono.trans {a b c : List Bs} (h : Mono a b) (g : Mono b c) : Mono a c := fun x r e => g x r (h x r e)
theorem made_mono {m : Int} {ts : List Bs} {s : Bs} (h0 : s ≠ []) (hs : s.length ≤ 512) (hm : (ts.length : Int) < m) :
    ∃ (ts' : List Bs) (n : Nat), cMade m ts s = (ts', (n : Int), 0) ∧ bTerm ts' (n : Int) = (s, 0) ∧ n < ts'.length ∧ ts'.length ≤ ts.length + 1 ∧ Mono ts ts' := by
  by_cases hmem : s ∈ ts
  · obtain ⟨i, h1, h2, h3⟩ := bFind_mem hmem
    exact ⟨ts, i, cMade_old h0 hs h1, bTerm_get h3, h2, by omega, fun t r h => h⟩
  · exact ⟨ts ++ [s], ts.length, cMade_new h0 hs hmem hm, bTerm_get (by simp), by simp, by simp, fun t r h => bTerm_app [s] h⟩
theorem nS_small {n : Nat} (h : n < 256) : (nS (n : Int)).length ≤ 2 := by
  have : nMay (n : Int) = true := by simp [nMay]; omega
  simp only [nS, this, if_true, nE]
  split
  · simp
  · rw [if_pos (by omega)]; simp
theorem recPut_step {m : Int} {ts : List Bs} {r : Rec} (hr : recMay r = true) (hok : bOk m ts) (h1 : (ts.length : Int) < m) (h2 : ts.length < 256) :
    ∃ (t : List Bs) (n : Nat), recPut m ts r = (t, pad (recBody r ++ nS (n : Int)), (n : Int), 0) ∧ bOk m t ∧ bTerm t (n : Int) = (recT r, 0) ∧ (recBody r ++ nS (n : Int)).length ≤ 64 ∧ n < t.length ∧ t.length ≤ ts.length + 1 ∧ Mono ts t := by
  have hb := recBody_len hr
  obtain ⟨t, n, k1, k2, k3, k4, k5⟩ := made_mono (m := m) (ts := ts) (s := recT r) (by simp [recT]) (by simp [recT]; omega) h1
  have hns := nS_small (n := n) (by omega)
  have hlen : (recBody r ++ nS (n : Int)).length ≤ 64 := by rw [List.length_append]; omega
  have hp : recPut m ts r = (t, pad (recBody r ++ nS (n : Int)), (n : Int), 0) := by
    unfold recPut
    rw [if_pos hr, k1]
    simp only [if_true]
    rw [if_pos hlen]
  exact ⟨t, n, hp, bOk_rput hok hp, k2, hlen, k3, k4, k5⟩
theorem recGet_own {ts : List Bs} (hn : ts.Nodup) {r : Rec} {n : Int} (hr : recMay r = true) (hm : nMay n = true) (hb : bTerm ts n = (recT r, 0)) (hl : (recBody r ++ nS n).length ≤ 64) : recGet ts (pad (recBody r ++ nS n)) r.seq r.prev = (r, n, 0) := by
  unfold recGet
  rw [recRead_dec hn hr hm hb hl]
  simp
theorem recGet_some {ts : List Bs} (hn : ts.Nodup) {s : Bs} {q p : Int} {r : Rec} {n : Int} (h : recGet ts s q p = (r, n, 0)) : recMay r = true ∧ nMay n = true ∧ bTerm ts n = (recT r, 0) ∧ s = pad (recBody r ++ nS n) ∧ r.seq = q ∧ r.prev = p ∧ recRead ts s = some (r, n) := by
  unfold recGet at h
  split at h
  · simp at h
  · rename_i r2 n2 hr
    split at h
    · simp at h
    · rename_i hne
      simp only [Prod.mk.injEq, and_true] at h
      obtain ⟨rfl, rfl⟩ := h
      obtain ⟨a1, a2, a3, a4⟩ := recRead_enc hn hr
      exact ⟨a1, a2, a3, a4, Classical.byContradiction fun h => hne (.inl h), Classical.byContradiction fun h => hne (.inr h), hr⟩
/-- The sector of a record is not too long. -/
theorem recRead_len {ts : List Bs} {s : Bs} {r : Rec} {n : Int} (hn : ts.Nodup) (h : recRead ts s = some (r, n)) (hs : s.length = 64) : (recBody r ++ nS n).length ≤ 64 := by
  obtain ⟨_, _, _, e⟩ := recRead_enc hn h
  rw [e] at hs
  unfold pad at hs
  rw [List.length_append, List.length_replicate] at hs
  omega
theorem recGet_mono {ts t : List Bs} (hn : ts.Nodup) (hn' : t.Nodup) (hk : Mono ts t) {s : Bs} (hs : s.length = 64) {q p : Int} {r : Rec} {n : Int} (h : recGet ts s q p = (r, n, 0)) : recGet t s q p = (r, n, 0) := by
  obtain ⟨a1, a2, a3, a4, a5, a6, a7⟩ := recGet_some hn h
  have hl := recRead_len hn a7 hs
  have := recGet_own hn' a1 a2 (hk _ _ a3) hl
  rw [← a4, a5, a6] at this
  exact this
theorem recRead_z (ts : List Bs) : recRead ts zSec = none := by
  have h1 : rNums zSec 3 0 = some ([0, 0, 0], 3) := by decide +kernel
  have h2 : (gText zSec 3).2.2 = 0 := by decide +kernel
  have h3 : evGet (gText zSec 3).1 = none := by decide +kernel
  unfold recRead
  rw [h1]
  dsimp only
  rw [if_neg (by simp [h2]), h3]
theorem recGet_z (ts : List Bs) (q p : Int) : recGet ts zSec q p = (rec0, 0, 900) := recGet_none (recRead_z ts)
/-- Records that stand one behind the other, from the i-th on. -/
def ChainFrom (ts k : List Bs) : Nat → Int → List Ev → Int → Prop
  | _, p, [], q => q = p
  | i, p, e :: l, q => 2 + i < k.length ∧ ∃ r n, recGet ts (k.getD (2 + i) []) (i + 1) p = (r, n, 0) ∧ r.ev = e ∧ ChainFrom ts k (i + 1) n l q
def EndAt (ts k : List Bs) (i : Nat) (p : Int) : Prop := 2 + i < k.length → (recGet ts (k.getD (2 + i) []) (i + 1) p).2.2 ≠ 0
theorem jLoad_chain {ts k : List Bs} : ∀ (l : List Ev) (n : Nat) (p q : Int) (es : List Ev), ChainFrom ts k es.length p l q → l.length ≤ n → jLoad ts k n p es = jLoad ts k (n - l.length) q (es ++ l)
  | [], n, p, q, es, h, _ => by
    have : q = p := h
    subst this
    simp
  | e :: l, n, p, q, es, h, hn => by
    obtain ⟨h1, r, name, h2, rfl, h3⟩ := h
    simp only [List.length_cons] at hn
    obtain ⟨n', rfl⟩ : ∃ n', n = n' + 1 := ⟨n - 1, by omega⟩
    have : jLoad ts k (n' + 1) p es = jLoad ts k n' name (es ++ [r.ev]) := by
      conv => lhs; unfold jLoad
      rw [if_pos h1, h2]
      simp
    rw [this, jLoad_chain l n' name q (es ++ [r.ev]) (by simpa using h3) (by omega)]
    simp
theorem jLoad_end {ts k : List Bs} {p : Int} {es : List Ev} (h : EndAt ts k es.length p) (n : Nat) : jLoad ts k n p es = (p, es) := by
  cases n with
  | zero => rfl
  | succ n =>
    unfold jLoad
    by_cases h1 : 2 + es.length < k.length
    · rw [if_pos h1]
      have := h h1
      obtain ⟨⟨r, name, e⟩, hr⟩ : ∃ z, recGet ts (k.getD (2 + es.length) []) (es.length + 1) p = z := ⟨_, rfl⟩
      rw [hr] at this ⊢
      dsimp only at this ⊢
      rw [if_neg this]
    · rw [if_neg h1]
theorem ChainFrom.len {ts k : List Bs} : ∀ (l : List Ev) {i : Nat} {p q : Int}, ChainFrom ts k i p l q → l = [] ∨ 2 + i + l.length ≤ k.length
  | [], _, _, _, _ => .inl rfl
  | e :: l, i, p, q, h => by
    obtain ⟨h1, r, n, _, _, h3⟩ := h
    rcases ChainFrom.len l h3 with rfl | h4
    · exact .inr (by simp only [List.length_cons, List.length_nil]; omega)
    · exact .inr (by simp only [List.length_cons]; omega)
theorem ChainFrom.app {ts k : List Bs} : ∀ (l : List Ev) {i : Nat} {p q s : Int} {l2 : List Ev}, ChainFrom ts k i p l q → ChainFrom ts k (i + l.length) q l2 s → ChainFrom ts k i p (l ++ l2) s
  | [], i, p, q, s, l2, h, g => by
    have : q = p := h
    subst this
    simpa using g
  | e :: l, i, p, q, s, l2, h, g => by
    obtain ⟨h1, r, n, h2, h3, h4⟩ := h
    refine ⟨h1, r, n, h2, h3, ChainFrom.app l h4 ?_⟩
    have : i + 1 + l.length = i + (e :: l).length := by simp; omega
    rw [this]; exact g
theorem ChainFrom.move {ts t k k' : List Bs} (hn : ts.Nodup) (hn' : t.Nodup) (hm : Mono ts t) (hk : ∀ s ∈ k, s.length = 64) : ∀ (l : List Ev) {i : Nat} {p q : Int}, ChainFrom ts k i p l q → k'.length = k.length → (∀ j, 2 + i ≤ j → j < 2 + i + l.length → k'.getD j [] = k.getD j []) → ChainFrom t k' i p l q
  | [], _, _, _, h, _, _ => h
  | e :: l, i, p, q, h, hl, hg => by
    obtain ⟨h1, r, n, h2, h3, h4⟩ := h
    refine ⟨by omega, r, n, ?_, h3, ChainFrom.move hn hn' hm hk l h4 hl fun j hj1 hj2 => hg j (by omega) (by simp only [List.length_cons]; omega)⟩
    rw [hg (2 + i) (by omega) (by simp only [List.length_cons]; omega)]
    exact recGet_mono hn hn' hm (getD_len hk h1) h2
/-- All records are made while there is room, and they stand one behind the other. -/
theorem jRecs_chain {m boot : Int} (hb : 1 ≤ boot ∧ nMay boot = true) : ∀ (l : List Ev) {ts : List Bs} {q : Nat} {p : Int}, bOk m ts → nMay p = true → l.all evMay = true → q + l.length ≤ 1000 → (ts.length : Int) + l.length ≤ m → ts.length + l.length ≤ 256 →
    ∃ (t ss : List Bs) (p' : Int), jRecs m boot ts q p l = (t, ss, p', true) ∧ bOk m t ∧ Mono ts t ∧ t.length ≤ ts.length + l.length ∧ nMay p' = true ∧ ∀ k : List Bs, (∀ s ∈ k, s.length = 64) → 2 + q + l.length ≤ k.length → (∀ i, i < l.length → k.getD (2 + q + i) [] = ss.getD i []) → ChainFrom t k q p l p'
  | [], ts, q, p, hok, hp, _, _, _, _ => ⟨ts, [], p, rfl, hok, Mono.rfl' _, by simp, hp, fun _ _ _ _ => rfl⟩
  | e :: l, ts, q, p, hok, hp, hall, hq, hm, h256 => by
    simp only [List.all_cons, Bool.and_eq_true] at hall
    simp only [List.length_cons] at hq hm h256
    have hr : recMay ⟨(q : Int) + 1, boot, p, e⟩ = true := by
      have h1 : nMay ((q : Int) + 1) = true := by simp only [nMay, decide_eq_true_eq]; omega
      have h2 := evPut_len hall.1
      simp [recMay, hall.1, h1, hb.1, hb.2, hp]
      omega
    obtain ⟨t, n, r1, r2, r3, r4, r5, r6, r7⟩ := recPut_step hr hok (by omega) (by omega)
    have hn : nMay (n : Int) = true := by simp only [nMay, decide_eq_true_eq]; omega
    obtain ⟨t2, ss, p', s1, s2, s3, s4, s5, s6⟩ := jRecs_chain hb l (q := q + 1) (p := n) r2 hn hall.2 (by omega) (by omega) (by omega)
    have hc : ((q + 1 : Nat) : Int) = (q : Int) + 1 := by omega
    refine ⟨t2, pad (recBody ⟨(q : Int) + 1, boot, p, e⟩ ++ nS (n : Int)) :: ss, p', ?_, s2, r7.trans s3, by simp; omega, s5, fun k hk hkl hg => ?_⟩
    · rw [jRecs_cons r1, if_pos rfl, ← hc, s1]
      rfl
    · simp only [List.length_cons] at hkl
      refine ⟨by omega, ⟨(q : Int) + 1, boot, p, e⟩, n, ?_, rfl, s6 k hk (by omega) fun i hi => ?_⟩
      · have h0 := hg 0 (by simp)
        simp only [Nat.add_zero, List.getD_cons_zero] at h0
        rw [h0]
        exact recGet_own s2.nd hr hn (s3 _ _ r3) r4
      · have := hg (i + 1) (by simp; omega)
        have e1 : 2 + q + (i + 1) = 2 + (q + 1) + i := by omega
        rw [e1] at this
        rw [this]
        simp
end Go.AI

/- Journals: the boot's sectors; a journal that is appended to and opened again, plainly. -/
set_option linter.all false
namespace Go.AI
theorem sGet_m {ts ts' : List Bs} {s : Bs} {x : Int} (hn : ts.Nodup) (hn' : ts'.Nodup) (hk : Mono ts ts') (h : sGet ts s = (x, 0)) : sGet ts' s = (x, 0) := by
  unfold sGet at h ⊢
  split at h
  · simp at h
  · rename_i h1
    rw [if_neg h1]
    split at h
    · simp at h
    · rename_i h2
      rw [if_neg h2]
      split at h
      · simp at h
      · rename_i h3
        rw [if_neg, h]
        rintro (h4 | h4 | h4 | h4)
        · exact h3 (.inl h4)
        · exact h3 (.inr (.inl h4))
        · cases hc : cIs ts (supT (gNum s 0).1) (gNum s (gNum s 0).2.1).1 with
          | false => exact h3 (.inr (.inr (.inl hc)))
          | true =>
            rw [(cIs_iff hn').2 (hk _ _ ((cIs_iff hn).1 hc))] at h4
            simp at h4
        · exact h3 (.inr (.inr (.inr h4)))
theorem sGet_z (ts : List Bs) : sGet ts zSec = (0, 1000) := by
  have h1 : (gNum zSec 0).2.2 = 0 := by decide +kernel
  have h2 : (gNum zSec (gNum zSec 0).2.1).2.2 = 0 := by decide +kernel
  have h3 : bootMay (gNum zSec 0).1 = false := by decide +kernel
  unfold sGet
  rw [if_neg (by simp [h1]), if_neg (by simp [h2]), if_pos (.inr (.inl h3))]
/-- What the boot's sectors tell. -/
def SupI (ts : List Bs) (one two : Bs) (b : Int) : Prop :=
  (b = 0 ∧ one = zSec ∧ two = zSec) ∨ (b = 1 ∧ sGet ts one = (1, 0) ∧ two = zSec) ∨ (2 ≤ b ∧ sGet ts one = (b, 0) ∧ sGet ts two = (b - 1, 0)) ∨ (2 ≤ b ∧ sGet ts two = (b, 0) ∧ sGet ts one = (b - 1, 0))
theorem SupI.mono {ts t : List Bs} {one two : Bs} {b : Int} (hn : ts.Nodup) (hn' : t.Nodup) (hm : Mono ts t) (h : SupI ts one two b) : SupI t one two b := by
  rcases h with h | ⟨h1, h2, h3⟩ | ⟨h1, h2, h3⟩ | ⟨h1, h2, h3⟩
  · exact .inl h
  · exact .inr (.inl ⟨h1, sGet_m hn hn' hm h2, h3⟩)
  · exact .inr (.inr (.inl ⟨h1, sGet_m hn hn' hm h2, sGet_m hn hn' hm h3⟩))
  · exact .inr (.inr (.inr ⟨h1, sGet_m hn hn' hm h2, sGet_m hn hn' hm h3⟩))
/-- The next boot. -/
theorem SupI.next {ts : List Bs} {one two : Bs} {b : Int} (h : SupI ts one two b) : ∃ at_ e, sPick ts one two = (b, at_, e) ∧ (at_ = 0 ∨ at_ = 1) ∧
    ∀ (t : List Bs) (s : Bs), ts.Nodup → t.Nodup → Mono ts t → sGet t s = (b + 1, 0) → SupI t (if at_ = 0 then s else one) (if at_ = 1 then s else two) (b + 1) := by
  have z := sGet_z ts
  rcases h with ⟨rfl, rfl, rfl⟩ | ⟨rfl, h2, rfl⟩ | ⟨h1, h2, h3⟩ | ⟨h1, h2, h3⟩
  · refine ⟨0, 1001, by simp [sPick, z], .inl rfl, fun t s hn hn' hm hs => .inr (.inl ⟨rfl, by simpa using hs, by simp⟩)⟩
  · refine ⟨1, 0, by simp [sPick, z, h2], .inr rfl, fun t s hn hn' hm hs => .inr (.inr (.inr ⟨by omega, by simpa using hs, by simpa using sGet_m hn hn' hm h2⟩))⟩
  · refine ⟨1, 0, ?_, .inr rfl, fun t s hn hn' hm hs => .inr (.inr (.inr ⟨by omega, by simpa using hs, ?_⟩))⟩
    · have : b - 1 ≤ b := by omega
      simp [sPick, h2, h3, this]
    · have : b + 1 - 1 = b := by omega
      rw [this]; simpa using sGet_m hn hn' hm h2
  · refine ⟨0, 0, ?_, .inl rfl, fun t s hn hn' hm hs => .inr (.inr (.inl ⟨by omega, by simpa using hs, ?_⟩))⟩
    · have : ¬ b ≤ b - 1 := by omega
      simp [sPick, h2, h3, this]
    · have : b + 1 - 1 = b := by omega
      rw [this]; simpa using sGet_m hn hn' hm h2
theorem dPut_jWs : ∀ (ss : List Bs) (k : List Bs) (q i : Nat), q + ss.length ≤ k.length → (dPut k (jWs q ss)).getD i [] = if q ≤ i ∧ i < q + ss.length then ss.getD (i - q) [] else k.getD i []
  | [], k, q, i, _ => by
    rw [if_neg (by simp only [List.length_nil]; omega)]; rfl
  | s :: r, k, q, i, hk => by
    simp only [List.length_cons] at hk
    have e1 : dPut k (jWs q (s :: r)) = dPut (k.set q s) (jWs ((q + 1 : Nat) : Int) r) := by
      have hc : ((q + 1 : Nat) : Int) = (q : Int) + 1 := by omega
      rw [hc]; simp [dPut, jWs]
    rw [e1, dPut_jWs r (k.set q s) (q + 1) i (by rw [List.length_set]; omega)]
    by_cases h1 : q + 1 ≤ i ∧ i < q + 1 + r.length
    · rw [if_pos h1, if_pos (by simp only [List.length_cons]; omega)]
      obtain ⟨j, hj⟩ : ∃ j, i - q = j + 1 := ⟨i - q - 1, by omega⟩
      have hj2 : i - (q + 1) = j := by omega
      rw [hj, hj2]; simp
    · rw [if_neg h1]
      by_cases h2 : i = q
      · subst h2
        rw [if_pos (by simp only [List.length_cons]; omega)]
        simp [List.getD_eq_getElem?_getD, List.getElem?_set_self (show i < k.length by omega)]
      · rw [if_neg (by simp only [List.length_cons]; omega)]
        simp [List.getD_eq_getElem?_getD, List.getElem?_set_ne (Ne.symm h2)]
/-- A journal and what lies below it. -/
structure JInv (m : Int) (ts k : List Bs) (J : JS) : Prop where
  ok : bOk m ts
  dk : dOk k []
  chain : ChainFrom ts k 0 0 J.es J.prev
  sup : SupI ts (k.getD 0 []) (k.getD 1 []) J.boot
  prev : nMay J.prev = true
  fits : J.es.length + 2 ≤ k.length
  up : J.over = false
theorem JInv.fresh {m : Int} (hm : 1 ≤ m ∧ m ≤ 65536) {n : Int} (hn : 3 ≤ n ∧ n ≤ 256) : JInv m [] (List.replicate n.toNat zSec) ⟨0, 0, [], false⟩ := by
  refine ⟨bOk_nil hm, dOk_new (by omega), rfl, .inl ⟨rfl, ?_, ?_⟩, rfl, by simp; omega, rfl⟩
  · rw [List.getD_eq_getElem?_getD, List.getElem?_replicate, if_pos (by omega)]; rfl
  · rw [List.getD_eq_getElem?_getD, List.getElem?_replicate, if_pos (by omega)]; rfl
theorem JInv.append {m : Int} {ts k : List Bs} {J : JS} (h : JInv m ts k J) (hb : 1 ≤ J.boot ∧ nMay J.boot = true) {l : List Ev} (hl : l.all evMay = true) (hf : J.es.length + l.length + 2 ≤ k.length) (hm : 256 ≤ m) (ht : ts.length + l.length ≤ 256) :
    ∃ t ss p, jPut m ts J k.length false l = (t, ss, p, 0) ∧ t.length ≤ ts.length + l.length ∧ Mono ts t ∧ ss.length = l.length ∧ (∀ s ∈ ss, s.length = 64) ∧ jRecs m J.boot ts J.es.length J.prev l = (t, ss, p, true) ∧
      JInv m t (dPut k ([] ++ jWs (2 + (J.es.length : Int)) ss)) ⟨J.boot, p, J.es ++ l, J.over⟩ ∧ ∀ i, (i < 2 + J.es.length ∨ 2 + J.es.length + l.length ≤ i) → (dPut k ([] ++ jWs (2 + (J.es.length : Int)) ss)).getD i [] = k.getD i [] := by
  have hsz := h.dk.size
  obtain ⟨t, ss, p, s1, s2, s3, s4, s5, s6⟩ := jRecs_chain hb l (q := J.es.length) h.ok h.prev hl (by omega) (by omega) ht
  obtain ⟨l1, l2⟩ := jRecs_len l s1
  have hp : jPut m ts J k.length false l = (t, ss, p, 0) := by
    unfold jPut
    rw [if_neg (by simp [h.up]), if_pos hl, if_neg (by omega), s1]
    rfl
  have hd2 := ((jPut_facts hp h.dk).2 rfl).2.2.2.2.2
  have hd3 := dOk_put hd2
  have hc : (2 + (J.es.length : Int)) = ((2 + J.es.length : Nat) : Int) := by omega
  have hget : ∀ i, (dPut k ([] ++ jWs (2 + (J.es.length : Int)) ss)).getD i [] = if 2 + J.es.length ≤ i ∧ i < 2 + J.es.length + ss.length then ss.getD (i - (2 + J.es.length)) [] else k.getD i [] := fun i => by
    rw [List.nil_append, hc]; exact dPut_jWs ss k _ i (by omega)
  have hlen : (dPut k ([] ++ jWs (2 + (J.es.length : Int)) ss)).length = k.length := dPut_len _ _
  refine ⟨t, ss, p, hp, s4, s3, l1, l2, s1, ⟨s2, hd3, ?_, ?_, s5, ?_, h.up⟩, fun i hi => ?_⟩
  · refine ChainFrom.app J.es (h.chain.move h.ok.nd s2.nd s3 h.dk.full _ hlen fun j _ hj => ?_) ?_
    · rw [hget, if_neg (by omega)]
    · have e0 : 0 + J.es.length = J.es.length := by omega
      rw [e0]
      refine s6 _ hd3.full (by rw [hlen]; omega) fun i hi => ?_
      rw [hget, if_pos (by omega)]
      congr 1; omega
  · rw [hget, hget, if_neg (by omega), if_neg (by omega)]
    exact h.sup.mono h.ok.nd s2.nd s3
  · rw [hlen]; simp; omega
  · rw [hget, if_neg (by omega)]
theorem JInv.open' {m : Int} {ts k : List Bs} {J : JS} (h : JInv m ts k J) (hb : 0 ≤ J.boot ∧ J.boot ≤ 1000) (hsz : 3 ≤ k.length) (hm : (ts.length : Int) < m) (hend : ∀ t k' s, sPut m ts (J.boot + 1) = (t, s, 0) → bOk m t → Mono ts t → k'.length = k.length → (∀ i, 2 ≤ i → k'.getD i [] = k.getD i []) → EndAt t k' J.es.length J.prev) :
    ∃ t k' s0, sPut m ts (J.boot + 1) = (t, s0, 0) ∧ jOpen m ts k [] false = (t, k', [], .inr ⟨J.boot + 1, J.prev, J.es, false⟩) ∧ t.length ≤ ts.length + 1 ∧ Mono ts t ∧ JInv m t k' ⟨J.boot + 1, J.prev, J.es, false⟩ ∧ k'.length = k.length ∧ ∀ i, 2 ≤ i → k'.getD i [] = k.getD i [] := by
  obtain ⟨at_, e, p1, p2, p3⟩ := h.sup.next
  have hbm : bootMay (J.boot + 1) = true := by simp only [bootMay, decide_eq_true_eq]; omega
  obtain ⟨t, name, q1, q2, q3, q4, q5⟩ := sPut_at h.ok hbm hm
  have hok2 : bOk m t := by have := sPut_ok (boot := J.boot + 1) h.ok; rwa [q1] at this
  have hs := sGet_sec hok2.nd hbm q2 q3
  obtain ⟨s, hse⟩ : ∃ s, pad (nS (J.boot + 1) ++ nS name) = s := ⟨_, rfl⟩
  rw [hse] at q1 hs
  have hsl := sPut_sec q1
  have hd0 : dPut k [] = k := rfl
  have hd := h.dk.size
  have hlen : (k.set at_.toNat s).length = k.length := by simp
  have hget : ∀ i, i ≠ at_.toNat → (k.set at_.toNat s).getD i [] = k.getD i [] := fun i hi => by
    simp [List.getD_eq_getElem?_getD, List.getElem?_set_ne (Ne.symm hi)]
  have hget2 : (k.set at_.toNat s).getD at_.toNat [] = s := by
    simp [List.getD_eq_getElem?_getD, List.getElem?_set_self (show at_.toNat < k.length by omega)]
  have hg2 : ∀ i, 2 ≤ i → (k.set at_.toNat s).getD i [] = k.getD i [] := fun i hi => hget i (by omega)
  have hch := h.chain.move h.ok.nd hok2.nd q5 h.dk.full J.es (k' := k.set at_.toNat s) hlen fun j hj _ => hg2 j (by omega)
  have he := hend t (k.set at_.toNat s) s q1 hok2 q5 hlen hg2
  have hld : jLoad t (k.set at_.toNat s) k.length 0 [] = (J.prev, J.es) := by
    have := h.fits
    rw [jLoad_chain J.es k.length 0 J.prev [] hch (by omega)]
    simpa using jLoad_end he _
  refine ⟨t, k.set at_.toNat s, s, q1, ?_, q4, q5, ⟨hok2, ?_, hch, ?_, h.prev, by rw [hlen]; exact h.fits, rfl⟩, hlen, hg2⟩
  · unfold jOpen
    rw [if_neg (by simp), if_neg (by omega), hd0, p1]
    dsimp only
    rw [q1]
    dsimp only
    rw [if_pos rfl, hld]
  · have := dOk_put (dOk_write h.dk (x := at_) (s := s) ⟨by omega, by omega, hsl⟩)
    rw [dPut_snoc, hd0] at this
    exact this
  · have := p3 t s h.ok.nd hok2.nd q5 hs
    rcases p2 with rfl | rfl
    · have g0 := hget2
      have g1 := hget 1 (by decide)
      simp only [Int.toNat_zero] at g0 g1 ⊢
      rw [g0, g1]
      simpa using this
    · have g1 := hget2
      have g0 := hget 0 (by decide)
      have e1 : (1 : Int).toNat = 1 := rfl
      rw [e1] at g0 g1 ⊢
      rw [g0, g1]
      simpa using this
theorem JInv.open {m : Int} {ts k : List Bs} {J : JS} (h : JInv m ts k J) (hb : 0 ≤ J.boot ∧ J.boot ≤ 1000) (hsz : 3 ≤ k.length) (hm : (ts.length : Int) < m) (hend : ∀ t k', bOk m t → Mono ts t → k'.length = k.length → (∀ i, 2 ≤ i → k'.getD i [] = k.getD i []) → EndAt t k' J.es.length J.prev) :
    ∃ t k', jOpen m ts k [] false = (t, k', [], .inr ⟨J.boot + 1, J.prev, J.es, false⟩) ∧ t.length ≤ ts.length + 1 ∧ Mono ts t ∧ JInv m t k' ⟨J.boot + 1, J.prev, J.es, false⟩ ∧ k'.length = k.length ∧ ∀ i, 2 ≤ i → k'.getD i [] = k.getD i [] := by
  obtain ⟨t, k', _, _, h1⟩ := h.open' hb hsz hm fun t k' _ _ h1 h2 h3 h4 => hend t k' h1 h2 h3 h4
  exact ⟨t, k', h1⟩
end Go.AI

/- JournalForms. -/
set_option linter.all false
namespace Go.AI
variable {A : Type} {R : Adts A}
def ev3 : Ev := ⟨0, 0, 0, 0, 0, 0, 0, 3⟩
def jf0 := jOpen 99 [] (List.replicate 6 zSec) [] false
def jf1 := jPut 99 jf0.1 ⟨1, 0, [], false⟩ 6 false [ev3]
def jfP := dPut jf0.2.1 ([] ++ jWs (2 + ((0 : Nat) : Int)) jf1.2.1)
def FormJ (H : AHeap A) (t1 : List Bs) (size : Nat) (vs : List AVal) (g : AHeap A) : Prop :=
  ∃ (l : List Ev) (want : Int), jPut 99 t1 ⟨1, 1, [ev3], false⟩ size false l = (t1, [], 0, want) ∧ want ≠ 0 ∧ l.length ≤ 5 ∧ vs = [.sl H.length 0 l.length l.length true, .int .i64 want] ∧ g = H ++ [.cells t_api_Event (l.flatMap Ev.row)]
theorem jPut_form {m : Int} {ts : List Bs} {J : JS} {n : Nat} {l : List Ev} (h0 : J.over = false) (h : l.all evMay = false) : jPut m ts J n false l = (ts, [], 0, 1100) := by
  unfold jPut
  rw [if_neg (by simp [h0]), h, if_neg (by simp)]
theorem jPut_full {m : Int} {ts : List Bs} {J : JS} {n : Nat} {l : List Ev} (h0 : J.over = false) (h : l.all evMay = true) (h1 : (n : Int) - 2 - J.es.length < l.length) : jPut m ts J n false l = (ts, [], 0, 1101) := by
  unfold jPut
  rw [if_neg (by simp [h0]), if_pos h, if_pos h1]
theorem jPut_none {m : Int} {ts : List Bs} {J : JS} {n : Nat} (h0 : J.over = false) (h1 : J.es.length + 2 ≤ n) : jPut m ts J n false [] = (ts, [], J.prev, 0) := by
  unfold jPut
  rw [if_neg (by simp [h0]), if_pos (show ([] : List Ev).all evMay = true from rfl), if_neg (by simp; omega)]
  rfl
theorem jPut_down {m : Int} {ts : List Bs} {J : JS} {n : Nat} {l : List Ev} : jPut m ts J n true l = (ts, [], 0, 1102) := by
  unfold jPut
  rw [if_pos (.inr rfl)]
section
variable {bk rbk : Int → List Bs → A} {dk rdk : List Bs → Ws → Bool → A} {jm : Nat → Nat → JS → A}
theorem JournalForms_ok (hR : R.Ok) (hB : HasBook R bk) (hB' : HasRBook R rbk) (hD : HasDisk R dk) (hD' : HasRDisk R rdk) (hJ : HasJrn R jm) (which x : Int) : Tri Pr R n_law11_JournalForms [.int .i64 which, .int .i64 x] [] fun u _ => u = .bool true := by
  apply c_law11_JournalForms
  unfold p_law11_JournalForms
  have b0 : bOk 99 [] := bOk_nil (by omega)
  have d0 : dOk (List.replicate 6 zSec) [] := dOk_new (n := 6) (by omega)
  have d02 : dOk (List.replicate 2 zSec) [] := dOk_new (n := 2) (by omega)
  have q0 : jOpen 99 [] (List.replicate 6 zSec) [] false = (jf0.1, jf0.2.1, [], .inr ⟨1, 0, [], false⟩) := by decide +kernel
  have q02 : jOpen 99 [] (List.replicate 2 zSec) [] false = ([], List.replicate 2 zSec, [], .inl 1100) := by decide +kernel
  have q1 : jPut 99 jf0.1 ⟨1, 0, [], false⟩ jf0.2.1.length false [ev3] = (jf1.1, jf1.2.1, 1, 0) := by decide +kernel
  have n0 : jf0.2.1.length = 6 := by decide +kernel
  have nP : jfP.length = 6 := by decide +kernel
  have b1 := jOpen_ok b0 q0
  have d1 := (jOpen_dok d0 q0).1
  have b2 := jPut_bok b1 q1
  have d2 : dOk jfP [] := dOk_put ((jPut_facts q1 d1).2 rfl).2.2.2.2.2
  have eP : dPut jf0.2.1 ([] ++ jWs (2 + ((0 : Nat) : Int)) jf1.2.1) = jfP := rfl
  have eP2 : dPut jfP ([] ++ jWs (2 + ((1 : Nat) : Int)) []) = jfP := rfl
  have eK : dLost 0 0 jfP [] = jfP := rfl
  generalize jf0.1 = t0 at *
  generalize jf0.2.1 = k0 at *
  generalize jf1.1 = t1 at *
  generalize jf1.2.1 = s1 at *
  generalize jfP = kP at *
  have q3 := jPut_none (m := 99) (ts := t1) (J := ⟨1, 1, [ev3], false⟩) (n := kP.length) rfl (by simp; omega)
  have q4 := jPut_down (m := 99) (ts := t1) (J := ⟨1, 1, [ev3], false⟩) (n := kP.length) (l := [ev0])
  have q5 : jOpen 99 t1 kP [] true = (t1, kP, [], .inl 1102) := rfl
  refine awake11_ok hR hB hB' hD hD' hJ ?_
  simp -implicitDefEqProofs
  rw [bits_mask x 10 (by omega) 1023 (by decide)]
  obtain ⟨x0, hx0, x1, x2⟩ : ∃ d, x % 2 ^ 10 = d ∧ 0 ≤ d ∧ d < 1024 := ⟨_, rfl, by omega, by omega⟩
  rw [hx0]
  have w1 := w64 (n := 1 + x0) (by omega)
  have w2 := w64 (n := 9 + (1 + x0)) (by omega)
  have w3 := w64 (n := -(1 + x0)) (by omega)
  simp -implicitDefEqProofs [w1]
  refine law11_twin_ok hR hB hB' 99 ?_
  rw [if_pos (by omega)]
  simp -implicitDefEqProofs
  refine pair11_ok hR hD hD' (n := 2) (by omega) rfl ?_
  have e2 : (2 : Int).toNat = 2 := rfl
  rw [e2]
  generalize List.replicate 2 zSec = z2 at *
  simp -implicitDefEqProofs
  refine pair11_ok hR hD hD' (n := 6) (by omega) rfl ?_
  have e6 : (6 : Int).toNat = 6 := rfl
  rw [e6]
  generalize List.replicate 6 zSec = z6 at *
  simp -implicitDefEqProofs
  refine Open_nild hR ?_
  simp -implicitDefEqProofs
  refine Open_ok hR hB hD hJ b0 d02 (by simp) q02 rfl rfl (by decide) ?_
  simp -implicitDefEqProofs
  refine Open_ok hR hB hD hJ b0 d0 (by simp) q0 rfl rfl (by decide) ?_
  simp -implicitDefEqProofs
  refine num14_ok ?_
  simp -implicitDefEqProofs
  refine Room_ok hR hB hD hJ (J := ⟨1, 0, [], false⟩) (b := 0) (d := 4) (j := 6) (k := k0) (by omega) (by simp) rfl rfl rfl (by decide) ?_
  rw [n0]
  simp -implicitDefEqProofs
  refine Append_at (l := [ev3]) hR hB hD hJ b1 d1 (by simp) (by simp) (by simp) q1 eP rfl rfl rfl (by decide) (EvsAt.at rfl rfl (by decide)) ?_
  simp -implicitDefEqProofs
  refine joinP_all (FormJ [.adt (bk 99 t1), .adt (rbk 99 []), .adt (dk z2 [] false), .adt (rdk z2 [] false), .adt (dk kP [] false), .adt (rdk z6 [] false), .adt (jm 0 4 ⟨1, 1, [ev3], false⟩), .cells t_api_Event ev3.row] t1 kP.length) ?_ ?_
  · obtain ⟨k, hk, k0', k9⟩ : ∃ k, (IntKind.u64.wrap which).tmod 4 = k ∧ 0 ≤ k ∧ k < 4 := by
      have h1 : 0 ≤ IntKind.u64.wrap which := by simp [IntKind.wrap, IntKind.signed, IntKind.bits]; omega
      exact ⟨_, rfl, Int.tmod_nonneg _ h1, Int.tmod_lt_of_pos _ (by omega)⟩
    have hm9 : evMay ⟨9 + (1 + x0), 0, 0, 0, 0, 0, 0, 0⟩ = false := by
      have : ¬ (0 ≤ 9 + (1 + x0) ∧ 9 + (1 + x0) ≤ 9) := by omega
      simp [evMay, this]
    have hmt : evMay ⟨0, 0, 0, 0, 0, 0, 0, -(1 + x0)⟩ = false := by
      have : nMay (-(1 + x0)) = false := by simp [nMay]; omega
      simp [evMay, evParts, this]
    have hmu : evMay ⟨0, 1 + x0, 0, 0, 0, 0, 0, 0⟩ = false := by
      have : ¬ (1 + x0 = 0) := by omega
      simp [evMay, evPlain, evOf, evParts, ev0, this]
    simp -implicitDefEqProofs [hk, w2, w3]
    refine iteP_of (fun _ => ?_) (fun _ => iteP_of (fun _ => ?_) (fun _ => iteP_of (fun _ => ?_) (fun _ => ?_)))
    · exact ⟨[ev0, ⟨9 + (1 + x0), 0, 0, 0, 0, 0, 0, 0⟩], 1100, jPut_form rfl (by simp [hm9]), by decide, by simp, rfl, rfl⟩
    · exact ⟨[⟨0, 0, 0, 0, 0, 0, 0, -(1 + x0)⟩], 1100, jPut_form rfl (by simp [hmt]), by decide, by simp, rfl, rfl⟩
    · exact ⟨[ev0, ev0, ev0, ev0], 1101, jPut_full rfl (by decide) (by rw [nP]; decide), by decide, by simp, rfl, rfl⟩
    · exact ⟨[ev0, ev0, ev0, ev0, ⟨0, 1 + x0, 0, 0, 0, 0, 0, 0⟩], 1100, jPut_form rfl (by simp [hmu]), by decide, by simp, rfl, rfl⟩
  rintro _ _ ⟨l, want, hp, hw0, hll, rfl, rfl⟩
  refine ⟨by simp, ?_⟩
  simp -implicitDefEqProofs
  refine Append_bad (l := l) hR hB hD hJ b2 d2 (by simp) (by simp) (by omega) hp hw0 (b := 0) (d := 4) (j := 6) rfl rfl rfl (by decide) (EvsAt.at rfl rfl (by decide)) ?_
  simp -implicitDefEqProofs
  refine Write_bad (l := l) hR hB hD hJ b2 d2 (by simp) (by simp) (by omega) hp hw0 (b := 0) (d := 4) (j := 6) rfl rfl rfl (by decide) (EvsAt.at rfl rfl (by decide)) ?_
  simp -implicitDefEqProofs
  refine Append_at (l := []) hR hB hD hJ b2 d2 (by simp) (by simp) (by simp) q3 eP2 (b := 0) (d := 4) (j := 6) rfl rfl rfl (by decide) (.inl ⟨rfl, rfl⟩) ?_
  simp -implicitDefEqProofs
  refine disk_Crash_at hR hD d2 (by simp) (by omega) eK rfl ?_
  simp -implicitDefEqProofs
  refine Append_bad (l := [ev0]) hR hB hD hJ b2 d2 (by simp) (by simp) (by simp) q4 (by decide) (b := 0) (d := 4) (j := 6) rfl rfl rfl (by decide) (EvsAt.at rfl rfl (by decide)) ?_
  simp -implicitDefEqProofs
  refine Open_ok hR hB hD hJ b2 d2 (by simp) q5 rfl rfl (by decide) ?_
  simp -implicitDefEqProofs
  repeat (refine num14_ok ?_; simp -implicitDefEqProofs)
  refine Events_at hR hB hD hJ (J := ⟨1, 1, [ev3], false⟩) (b := 0) (d := 4) (j := 6) (by simp) (by simp) rfl rfl rfl (by decide) ?_
  simp -implicitDefEqProofs
  refine SameEvents_ok hR (l := [ev3]) (r := [ev3]) (Rd.sl [ev3] 10 _ _ rfl) (Rd.sl [ev3] 11 _ _ rfl) (by simp) ?_
  simp -implicitDefEqProofs
  refine Room_ok hR hB hD hJ (J := ⟨1, 1, [ev3], false⟩) (b := 0) (d := 4) (j := 6) (k := kP) (by omega) (by simp) rfl rfl rfl (by decide) ?_
  rw [nP]
  simp -implicitDefEqProofs
end
end Go.AI

/- JournalRoom. -/
set_option linter.all false
namespace Go.AI
variable {A : Type} {R : Adts A}
def evS (s : Int) : Ev := ⟨9, 0, s, 0, 0, 0, 0, 0⟩
theorem evS_may {s : Int} (h : 0 ≤ s ∧ s ≤ 1073741823) : evMay (evS s) = true := by
  have : nMay s = true := by simp only [nMay, decide_eq_true_eq]; exact h
  simp [evS, evMay, evParts, evPlain, evOf, ev0, this]
theorem app_ev {base h : AHeap A} {es : List Ev} {e : Ev} {G : AHeap A} {x : AVal} {j : Nat} (hn : es.length ≤ 9000) (hx : x = NewEvs es base.length) (hh : h = base ++ (jEvs es ++ (G ++ [.cells t_api_Event e.row]))) (hj : j = base.length + (jEvs es : AHeap A).length + G.length) {K : AVal → AHeap A → Prop}
    (hk : ∀ mid : AHeap A, K (.sl (base.length + mid.length) 0 (es.length + 1) (es.length + 1) false) (base ++ (mid ++ [.cells t_api_Event ((es ++ [e]).flatMap Ev.row)]))) : appP t_api_Event 8 64 x (.sl j 0 1 1 true) h K := by
  subst hx hh hj
  have hat : (base ++ (jEvs es ++ (G ++ [.cells t_api_Event e.row])) : AHeap A)[base.length + (jEvs es : AHeap A).length + G.length]? = some (.cells t_api_Event e.row) := by
    rw [List.getElem?_append_right (by omega), List.getElem?_append_right (by omega), List.getElem?_append_right (by omega)]
    have : base.length + (jEvs es : AHeap A).length + G.length - base.length - (jEvs es : AHeap A).length - G.length = 0 := by omega
    rw [this]; rfl
  have hsrc : srcOf 8 (base ++ (jEvs es ++ (G ++ [.cells t_api_Event e.row])) : AHeap A) (.sl (base.length + (jEvs es : AHeap A).length + G.length) 0 1 1 true) = some (1, e.row) := by
    simp only [srcOf, cellsAt, hat, Option.bind_some, AObj.read]
    rfl
  unfold appP appV
  rw [hsrc]
  dsimp only
  by_cases h0 : es = []
  · subst h0
    simp only [NewEvs, jEvs, if_true, List.nil_append]
    rw [if_neg (by omega), if_pos (by omega)]
    simp only [optH]
    have := hk (G ++ [.cells t_api_Event e.row])
    simpa using this
  · have hr := room_64 (n := es.length + 1) (by omega)
    have hl := evs_len es
    have hat2 : (base ++ (jEvs es ++ (G ++ [.cells t_api_Event e.row])) : AHeap A)[base.length]? = some (.cells t_api_Event (es.flatMap Ev.row)) := by
      rw [List.getElem?_append_right (by omega)]
      simp [jEvs, h0]
    have hX : NewEvs es base.length = .sl base.length 0 es.length es.length false := by simp [NewEvs, h0]
    rw [hX]
    dsimp only
    rw [if_neg (by omega), hat2]
    dsimp only
    rw [if_pos ⟨by omega, by omega, .inr hr⟩, if_neg (by simp), if_pos ⟨rfl, by omega, rfl⟩]
    simp only [optH]
    have t1 : ((es.flatMap Ev.row).drop 0).take (es.length * 8) ++ e.row = (es ++ [e]).flatMap Ev.row := by
      rw [List.drop_zero, List.take_of_length_le (by omega), List.flatMap_append]; simp
    rw [t1]
    have e1 : (base ++ (jEvs es ++ (G ++ [.cells t_api_Event e.row])) : AHeap A).set base.length .dead = base ++ (.dead :: (G ++ [.cells t_api_Event e.row]) : AHeap A) := by
      simp [jEvs, h0]
    rw [e1]
    have := hk (.dead :: (G ++ [.cells t_api_Event e.row]))
    have e2 : base.length + (AObj.dead :: (G ++ [.cells t_api_Event e.row]) : AHeap A).length = (base ++ (.dead :: (G ++ [.cells t_api_Event e.row])) : AHeap A).length := by simp
    rw [e2] at this
    have hjl : (jEvs es : AHeap A).length = 1 := by simp [jEvs, h0]
    have e3 : List.length base + (List.length (jEvs es : AHeap A) + (List.length G + 1)) = List.length base + (List.length G + 1 + 1) := by omega
    simp only [List.length_append, List.length_cons, List.length_nil, List.append_assoc, List.cons_append, List.nil_append] at this ⊢
    simp only [Nat.zero_add] at this ⊢
    rw [e3]
    exact this
theorem EvsAt.new {es : List Ev} {p : Nat} {h : AHeap A} {x : Nat → Prop} (hq : es ≠ [] → h[p]? = some (.cells t_api_Event (es.flatMap Ev.row))) (hx : x p) : EvsAt (NewEvs es p) es h x := by
  unfold NewEvs
  by_cases h0 : es = []
  · rw [if_pos h0]; exact .inl ⟨rfl, h0⟩
  · rw [if_neg h0]; exact EvsAt.at (hq h0) rfl hx
theorem Rd.new {es : List Ev} {p : Nat} {h : AHeap A} (hq : es ≠ [] → h[p]? = some (.cells t_api_Event (es.flatMap Ev.row))) : Rd (NewEvs es p) es h := by
  unfold NewEvs
  by_cases h0 : es = []
  · rw [if_pos h0]; subst h0; exact Rd.nil h
  · rw [if_neg h0]; exact Rd.sl es p _ _ (hq h0)
/-- Behind the records the disk is as it was made. -/
def ZTail (k : List Bs) (n : Nat) : Prop := ∀ j, n ≤ j → j < k.length → k.getD j [] = zSec
theorem ZTail.end {k : List Bs} {n : Nat} (h : ZTail k (2 + n)) (p : Int) : ∀ t k' : List Bs, k'.length = k.length → (∀ i, 2 ≤ i → k'.getD i [] = k.getD i []) → EndAt t k' n p := by
  intro t k' hl hg h1
  rw [hg _ (by omega), h _ (by omega) (by omega), recGet_z]
  simp
theorem ZTail.fresh (n : Nat) (j : Nat) : ZTail (List.replicate n zSec) j := by
  intro i _ hi
  rw [List.length_replicate] at hi
  rw [List.getD_eq_getElem?_getD, List.getElem?_replicate, if_pos hi]; rfl
section
variable {bk rbk : Int → List Bs → A} {dk rdk : List Bs → Ws → Bool → A} {jm : Nat → Nat → JS → A}
/-- The five objects of a law: books, disks, the journal. -/
def base5 (bk rbk : Int → List Bs → A) (dk rdk : List Bs → Ws → Bool → A) (jm : Nat → Nat → JS → A) (ts k kz : List Bs) (J : JS) : AHeap A :=
  [.adt (bk 65536 ts), .adt (rbk 65536 []), .adt (dk k [] false), .adt (rdk kz [] false), .adt (jm 0 2 J)]
theorem base5_low (hB : HasBook R bk) (hB' : HasRBook R rbk) (hD : HasDisk R dk) (hD' : HasRDisk R rdk) (hJ : HasJrn R jm) (ts k kz : List Bs) (J : JS) : ∀ o ∈ base5 bk rbk dk rdk jm ts k kz J, o.low R 5 := by
  intro o ho
  simp only [base5, List.mem_cons, List.not_mem_nil, or_false] at ho
  rcases ho with rfl | rfl | rfl | rfl | rfl
  · exact book_low hB _ _
  · exact rbook_low hB' _ _
  · exact ⟨disk_ix hD _ _ _ _, fun τ _ => disk_ren hD _ _ _ _⟩
  · exact ⟨rdisk_ix hD' _ _ _ _, fun τ _ => rdisk_ren hD' _ _ _ _⟩
  · exact ⟨jrn_ix hJ _ (by omega) (by omega), fun τ hτ => by rw [jrn_ren hJ, hτ 0 (by omega), hτ 2 (by omega)]⟩
theorem cut5 (hR : R.Ok) (hB : HasBook R bk) (hB' : HasRBook R rbk) (hD : HasDisk R dk) (hD' : HasRDisk R rdk) (hJ : HasJrn R jm) {ts k kz : List Bs} {J : JS} {X : AHeap A} {n : Nat} (hn : n ≤ 5) {vs : List AVal} {K : List AVal → AHeap A → Prop} (hv : ixs 5 vs = true) (hk : K vs (base5 bk rbk dk rdk jm ts k kz J)) : Gives Pr R n (base5 bk rbk dk rdk jm ts k kz J ++ X) vs K :=
  Gives.cut hR (m := 5) hn (by simp [base5]) hv (base5_low hB hB' hD hD' hJ ts k kz J) hk
theorem b5_0 (ts t k kz : List Bs) (J : JS) (X : AHeap A) : (base5 bk rbk dk rdk jm ts k kz J ++ X).set 0 (.adt (bk 65536 t)) = base5 bk rbk dk rdk jm t k kz J ++ X := rfl
theorem b5_2 (ts k k' kz : List Bs) (J : JS) (X : AHeap A) : (base5 bk rbk dk rdk jm ts k kz J ++ X).set 2 (.adt (dk k' [] false)) = base5 bk rbk dk rdk jm ts k' kz J ++ X := rfl
theorem b5_4 (ts k kz : List Bs) (J J' : JS) (X : AHeap A) : (base5 bk rbk dk rdk jm ts k kz J ++ X).set 4 (.adt (jm 0 2 J')) = base5 bk rbk dk rdk jm ts k kz J' ++ X := rfl
theorem b5_0' (ts t k kz : List Bs) (J : JS) : (base5 bk rbk dk rdk jm ts k kz J).set 0 (.adt (bk 65536 t)) = base5 bk rbk dk rdk jm t k kz J := rfl
theorem b5_2' (ts k k' kz : List Bs) (J : JS) : (base5 bk rbk dk rdk jm ts k kz J).set 2 (.adt (dk k' [] false)) = base5 bk rbk dk rdk jm ts k' kz J := rfl
theorem b5_4' (ts k kz : List Bs) (J J' : JS) : (base5 bk rbk dk rdk jm ts k kz J).set 4 (.adt (jm 0 2 J')) = base5 bk rbk dk rdk jm ts k kz J' := rfl
theorem b5_len (ts k kz : List Bs) (J : JS) : (base5 bk rbk dk rdk jm ts k kz J).length = 5 := rfl
theorem Events_new (hR : R.Ok) (hB : HasBook R bk) (hD : HasDisk R dk) (hJ : HasJrn R jm) {m : Int} {ts k : List Bs} {w : Ws} {dn : Bool} {J : JS} (hn : J.es.length ≤ 300) {h : AHeap A} {b d j : Nat} (hb : h[b]? = some (.adt (bk m ts))) (hd : h[d]? = some (.adt (dk k w dn))) (hj : h[j]? = some (.adt (jm b d J))) (hne : b ≠ d ∧ b ≠ j ∧ d ≠ j) {K : AVal → AHeap A → Prop}
    (hk : K (NewEvs J.es h.length) (h ++ jEvs J.es)) : Tri Pr R n_journal_Journal_Events [.ptr j 0] h K := by
  refine Events_ok hR hB hD hJ hn hb hd hj hne ?_
  unfold NewEvs jEvs at hk
  by_cases h0 : J.es = []
  · rw [if_pos h0] at hk ⊢; rw [if_pos h0, List.append_nil] at hk; exact hk
  · rw [if_neg h0] at hk ⊢; rw [if_neg h0] at hk; exact hk
theorem NewEvs_len (es : List Ev) (p : Nat) (K : AVal → Prop) : lenP (NewEvs es p) K = K (.int .i64 es.length) := by
  unfold NewEvs
  by_cases h0 : es = []
  · subst h0; simp
  · rw [if_neg h0]; simp
def RmI (bk rbk : Int → List Bs → A) (dk rdk : List Bs → Ws → Bool → A) (jm : Nat → Nat → JS → A) (kz : List Bs) (N n : Nat) (mm : Nat) (y : List AVal) (g : AHeap A) : Prop :=
  ∃ (i : Nat) (ts k : List Bs) (J : JS), y = [.int .i64 J.es.length, .int .i64 i] ∧ g = base5 bk rbk dk rdk jm ts k kz J ∧ JInv 65536 ts k J ∧ J.boot = 1 ∧ k.length = N ∧ ZTail k (2 + J.es.length) ∧ ts.length ≤ 1 + J.es.length ∧ i ≤ n ∧ i ≤ 30 ∧ mm = 30 - i
def RnI (base : AHeap A) (hv m : Nat) (mm : Nat) (y : List AVal) (g : AHeap A) : Prop :=
  ∃ p : Nat, y = [NewEvs ((List.range p).map fun (j : Nat) => evS ((hv : Int) + j)) base.length, .int .i64 p] ∧ g = base ++ jEvs ((List.range p).map fun (j : Nat) => evS ((hv : Int) + j)) ∧ p ≤ m ∧ mm = m - p
theorem JournalRoom_ok (hR : R.Ok) (hB : HasBook R bk) (hB' : HasRBook R rbk) (hD : HasDisk R dk) (hD' : HasRDisk R rdk) (hJ : HasJrn R jm) (sectors : Int) (a : AVal) (ps : List Int) (ha : IsInts a ps) : Tri Pr R n_law11_JournalRoom [.int .i64 sectors, a] [] fun u _ => u = .bool true := by
  apply c_law11_JournalRoom
  unfold p_law11_JournalRoom
  refine awake11_ok hR hB hB' hD hD' hJ ?_
  simp -implicitDefEqProofs
  refine law11_twin_ok hR hB hB' 65536 ?_
  rw [if_pos (by omega)]
  simp -implicitDefEqProofs
  rw [bits_mask sectors 5 (by omega) 31 (by decide)]
  obtain ⟨x0, hx0, x1, x2⟩ : ∃ d : Nat, sectors % 2 ^ 5 = (d : Int) ∧ d < 32 ∧ True := ⟨(sectors % 2 ^ 5).toNat, by omega, by omega, trivial⟩
  rw [hx0]
  have w1 := w64 (n := 3 + (x0 : Int)) (by omega)
  have w2 := w64 (n := 3 + (x0 : Int) - 2) (by omega)
  simp -implicitDefEqProofs [w1]
  refine pair11_ok hR hD hD' (n := 3 + x0) (by omega) rfl ?_
  have hfr : JInv 65536 [] (List.replicate (3 + (x0 : Int)).toNat zSec) ⟨0, 0, [], false⟩ := JInv.fresh (by omega) (by omega)
  have hzt : ZTail (List.replicate (3 + (x0 : Int)).toNat zSec) 2 := ZTail.fresh _ _
  have hkl : (List.replicate (3 + (x0 : Int)).toNat zSec).length = 3 + x0 := by rw [List.length_replicate]; omega
  generalize List.replicate (3 + (x0 : Int)).toNat zSec = kz at *
  obtain ⟨ts1, k1, o1, o2, o3, o4, o5, o6⟩ := hfr.open (by simp) (by omega) (by simp) fun t k' _ _ hl hg => ZTail.end (n := 0) (by simpa using hzt) 0 t k' hl hg
  simp only [Int.zero_add, List.length_nil, Nat.zero_add] at o1 o2 o4
  simp -implicitDefEqProofs
  refine Open_ok hR hB hD hJ hfr.ok hfr.dk (by simp) o1 rfl rfl (by decide) ?_
  simp -implicitDefEqProofs
  refine num14_ok ?_
  simp -implicitDefEqProofs [ha.len]
  refine loopP_go (RmI bk rbk dk rdk jm kz (3 + x0) ps.length) 30 (Gives.done (by simp) ⟨0, ts1, k1, ⟨1, 0, [], false⟩, rfl, rfl, o4, rfl, by omega, ?_, by simp; omega, by omega, by omega, rfl⟩) ?_
  · intro j hj hj2
    have : 2 ≤ j := by simpa using hj
    rw [o6 j this]; exact hzt j this (by omega)
  rintro mm y g ⟨i, ts, k, J, rfl, rfl, hI, hbt, hkn, hz, htl, hi1, hi2, rfl⟩
  have e1 := w64 (n := (i : Int) + 1) (by omega)
  have hfit := hI.fits
  have hlow := base5_low hB hB' hD hD' hJ
  by_cases h1 : i < ps.length ∧ i < 30
  · obtain ⟨h1, h2⟩ := h1
    have h1' : (i : Int) < (ps.length : Int) := by omega
    have h2' : (i : Int) < 30 := by omega
    obtain ⟨bb, oo, cs, hget⟩ := ha.get (n := (i : Int)) (by omega) h1'
    generalize ps.getD (i : Int).toNat 0 = pt at hget
    simp -implicitDefEqProofs [h1, h1', h2, h2', hget]
    rw [bits_mask pt 2 (by omega) 3 (by decide)]
    obtain ⟨m, hm, hm4⟩ : ∃ d : Nat, pt % 2 ^ 2 = (d : Int) ∧ d < 4 := ⟨(pt % 2 ^ 2).toNat, by omega, by omega⟩
    rw [hm]
    refine loopP_go (RnI (base5 bk rbk dk rdk jm ts k kz J) J.es.length m) m (Gives.done (by simp) ⟨0, by simp [NewEvs], by simp [jEvs], by omega, by omega⟩) ?_
    rintro mm y g ⟨p, rfl, rfl, hp, rfl⟩
    have e3 := w64 (n := (p : Int) + 1) (by omega)
    have e4 := w64 (n := (J.es.length : Int) + p) (by omega)
    have e5 := w64 (n := (J.es.length : Int) + m) (by omega)
    have hsl : ((List.range p).map fun (j : Nat) => evS ((J.es.length : Int) + j)).length = p := by simp
    by_cases hpm : p < m
    · have hpm' : (p : Int) < (m : Int) := by omega
      have hsn : (List.range (p + 1)).map (fun (j : Nat) => evS ((J.es.length : Int) + j)) = ((List.range p).map fun (j : Nat) => evS ((J.es.length : Int) + j)) ++ [evS ((J.es.length : Int) + p)] := by
        rw [List.range_succ, List.map_append]; rfl
      generalize hes : ((List.range p).map fun (j : Nat) => evS ((J.es.length : Int) + j)) = es at *
      simp -implicitDefEqProofs [hpm, hpm', e4, base5]
      refine app_ev (base := base5 bk rbk dk rdk jm ts k kz J) (e := evS ((J.es.length : Int) + p)) (G := []) (es := es) (by omega) (by rfl) (by simp [base5, evS, Ev.row]) (by simp [base5]; omega) fun mid => ?_
      simp -implicitDefEqProofs [e3]
      refine Gives.pick hR (base5 bk rbk dk rdk jm ts k kz J) mid (.cells t_api_Event ((es ++ [evS ((J.es.length : Int) + p)]).flatMap Ev.row)) _ [.sl 5 0 (es.length + 1) (es.length + 1) false, .int .i64 (p + 1)] (by simp) (by simp [base5]) (hlow ts k kz J) ?_ ?_ ?_ ?_
      · have := closed_cells (R := R) (t := t_api_Event) (evs_ix 0 (es ++ [evS ((J.es.length : Int) + p)]))
        exact ⟨this.1 _, this.2⟩
      · simp [rens, AVal.ren, base5]
      · simp [ixs, AVal.ix, base5]
      · exact ⟨m - (p + 1), by omega, p + 1, by rw [hsn]; simp [NewEvs, base5], by rw [hsn]; simp [jEvs, base5], by omega, rfl⟩
    · have hpm' : ¬ (p : Int) < (m : Int) := by omega
      obtain rfl : p = m := by omega
      have hall : ((List.range p).map fun (j : Nat) => evS ((J.es.length : Int) + j)).all evMay = true := by
        rw [List.all_eq_true]
        intro e he
        obtain ⟨j, hj, rfl⟩ := List.mem_map.1 he
        have := List.mem_range.1 hj
        exact evS_may (by omega)
      generalize hes : ((List.range p).map fun (j : Nat) => evS ((J.es.length : Int) + j)) = es at *
      have hix : EvsAt (NewEvs es 5) es (base5 bk rbk dk rdk jm ts k kz J ++ jEvs es) fun q => 0 ≠ q ∧ 2 ≠ q ∧ 4 ≠ q := EvsAt.new (fun h0 => by simp [base5, jEvs, h0]) (by decide)
      have hbl : (base5 bk rbk dk rdk jm ts k kz J).length = 5 := rfl
      rw [hbl]
      have w3 := w64 (n := 3 + (x0 : Int) - 2 - (J.es.length : Int)) (by omega)
      by_cases hfull : (J.es.length : Int) + p > 3 + (x0 : Int) - 2
      · have q1 := jPut_full (m := 65536) (ts := ts) (J := J) (n := k.length) (l := es) hI.up hall (by omega)
        have hfull' : 3 + (x0 : Int) - 2 < (J.es.length : Int) + p := by omega
        have hr0 : (k.length : Int) - 2 - J.es.length = 3 + (x0 : Int) - 2 - J.es.length := by omega
        simp -implicitDefEqProofs [hpm, hpm']
        refine Append_bad (l := es) (J := J) hR hB hD hJ hI.ok hI.dk (by simp) (by omega) (by omega) q1 (by decide) (b := 0) (d := 2) (j := 4) rfl rfl rfl (by decide) hix ?_
        simp only [b5_0]
        simp -implicitDefEqProofs [w2, e5]
        refine joinP_go ?_
        simp -implicitDefEqProofs [hfull']
        refine num14_ok ?_
        simp -implicitDefEqProofs
        refine Room_ok hR hB hD hJ (J := J) (b := 0) (d := 2) (j := 4) (k := k) (by omega) (by omega) rfl rfl rfl (by decide) ?_
        rw [hr0]
        simp -implicitDefEqProofs [w3]
        refine Events_new hR hB hD hJ (J := J) (b := 0) (d := 2) (j := 4) (by omega) rfl rfl rfl (by decide) ?_
        simp -implicitDefEqProofs [NewEvs_len, e1]
        exact cut5 hR hB hB' hD hD' hJ (by omega) (by simp [ixs, AVal.ix]) ⟨30 - (i + 1), by omega, i + 1, ts, k, J, rfl, rfl, hI, hbt, hkn, hz, htl, by omega, by omega, rfl⟩
      · obtain ⟨t, ss, q, a1, a2, a3, a4, a5, a6, a7, a8⟩ := hI.append (l := es) (by rw [hbt]; decide) hall (by omega) (by omega) (by omega)
        have hpe : es.length = p := hsl
        have hfull' : ¬ 3 + (x0 : Int) - 2 < (J.es.length : Int) + p := by omega
        obtain ⟨k2, hk2⟩ : ∃ k2, dPut k ([] ++ jWs (2 + (J.es.length : Int)) ss) = k2 := ⟨_, rfl⟩
        have hk2l : k2.length = k.length := by rw [← hk2, dPut_len]
        rw [hk2] at a7 a8
        have hr0 : (k2.length : Int) - 2 - (J.es ++ es).length = 3 + (x0 : Int) - 2 - (J.es.length + p) := by rw [List.length_append]; omega
        have w4 := w64 (n := 3 + (x0 : Int) - 2 - ((J.es.length : Int) + p)) (by omega)
        have hJe : ((J.es ++ es).length : Int) = (J.es.length : Int) + p := by rw [List.length_append]; omega
        simp -implicitDefEqProofs [hpm, hpm']
        refine Append_at (l := es) (J := J) hR hB hD hJ hI.ok hI.dk (by simp) (by omega) (by omega) a1 hk2 (b := 0) (d := 2) (j := 4) rfl rfl rfl (by decide) hix ?_
        simp only [b5_0, b5_2, b5_4]
        simp -implicitDefEqProofs [w2, e5]
        refine joinP_go ?_
        simp -implicitDefEqProofs [hfull']
        refine num14_ok ?_
        simp -implicitDefEqProofs
        refine Room_ok hR hB hD hJ (J := ⟨J.boot, q, J.es ++ es, J.over⟩) (b := 0) (d := 2) (j := 4) (k := k2) (by omega) (by simp; omega) rfl rfl rfl (by decide) ?_
        rw [hr0]
        simp -implicitDefEqProofs [w4]
        refine Events_new hR hB hD hJ (J := ⟨J.boot, q, J.es ++ es, J.over⟩) (b := 0) (d := 2) (j := 4) (by simp; omega) rfl rfl rfl (by decide) ?_
        dsimp only
        have hJe2 : ((J.es.length : Int) + es.length) = (J.es.length : Int) + p := by omega
        simp -implicitDefEqProofs [NewEvs_len, e1, hJe2]
        refine cut5 hR hB hB' hD hD' hJ (by omega) (by simp [ixs, AVal.ix]) ⟨30 - (i + 1), by omega, i + 1, t, k2, ⟨J.boot, q, J.es ++ es, J.over⟩, by simp [hJe2], rfl, a7, hbt, by omega, ?_, by simp; omega, by omega, by omega, rfl⟩
        intro j hj hj2
        have hj' : 2 + J.es.length + es.length ≤ j := by rw [List.length_append] at hj; omega
        rw [a8 j (.inr hj')]
        exact hz j (by omega) (by omega)
  · obtain ⟨ts2, k2, o1', o2', o3', o4', o5', o6'⟩ := hI.open (by rw [hbt]; decide) (by omega) (by omega) fun t k' _ _ hl hg => hz.end J.prev t k' hl hg
    have w3 := w64 (n := 3 + (x0 : Int) - 2 - (J.es.length : Int)) (by omega)
    have hr0 : (k2.length : Int) - 2 - J.es.length = 3 + (x0 : Int) - 2 - J.es.length := by omega
    have fin : Tri Pr R n_journal_Open [.ptr 0 0, .ptr 2 0] (base5 bk rbk dk rdk jm ts k kz J) fun v g => v = .tup [.ptr 5 0, .int .i64 0] ∧ g = base5 bk rbk dk rdk jm ts2 k2 kz J ++ [.adt (jm 0 2 ⟨J.boot + 1, J.prev, J.es, false⟩)] :=
      Open_ok hR hB hD hJ hI.ok hI.dk (by simp) o1' rfl rfl (by decide) ⟨rfl, rfl⟩
    have fin2 : ∀ K : AVal → AHeap A → Prop, (K (.tup [.ptr 5 0, .int .i64 0]) (base5 bk rbk dk rdk jm ts2 k2 kz J ++ [.adt (jm 0 2 ⟨J.boot + 1, J.prev, J.es, false⟩)])) → Tri Pr R n_journal_Open [.ptr 0 0, .ptr 2 0] (base5 bk rbk dk rdk jm ts k kz J) K := fun K hK => fin.mono (by rintro _ _ ⟨rfl, rfl⟩; exact hK)
    by_cases c1 : i < ps.length
    · have c1' : (i : Int) < (ps.length : Int) := by omega
      have c2 : ¬ i < 30 := fun h => h1 ⟨c1, h⟩
      have c2' : ¬ (i : Int) < 30 := by omega
      simp -implicitDefEqProofs [c1, c1', c2, c2']
      refine fin2 _ ?_
      simp -implicitDefEqProofs
      refine num14_ok ?_
      simp -implicitDefEqProofs
      refine Events_new hR hB hD hJ (J := ⟨J.boot + 1, J.prev, J.es, false⟩) (b := 0) (d := 2) (j := 5) (by simp; omega) rfl rfl rfl (by decide) ?_
      simp -implicitDefEqProofs [NewEvs_len]
      refine Room_ok hR hB hD hJ (J := ⟨J.boot + 1, J.prev, J.es, false⟩) (b := 0) (d := 2) (j := 5) (k := k2) (by omega) (by simp; omega) rfl rfl rfl (by decide) ?_
      dsimp only
      rw [hr0]
      simp -implicitDefEqProofs [w2, w3]
    · have c1' : ¬ (i : Int) < (ps.length : Int) := by omega
      simp -implicitDefEqProofs [c1, c1']
      refine fin2 _ ?_
      simp -implicitDefEqProofs
      refine num14_ok ?_
      simp -implicitDefEqProofs
      refine Events_new hR hB hD hJ (J := ⟨J.boot + 1, J.prev, J.es, false⟩) (b := 0) (d := 2) (j := 5) (by simp; omega) rfl rfl rfl (by decide) ?_
      simp -implicitDefEqProofs [NewEvs_len]
      refine Room_ok hR hB hD hJ (J := ⟨J.boot + 1, J.prev, J.es, false⟩) (b := 0) (d := 2) (j := 5) (k := k2) (by omega) (by simp; omega) rfl rfl rfl (by decide) ?_
      dsimp only
      rw [hr0]
      simp -implicitDefEqProofs [w2, w3]
end
end Go.AI

/- JournalSwap. -/
set_option linter.all false
namespace Go.AI
variable {A : Type} {R : Adts A}
theorem ChainFrom.cut {ts k : List Bs} (hn : ts.Nodup) : ∀ (l : List Ev) {i : Nat} {p q : Int} (c : Nat), nMay p = true → ChainFrom ts k i p l q → c ≤ l.length → ∃ s, ChainFrom ts k i p (l.take c) s ∧ ChainFrom ts k (i + c) s (l.drop c) q ∧ nMay s = true
  | l, i, p, q, 0, hp, h, _ => ⟨p, rfl, by simpa using h, hp⟩
  | [], i, p, q, c + 1, _, h, hc => by simp at hc
  | e :: l, i, p, q, c + 1, hp, h, hc => by
    obtain ⟨h1, r, n, h2, h3, h4⟩ := h
    have hnm := (recGet_some hn h2).2.1
    obtain ⟨s, g1, g2, g3⟩ := ChainFrom.cut hn l c hnm h4 (by simpa using hc)
    refine ⟨s, ⟨h1, r, n, h2, h3, g1⟩, ?_, g3⟩
    have : i + 1 + c = i + (c + 1) := by omega
    rw [this] at g2
    simpa using g2
theorem ChainFrom.at {ts k : List Bs} (hn : ts.Nodup) {l : List Ev} {p q : Int} (hp : nMay p = true) (h : ChainFrom ts k 0 p l q) {d : Nat} (hd : d < l.length) : ∃ r n s, recGet ts (k.getD (2 + d) []) (d + 1) s = (r, n, 0) ∧ r.ev = l[d] ∧ nMay s = true := by
  obtain ⟨s, g1, g2, g3⟩ := h.cut hn l d hp (by omega)
  rw [List.drop_eq_getElem_cons hd] at g2
  obtain ⟨h1, r, n, h2, h3, h4⟩ := g2
  simp only [Nat.zero_add] at h2
  exact ⟨r, n, s, h2, h3, g3⟩
/-- A sector that tells of another place ends the journal. -/
theorem end_other {ts t k' : List Bs} (hn : ts.Nodup) (hn' : t.Nodup) (hm : Mono ts t) {s : Bs} (hs : s.length = 64) {d c : Nat} {q p : Int} {r : Rec} {n : Int} (h : recGet ts s (d + 1) q = (r, n, 0)) (hne : d ≠ c) (hk : k'.getD (2 + c) [] = s) : EndAt t k' c p := by
  intro _
  rw [hk]
  have h2 := recGet_mono hn hn' hm hs h
  obtain ⟨_, _, _, _, a5, _, a7⟩ := recGet_some hn' h2
  unfold recGet
  rw [a7]
  dsimp only
  rw [if_pos (.inl (by rw [a5]; omega))]
  simp
theorem jOpen_w {m : Int} {ts t k k' : List Bs} {w : Ws} {J : JS} (h : jOpen m ts (dPut k w) [] false = (t, k', [], .inr J)) : jOpen m ts k w false = (t, k', [], .inr J) := by
  have e0 : dPut (dPut k w) [] = dPut k w := rfl
  unfold jOpen at h ⊢
  rw [e0, dPut_len] at h
  rw [if_neg (by simp)] at h ⊢
  split at h
  · simp at h
  · rename_i hsz
    rw [if_neg hsz]
    obtain ⟨⟨boot, at_, e0⟩, he1⟩ : ∃ z, sPick ts ((dPut k w).getD 0 []) ((dPut k w).getD 1 []) = z := ⟨_, rfl⟩
    rw [he1] at h ⊢
    dsimp only at h ⊢
    obtain ⟨⟨t1, s, f⟩, he2⟩ : ∃ z, sPut m ts (boot + 1) = z := ⟨_, rfl⟩
    rw [he2] at h ⊢
    dsimp only at h ⊢
    by_cases hf : f = 0
    · rw [if_pos hf] at h ⊢; exact h
    · rw [if_neg hf] at h; simp at h
/-- Two sectors change places. -/
theorem swap_get {k : List Bs} {p q : Nat} (hp : p < k.length) (hq : q < k.length) (a b : Bs) (i : Nat) : (dPut k [((p : Int), a), ((q : Int), b)]).getD i [] = if i = q then b else if i = p then a else k.getD i [] := by
  have e1 : dPut k [((p : Int), a), ((q : Int), b)] = (k.set p a).set q b := rfl
  rw [e1]
  by_cases h1 : i = q
  · subst h1
    rw [if_pos rfl]
    simp [List.getD_eq_getElem?_getD, List.getElem?_set_self (show i < (k.set p a).length by simpa using hq)]
  · rw [if_neg h1]
    by_cases h2 : i = p
    · subst h2
      rw [if_pos rfl]
      simp [List.getD_eq_getElem?_getD, List.getElem?_set_ne (Ne.symm h1), List.getElem?_set_self hp]
    · rw [if_neg h2]
      simp [List.getD_eq_getElem?_getD, List.getElem?_set_ne (Ne.symm h1), List.getElem?_set_ne (Ne.symm h2)]
/-- The journal of sectors that changed places, and of such that came back. -/
theorem swap_law {m : Int} {ts k : List Bs} {J : JS} (h : JInv m ts k J) (hb : 0 ≤ J.boot ∧ J.boot ≤ 900) (hsz : 3 ≤ k.length) (hm : (ts.length : Int) + 1 < m) (hz : ZTail k (2 + J.es.length)) {p q : Nat} (hp : p < J.es.length) (hq : q < J.es.length) :
    ∃ ts1 k1 J1 ts2 k2 J2, jOpen m ts k [((2 + p : Int), k.getD (2 + q) []), ((2 + q : Int), k.getD (2 + p) [])] false = (ts1, k1, [], .inr J1) ∧ J1.es = J.es.take (if p = q then J.es.length else min p q) ∧ bOk m ts1 ∧ dOk k1 [] ∧ k1.length = k.length ∧
      jOpen m ts1 k1 [((2 + p : Int), k.getD (2 + p) []), ((2 + q : Int), k.getD (2 + q) [])] false = (ts2, k2, [], .inr J2) ∧ J2.es = J.es := by
  have hfit := h.fits
  have c1 : (2 + (p : Int)) = ((2 + p : Nat) : Int) := by omega
  have c2 : (2 + (q : Int)) = ((2 + q : Nat) : Int) := by omega
  have hfull := h.dk.full
  have lp := getD_len hfull (i := 2 + p) (by omega)
  have lq := getD_len hfull (i := 2 + q) (by omega)
  rw [c1, c2]
  have sw := swap_get (k := k) (p := 2 + p) (q := 2 + q) (by omega) (by omega) (k.getD (2 + q) []) (k.getD (2 + p) [])
  have hd1 : dOk k [(((2 + p : Nat) : Int), k.getD (2 + q) []), (((2 + q : Nat) : Int), k.getD (2 + p) [])] := by
    have := dOk_write (dOk_write h.dk (x := ((2 + p : Nat) : Int)) (s := k.getD (2 + q) []) ⟨by omega, by omega, lq⟩) (x := ((2 + q : Nat) : Int)) (s := k.getD (2 + p) []) ⟨by omega, by omega, lp⟩
    simpa using this
  have hd1' := dOk_put hd1
  have hl1 : (dPut k [(((2 + p : Nat) : Int), k.getD (2 + q) []), (((2 + q : Nat) : Int), k.getD (2 + p) [])]).length = k.length := dPut_len _ _
  have hw1 : ∀ J2 ts2 k2, jOpen m ts (dPut k [(((2 + p : Nat) : Int), k.getD (2 + q) []), (((2 + q : Nat) : Int), k.getD (2 + p) [])]) [] false = (ts2, k2, [], .inr J2) → jOpen m ts k [(((2 + p : Nat) : Int), k.getD (2 + q) []), (((2 + q : Nat) : Int), k.getD (2 + p) [])] false = (ts2, k2, [], .inr J2) := fun _ _ _ h => jOpen_w h
  generalize dPut k [(((2 + p : Nat) : Int), k.getD (2 + q) []), (((2 + q : Nat) : Int), k.getD (2 + p) [])] = ka at *
  have hz0 : nMay 0 = true := rfl
  -- the first way
  have first : ∃ ts1 k1 J1, jOpen m ts ka [] false = (ts1, k1, [], .inr J1) ∧ J1.es = J.es.take (if p = q then J.es.length else min p q) ∧ JInv m ts1 k1 J1 ∧ J1.boot = J.boot + 1 ∧ ts1.length ≤ ts.length + 1 ∧ Mono ts ts1 ∧ k1.length = ka.length ∧ ∀ i, 2 ≤ i → k1.getD i [] = ka.getD i [] := by
    by_cases hpq : p = q
    · subst hpq
      have hsame : ∀ i, ka.getD i [] = k.getD i [] := fun i => by
        rw [sw i]
        by_cases hi : i = 2 + p
        · rw [if_pos hi, hi]
        · rw [if_neg hi, if_neg hi]
      have hI : JInv m ts ka J := ⟨h.ok, hd1', h.chain.move h.ok.nd h.ok.nd (Mono.rfl' _) hfull J.es hl1 fun j _ _ => hsame j, by rw [hsame, hsame]; exact h.sup, h.prev, by rw [hl1]; exact h.fits, h.up⟩
      obtain ⟨t, k', o1, o2, o3, o4, o5, o6⟩ := hI.open ⟨hb.1, by omega⟩ (by omega) (by omega) fun t k' _ _ hl hg => hz.end J.prev t k' (by omega) fun i hi => by rw [hg i hi, hsame]
      exact ⟨t, k', _, o1, by simp, o4, rfl, o2, o3, o5, o6⟩
    · rw [if_neg hpq]
      obtain ⟨c, hc⟩ : ∃ c, min p q = c := ⟨_, rfl⟩
      obtain ⟨d, hd⟩ : ∃ d, max p q = d := ⟨_, rfl⟩
      rw [hc]
      obtain ⟨s, g1, _, g3⟩ := h.chain.cut h.ok.nd J.es c hz0 (by omega)
      obtain ⟨r, n, pv, r1, _, _⟩ := ChainFrom.at h.ok.nd hz0 h.chain (d := d) (by omega)
      have hlow : ∀ i, i < 2 + c → ka.getD i [] = k.getD i [] := fun i hi => by rw [sw i, if_neg (by omega), if_neg (by omega)]
      have hcd : ka.getD (2 + c) [] = k.getD (2 + d) [] := by
        rw [sw]
        by_cases hcq : 2 + c = 2 + q
        · rw [if_pos hcq]; congr 1; omega
        · rw [if_neg hcq, if_pos (by omega)]; congr 1; omega
      have hI : JInv m ts ka ⟨J.boot, s, J.es.take c, false⟩ := by
        refine ⟨h.ok, hd1', g1.move h.ok.nd h.ok.nd (Mono.rfl' _) hfull _ hl1 fun j _ hj => hlow j ?_, by rw [hlow 0 (by omega), hlow 1 (by omega)]; exact h.sup, g3, ?_, rfl⟩
        · rw [List.length_take] at hj; omega
        · simp only [List.length_take]; omega
      have hcl : (J.es.take c).length = c := by rw [List.length_take]; omega
      have ld := getD_len hfull (i := 2 + d) (by omega)
      obtain ⟨t, k', o1, o2, o3, o4, o5, o6⟩ := hI.open ⟨hb.1, by simp only; omega⟩ (by omega) (by omega) fun t k' hok' hmo hl hg => by
        show EndAt t k' (J.es.take c).length s
        rw [hcl]
        exact end_other h.ok.nd hok'.nd hmo ld r1 (show d ≠ c by omega) (by rw [hg _ (by omega), hcd])
      exact ⟨t, k', _, o1, rfl, o4, rfl, o2, o3, o5, o6⟩
  obtain ⟨ts1, k1, J1, o1, o2, o3, o4, o5, o6, o7, o8⟩ := first
  -- back again
  have sw2 := swap_get (k := k1) (p := 2 + p) (q := 2 + q) (by omega) (by omega) (k.getD (2 + p) []) (k.getD (2 + q) [])
  have hd2 : dOk k1 [(((2 + p : Nat) : Int), k.getD (2 + p) []), (((2 + q : Nat) : Int), k.getD (2 + q) [])] := by
    have := dOk_write (dOk_write o3.dk (x := ((2 + p : Nat) : Int)) (s := k.getD (2 + p) []) ⟨by omega, by omega, lp⟩) (x := ((2 + q : Nat) : Int)) (s := k.getD (2 + q) []) ⟨by omega, by omega, lq⟩
    simpa using this
  have hd2' := dOk_put hd2
  have hl2 : (dPut k1 [(((2 + p : Nat) : Int), k.getD (2 + p) []), (((2 + q : Nat) : Int), k.getD (2 + q) [])]).length = k1.length := dPut_len _ _
  have hw : ∀ J2 ts2 k2, jOpen m ts1 (dPut k1 [(((2 + p : Nat) : Int), k.getD (2 + p) []), (((2 + q : Nat) : Int), k.getD (2 + q) [])]) [] false = (ts2, k2, [], .inr J2) → jOpen m ts1 k1 [(((2 + p : Nat) : Int), k.getD (2 + p) []), (((2 + q : Nat) : Int), k.getD (2 + q) [])] false = (ts2, k2, [], .inr J2) := fun _ _ _ h => jOpen_w h
  generalize dPut k1 [(((2 + p : Nat) : Int), k.getD (2 + p) []), (((2 + q : Nat) : Int), k.getD (2 + q) [])] = kb at *
  have hback : ∀ i, 2 ≤ i → kb.getD i [] = k.getD i [] := fun i hi => by
    rw [sw2 i]
    by_cases h1 : i = 2 + q
    · rw [if_pos h1, h1]
    · rw [if_neg h1]
      by_cases h2 : i = 2 + p
      · rw [if_pos h2, h2]
      · rw [if_neg h2, o8 i hi, sw i, if_neg h1, if_neg h2]
  have hsup : ∀ i, i < 2 → kb.getD i [] = k1.getD i [] := fun i hi => by rw [sw2 i, if_neg (by omega), if_neg (by omega)]
  have hI2 : JInv m ts1 kb ⟨J.boot + 1, J.prev, J.es, false⟩ := by
    refine ⟨o3.ok, hd2', h.chain.move h.ok.nd o3.ok.nd o6 hfull J.es (by omega) fun j hj _ => hback j (by omega), ?_, h.prev, by simp only; omega, rfl⟩
    have := o3.sup
    rw [o4] at this
    rw [hsup 0 (by omega), hsup 1 (by omega)]
    exact this
  obtain ⟨ts2, k2, q1, q2, q3, q4, q5, q6⟩ := hI2.open ⟨by simp only; omega, by simp only; omega⟩ (by omega) (by omega) fun t k' _ _ hl hg => hz.end J.prev t k' (by omega) fun i hi => by rw [hg i hi, hback i hi]
  exact ⟨ts1, k1, J1, ts2, k2, _, hw1 _ _ _ o1, o2, o3.ok, o3.dk, by omega, hw _ _ _ q1, rfl⟩
section
variable {bk rbk : Int → List Bs → A} {dk rdk : List Bs → Ws → Bool → A} {jm : Nat → Nat → JS → A}
def spends (n : Nat) : List Ev := (List.range n).map fun (i : Nat) => evS i
theorem spends_len (n : Nat) : (spends n).length = n := by simp [spends]
theorem spends_succ (n : Nat) : spends (n + 1) = spends n ++ [evS n] := by simp [spends, List.range_succ]
def SwI (bk rbk : Int → List Bs → A) (dk rdk : List Bs → Ws → Bool → A) (jm : Nat → Nat → JS → A) (kz : List Bs) (N n : Nat) (mm : Nat) (y : List AVal) (g : AHeap A) : Prop :=
  ∃ (i : Nat) (ts k : List Bs) (J : JS), y = [NewEvs J.es 5, .int .i64 i] ∧ g = base5 bk rbk dk rdk jm ts k kz J ++ jEvs J.es ∧ JInv 65536 ts k J ∧ J.boot = 1 ∧ k.length = N ∧ ZTail k (2 + i) ∧ ts.length ≤ 1 + i ∧ J.es = spends i ∧ i ≤ n ∧ mm = n - i
theorem jEvs_get {es : List Ev} (h : es ≠ []) {base r : AHeap A} {n : Nat} (hn : n = base.length) : (base ++ (jEvs es ++ r) : AHeap A)[n]? = some (.cells t_api_Event (es.flatMap Ev.row)) := by
  subst hn
  rw [List.getElem?_append_right (Nat.le_refl _)]
  simp [jEvs, h]
theorem JournalSwap_ok (hR : R.Ok) (hB : HasBook R bk) (hB' : HasRBook R rbk) (hD : HasDisk R dk) (hD' : HasRDisk R rdk) (hJ : HasJrn R jm) (many at_ to_ : Int) : Tri Pr R n_law11_JournalSwap [.int .i64 many, .int .i64 at_, .int .i64 to_] [] fun u _ => u = .bool true := by
  apply c_law11_JournalSwap
  unfold p_law11_JournalSwap
  refine awake11_ok hR hB hB' hD hD' hJ ?_
  simp -implicitDefEqProofs
  refine law11_twin_ok hR hB hB' 65536 ?_
  rw [if_pos (by omega)]
  simp -implicitDefEqProofs
  refine pair11_ok hR hD hD' (n := 30) (by omega) rfl ?_
  have hfr : JInv 65536 [] (List.replicate (30 : Int).toNat zSec) ⟨0, 0, [], false⟩ := JInv.fresh (by omega) (by omega)
  have hzt : ZTail (List.replicate (30 : Int).toNat zSec) 2 := ZTail.fresh _ _
  have hkl : (List.replicate (30 : Int).toNat zSec).length = 30 := rfl
  generalize List.replicate (30 : Int).toNat zSec = kz at *
  obtain ⟨ts1, k1, o1, o2, o3, o4, o5, o6⟩ := hfr.open (by simp) (by omega) (by simp) fun t k' _ _ hl hg => ZTail.end (n := 0) (by simpa using hzt) 0 t k' hl hg
  simp only [Int.zero_add, List.length_nil, Nat.zero_add] at o1 o2 o4
  simp -implicitDefEqProofs
  refine Open_ok hR hB hD hJ hfr.ok hfr.dk (by simp) o1 rfl rfl (by decide) ?_
  simp -implicitDefEqProofs
  refine num14_ok ?_
  simp -implicitDefEqProofs
  rw [bits_mask many 4 (by omega) 15 (by decide)]
  obtain ⟨x0, hx0, x1⟩ : ∃ d : Nat, many % 2 ^ 4 = (d : Int) ∧ d < 16 := ⟨(many % 2 ^ 4).toNat, by omega, by omega⟩
  rw [hx0]
  obtain ⟨N, hN, hN2⟩ : ∃ N : Nat, IntKind.i64.wrap (2 + (x0 : Int)) = (N : Int) ∧ 2 ≤ N ∧ N ≤ 17 := ⟨2 + x0, by rw [w64 (by omega)]; omega, by omega, by omega⟩
  rw [hN]
  have hlow := base5_low hB hB' hD hD' hJ
  refine loopP_go (SwI bk rbk dk rdk jm kz 30 N) N (Gives.done (by simp) ⟨0, ts1, k1, ⟨1, 0, [], false⟩, rfl, rfl, o4, rfl, by omega, ?_, by omega, rfl, by omega, rfl⟩) ?_
  · intro j hj hj2
    have : 2 ≤ j := by simpa using hj
    rw [o6 j this]; exact hzt j this (by omega)
  rintro mm y g ⟨i, ts, k, J, rfl, rfl, hI, hbt, hkn, hz, htl, hes, hi1, rfl⟩
  have e1 := w64 (n := (i : Int) + 1) (by omega)
  have hel : J.es.length = i := by rw [hes, spends_len]
  by_cases h1 : i < N
  · have h1' : (i : Int) < (N : Int) := by omega
    have hmay : [evS i].all evMay = true := by simp [evS_may (s := (i : Int)) (by omega)]
    obtain ⟨t, ss, q, a1, a2, a3, a4, a5, a6, a7, a8⟩ := hI.append (l := [evS i]) (by rw [hbt]; decide) hmay (by simp; omega) (by omega) (by simp; omega)
    obtain ⟨k2, hk2⟩ : ∃ k2, dPut k ([] ++ jWs (2 + (J.es.length : Int)) ss) = k2 := ⟨_, rfl⟩
    have hk2l : k2.length = k.length := by rw [← hk2, dPut_len]
    rw [hk2] at a7 a8
    obtain ⟨U, hU⟩ : ∃ U, (jEvs J.es : AHeap A) = U := ⟨_, rfl⟩
    rw [hU]
    simp -implicitDefEqProofs [h1, h1', base5]
    refine Append_at (l := [evS i]) (J := J) hR hB hD hJ hI.ok hI.dk (by simp) (by omega) (by simp) a1 hk2 (b := 0) (d := 2) (j := 4) rfl rfl rfl (by decide) (EvsAt.at (by simp [evS, Ev.row]) rfl (by omega)) ?_
    simp -implicitDefEqProofs
    have hsn : J.es ++ [evS i] = spends (i + 1) := by rw [hes, spends_succ]
    refine app_ev (base := base5 bk rbk dk rdk jm t k2 kz ⟨J.boot, q, J.es ++ [evS i], J.over⟩) (e := evS i) (G := [.cells t_api_Event (evS i).row, .cells t_api_Event (evS i).row]) (es := J.es) (by omega) (by rfl) (by rw [← hU]; simp [base5, evS, Ev.row]) (by rw [← hU]; simp [base5]; omega) fun mid => ?_
    refine num14_ok ?_
    simp -implicitDefEqProofs [e1]
    refine Gives.pick hR (base5 bk rbk dk rdk jm t k2 kz ⟨J.boot, q, J.es ++ [evS i], J.over⟩) mid (.cells t_api_Event ((J.es ++ [evS i]).flatMap Ev.row)) _ [.sl 5 0 (J.es.length + 1) (J.es.length + 1) false, .int .i64 (i + 1)] (by simp) (by simp [base5]) (hlow _ _ _ _) ?_ ?_ ?_ ?_
    · have := closed_cells (R := R) (t := t_api_Event) (evs_ix 0 (J.es ++ [evS i]))
      exact ⟨this.1 _, this.2⟩
    · simp [rens, AVal.ren, base5]
    · simp [ixs, AVal.ix, base5]
    · refine ⟨N - (i + 1), by omega, i + 1, t, k2, ⟨J.boot, q, J.es ++ [evS i], J.over⟩, by simp [NewEvs], by simp [jEvs], a7, hbt, by omega, ?_, by simp at a2; omega, hsn, by omega, rfl⟩
      intro j hj hj2
      rw [a8 j (.inr (by simp; omega))]
      exact hz j (by omega) (by omega)
  · have h1' : ¬ (i : Int) < (N : Int) := by omega
    obtain rfl : i = N := by omega
    have hne : J.es ≠ [] := by intro h; rw [h] at hel; simp at hel; omega
    have tm : ∀ x : Int, ∃ d : Nat, (IntKind.u64.wrap x).tmod (i : Int) = (d : Int) ∧ d < i := by
      intro x
      have h0 : 0 ≤ IntKind.u64.wrap x := by simp [IntKind.wrap, IntKind.signed, IntKind.bits]; omega
      have h2 := Int.tmod_nonneg (i : Int) h0
      have h3 := Int.tmod_lt_of_pos (IntKind.u64.wrap x) (b := (i : Int)) (by omega)
      exact ⟨((IntKind.u64.wrap x).tmod (i : Int)).toNat, by omega, by omega⟩
    obtain ⟨p, hp, hp2⟩ := tm at_
    obtain ⟨q, hq, hq2⟩ := tm to_
    have wi : IntKind.u64.wrap (i : Int) = i := wu64 (by omega)
    have wp := w64 (n := (p : Int)) (by omega)
    have wq := w64 (n := (q : Int)) (by omega)
    have wp2 := w64 (n := 2 + (p : Int)) (by omega)
    have wq2 := w64 (n := 2 + (q : Int)) (by omega)
    have hi0 : ¬ i = 0 := by omega
    have hfit := hI.fits
    have hE : (jEvs J.es : AHeap A) = [.cells t_api_Event (J.es.flatMap Ev.row)] := by simp [jEvs, hne]
    have hX : NewEvs J.es 5 = .sl 5 0 i i false := by simp [NewEvs, hne, hel]
    obtain ⟨tsa, ka, Ja, tsb, kb, Jb, s1, s2, s3, s4, s5, s6, s7⟩ := swap_law hI (by rw [hbt]; decide) (by omega) (by omega) (by rw [hel]; exact hz) (p := p) (q := q) (by omega) (by omega)
    have lp := getD_len hI.dk.full (i := 2 + p) (by omega)
    have lq := getD_len hI.dk.full (i := 2 + q) (by omega)
    have rp : dRead k [] false (2 + (p : Int)) = (k.getD (2 + p) [], 0) := by
      unfold dRead; rw [if_neg (by simp), if_neg (by omega)]
      have : (2 + (p : Int)).toNat = 2 + p := by omega
      rw [this]; rfl
    have rq : dRead k [] false (2 + (q : Int)) = (k.getD (2 + q) [], 0) := by
      unfold dRead; rw [if_neg (by simp), if_neg (by omega)]
      have : (2 + (q : Int)).toNat = 2 + q := by omega
      rw [this]; rfl
    generalize k.getD (2 + p) [] = sp at *
    generalize k.getD (2 + q) [] = sq at *
    have g1 : 0 ≤ 2 + (p : Int) ∧ 2 + (p : Int) < k.length ∧ sq.length = 64 := by omega
    have g2 : 0 ≤ 2 + (q : Int) ∧ 2 + (q : Int) < k.length ∧ sp.length = 64 := by omega
    have v1 := dWrite_good (w := []) g1
    have d1 := dOk_write hI.dk g1
    have v2 := dWrite_good (w := [] ++ [(2 + (p : Int), sq)]) g2
    have d2 := dOk_write d1 g2
    have g3 : 0 ≤ 2 + (p : Int) ∧ 2 + (p : Int) < ka.length ∧ sp.length = 64 := by omega
    have g4 : 0 ≤ 2 + (q : Int) ∧ 2 + (q : Int) < ka.length ∧ sq.length = 64 := by omega
    have v3 := dWrite_good (w := []) g3
    have d3 := dOk_write s4 g3
    have v4 := dWrite_good (w := [] ++ [(2 + (p : Int), sp)]) g4
    have d4 := dOk_write d3 g4
    rw [hE, hX]
    simp -implicitDefEqProofs [h1, h1', hp, hq, wi, wp, wq, wp2, wq2, hi0, base5]
    refine disk_Read_at hR hD hI.dk (by simp) rp rfl ?_
    simp -implicitDefEqProofs
    refine disk_Read_at hR hD hI.dk (by simp) rq rfl ?_
    simp -implicitDefEqProofs
    refine disk_Write_at hR hD hI.dk (by simp) v1 rfl ?_
    simp -implicitDefEqProofs
    refine disk_Write_at hR hD d1 (by simp) v2 rfl ?_
    simp -implicitDefEqProofs
    refine Open_ok hR hB hD hJ hI.ok d2 (by simp) s1 rfl rfl (by decide) ?_
    simp -implicitDefEqProofs
    refine num14_ok ?_
    simp -implicitDefEqProofs
    refine num14_ok ?_
    simp -implicitDefEqProofs
    refine num14_ok ?_
    simp -implicitDefEqProofs
    obtain ⟨c, hc, hci⟩ : ∃ c : Nat, (if p = q then J.es.length else min p q) = c ∧ c ≤ i := ⟨_, rfl, by split <;> omega⟩
    rw [hc] at s2
    refine joinP_all (fun vs g => vs = [.int .i64 c] ∧ g = [.adt (bk 65536 tsa), .adt (rbk 65536 []), .adt (dk ka [] false), .adt (rdk kz [] false), .adt (jm 0 2 J), .cells t_api_Event (J.es.flatMap Ev.row), .adt (jm 0 2 Ja)]) ?_ ?_
    · by_cases hpq : p = q
      · rw [if_pos hpq] at hc
        have hb : ((p : Int) != (q : Int)) = false := by simp [hpq]
        rw [hb]
        simp -implicitDefEqProofs
        omega
      · rw [if_neg hpq] at hc
        have hb : ((p : Int) != (q : Int)) = true := by simp; omega
        rw [hb]
        simp -implicitDefEqProofs
        split <;> omega
    rintro _ _ ⟨rfl, rfl⟩
    refine ⟨by simp, ?_⟩
    have hci' : (c : Int) ≤ (i : Int) := by omega
    have hla : Ja.es.length ≤ 300 := by rw [s2, List.length_take]; omega
    have htk : (J.es.drop 0).take c = J.es.take c := rfl
    simp -implicitDefEqProofs [rslP, bnd, hci, hci']
    refine Events_new hR hB hD hJ (J := Ja) (b := 0) (d := 2) (j := 6) hla rfl rfl rfl (by decide) ?_
    have hrd := fun h hq => Rd.part (A := A) J.es 0 c 5 0 i false (e := t_api_Event) (h := h) hq (by omega) rfl
    rw [htk] at hrd
    refine SameEvents_ok hR (l := Ja.es) (r := J.es.take c) (Rd.new fun h0 => ?_) (hrd _ rfl) (by omega) ?_
    · simp [jEvs, h0]
    have hdt : decide (J.es.take c = J.es.take c) = true := by simp
    rw [s2, hdt]
    rw [s2] at hla
    generalize jEvs (J.es.take c) = V
    simp -implicitDefEqProofs
    refine disk_Write_at hR hD s4 (by simp) v3 rfl ?_
    simp -implicitDefEqProofs
    refine disk_Write_at hR hD d3 (by simp) v4 rfl ?_
    simp -implicitDefEqProofs
    refine Open_ok hR hB hD hJ s3 d4 (by simp) s6 rfl rfl (by decide) ?_
    simp -implicitDefEqProofs
    refine num14_ok ?_
    simp -implicitDefEqProofs
    refine Events_new hR hB hD hJ (J := Jb) (b := 0) (d := 2) (by rw [s7]; omega) rfl rfl (by simp) (by omega) ?_
    rw [s7]
    refine SameEvents_ok hR (l := J.es) (r := J.es) (Rd.new fun h0 => ?_) ?_ (by omega) ?_
    · simp [jEvs, h0]
    · have := fun h hq => Rd.sl (A := A) J.es 5 i false (e := t_api_Event) (h := h) hq
      rw [hel] at this
      exact this _ rfl
    · simp -implicitDefEqProofs
end
end Go.AI

/- Journals: records' names and boots; a crash that loses one sector, plainly. -/
set_option linter.all false
namespace Go.AI
theorem recBody_e (x : Rec) : recBody x = nS x.seq ++ (nS x.boot ++ (nS x.prev ++ (nS (evPut x.ev).length ++ evPut x.ev))) := by simp [recBody, nAll]
theorem recT_boot {r q : Rec} (hr : recMay r = true) (hq : recMay q = true) (h : recT r = recT q) : r.boot = q.boot := by
  obtain ⟨_, _, r1, _, r2, _⟩ := recMay_all hr
  obtain ⟨_, _, q1, _, q2, _⟩ := recMay_all hq
  have h1 : recBody r = recBody q := by simpa [recT] using h
  rw [recBody_e, recBody_e] at h1
  exact (nS_head r2 q2 (nS_head r1 q1 h1).2).1
/-- Is it the name of a record of this boot? -/
def OfBoot (ts : List Bs) (p boot : Int) : Prop := ∃ r : Rec, recMay r = true ∧ r.boot = boot ∧ bTerm ts p = (recT r, 0)
theorem OfBoot.mono {ts t : List Bs} {p boot : Int} (h : OfBoot ts p boot) (hm : Mono ts t) : OfBoot t p boot := by
  obtain ⟨r, h1, h2, h3⟩ := h
  exact ⟨r, h1, h2, hm _ _ h3⟩
theorem OfBoot.ne {ts : List Bs} {p q a b : Int} (h : OfBoot ts p a) (g : OfBoot ts q b) (hne : a ≠ b) : p ≠ q := by
  obtain ⟨r, h1, h2, h3⟩ := h
  obtain ⟨s, g1, g2, g3⟩ := g
  rintro rfl
  rw [h3] at g3
  exact hne (by rw [← h2, ← g2]; exact recT_boot h1 g1 (Prod.mk.inj g3).1)
/-- A sector that holds a record. -/
structure Holds (ts : List Bs) (s : Bs) (r : Rec) (n : Int) : Prop where
  may : recMay r = true
  nm : nMay n = true
  term : bTerm ts n = (recT r, 0)
  sec : s = pad (recBody r ++ nS n)
  short : (recBody r ++ nS n).length ≤ 64
theorem Holds.mono {ts t : List Bs} {s : Bs} {r : Rec} {n : Int} (h : Holds ts s r n) (hm : Mono ts t) : Holds t s r n := ⟨h.may, h.nm, hm _ _ h.term, h.sec, h.short⟩
theorem Holds.read {ts : List Bs} {s : Bs} {r : Rec} {n : Int} (h : Holds ts s r n) (hn : ts.Nodup) : recRead ts s = some (r, n) := by rw [h.sec]; exact recRead_dec hn h.may h.nm h.term h.short
theorem Holds.get {ts : List Bs} {s : Bs} {r : Rec} {n : Int} (h : Holds ts s r n) (hn : ts.Nodup) : recGet ts s r.seq r.prev = (r, n, 0) := by rw [h.sec]; exact recGet_own hn h.may h.nm h.term h.short
theorem Holds.not {ts : List Bs} {s : Bs} {r : Rec} {n : Int} (h : Holds ts s r n) (hn : ts.Nodup) {q p : Int} (hne : r.seq ≠ q ∨ r.prev ≠ p) : (recGet ts s q p).2.2 ≠ 0 := by
  unfold recGet
  rw [h.read hn]
  dsimp only
  rw [if_pos hne]
  simp
theorem Holds.ofBoot {ts : List Bs} {s : Bs} {r : Rec} {n : Int} (h : Holds ts s r n) : OfBoot ts n r.boot := ⟨r, h.may, rfl, h.term⟩
/-- What jRecs makes, record by record. -/
def RecsOf (boot : Int) (q : Nat) (p : Int) (l : List Ev) (t ss : List Bs) (p' : Int) : Prop :=
  (∀ (d : Nat) (hd : d < l.length), ∃ s n : Int, Holds t (ss.getD d []) ⟨(q : Int) + d + 1, boot, s, l[d]⟩ n ∧ (d = 0 → s = p) ∧ (0 < d → OfBoot t s boot)) ∧ (l ≠ [] → OfBoot t p' boot)
theorem RecsOf.cons {boot : Int} {q : Nat} {p n p' : Int} {e : Ev} {l : List Ev} {t s0 : List Bs} {s : Bs} (h : RecsOf boot (q + 1) n l t s0 p') (h0 : l = [] → p' = n) (hH : Holds t s ⟨(q : Int) + 1, boot, p, e⟩ n) : RecsOf boot q p (e :: l) t (s :: s0) p' := by
  have hO : OfBoot t n boot := hH.ofBoot
  refine ⟨fun d hd => ?_, fun _ => ?_⟩
  · cases d with
    | zero => exact ⟨p, n, by simpa using hH, fun _ => rfl, fun h => absurd h (by omega)⟩
    | succ d =>
      obtain ⟨s', n2, g1, g2, g3⟩ := h.1 d (by simpa using hd)
      refine ⟨s', n2, ?_, fun h => by omega, fun _ => ?_⟩
      · have e2 : (q : Int) + ((d + 1 : Nat) : Int) + 1 = ((q + 1 : Nat) : Int) + d + 1 := by omega
        rw [e2]
        simpa using g1
      · by_cases hd0 : d = 0
        · rw [g2 hd0]; exact hO
        · exact g3 (by omega)
  · by_cases hl : l = []
    · rw [h0 hl]; exact hO
    · exact h.2 hl
theorem jRecs_made {m boot : Int} (hb : 1 ≤ boot ∧ nMay boot = true) (l : List Ev) : ∀ {ts : List Bs} {q : Nat} {p : Int}, bOk m ts → nMay p = true → l.all evMay = true → q + l.length ≤ 1000 → (ts.length : Int) + l.length ≤ m → ts.length + l.length ≤ 256 →
    ∃ (t ss : List Bs) (p' : Int), jRecs m boot ts q p l = (t, ss, p', true) ∧ RecsOf boot q p l t ss p' ∧ (l = [] → p' = p) := by
  induction l with
  | nil =>
    intro ts q p _ _ _ _ _ _
    exact ⟨ts, [], p, rfl, ⟨fun d hd => absurd hd (by simp), fun h => absurd rfl h⟩, fun _ => rfl⟩
  | cons e l ih =>
    intro ts q p hok hp hall hq hm h256
    simp only [List.all_cons, Bool.and_eq_true] at hall
    simp only [List.length_cons] at hq hm h256
    have hr : recMay ⟨(q : Int) + 1, boot, p, e⟩ = true := by
      have h1 : nMay ((q : Int) + 1) = true := by simp only [nMay, decide_eq_true_eq]; omega
      have h2 := evPut_len hall.1
      simp [recMay, hall.1, h1, hb.1, hb.2, hp]
      omega
    obtain ⟨t1, n, r1, r2, r3, r4, r5, r6, r7⟩ := recPut_step hr hok (by omega) (by omega)
    have hn : nMay (n : Int) = true := by simp only [nMay, decide_eq_true_eq]; omega
    obtain ⟨t2, ss2, p2, s1, s2, s3, s4, s5, s6⟩ := jRecs_chain hb l (q := q + 1) (p := n) r2 hn hall.2 (by omega) (by omega) (by omega)
    obtain ⟨t3, ss3, p3, u1, u2, u3⟩ := ih (q := q + 1) (p := n) r2 hn hall.2 (by omega) (by omega) (by omega)
    have hc : ((q + 1 : Nat) : Int) = (q : Int) + 1 := by omega
    have hM : Mono t1 t3 := by
      rw [s1] at u1
      have := (Prod.mk.inj u1).1
      rw [← this]; exact s3
    refine ⟨t3, pad (recBody ⟨(q : Int) + 1, boot, p, e⟩ ++ nS (n : Int)) :: ss3, p3, ?_, u2.cons u3 ⟨hr, hn, hM _ _ r3, rfl, r4⟩, fun h => by simp at h⟩
    rw [jRecs_cons r1, if_pos rfl, ← hc, u1]
    rfl
theorem jRecs_facts {m boot : Int} (hb : 1 ≤ boot ∧ nMay boot = true) (l : List Ev) {ts : List Bs} {q : Nat} {p : Int} {t ss : List Bs} {p' : Int} (h1 : bOk m ts) (h2 : nMay p = true) (h3 : l.all evMay = true) (h4 : q + l.length ≤ 1000) (h5 : (ts.length : Int) + l.length ≤ m) (h6 : ts.length + l.length ≤ 256) (hj : jRecs m boot ts q p l = (t, ss, p', true)) : RecsOf boot q p l t ss p' := by
  obtain ⟨t3, ss3, p3, u1, u2, _⟩ := jRecs_made hb l (q := q) h1 h2 h3 h4 h5 h6
  rw [u1] at hj
  obtain ⟨rfl, rfl, rfl⟩ : t3 = t ∧ ss3 = ss ∧ p3 = p' := ⟨(Prod.mk.inj hj).1, (Prod.mk.inj (Prod.mk.inj hj).2).1, (Prod.mk.inj (Prod.mk.inj (Prod.mk.inj hj).2).2).1⟩
  exact u2
/-- All writes but one are kept, and of that one nothing. -/
theorem dLost_but {mask : Int} {c : Nat} {ss : List Bs} {k : List Bs} {q : Nat} (hq : q + ss.length ≤ k.length) (hmask : ∀ i, i < ss.length → dKeep mask i = decide (i ≠ c)) (j : Nat) :
    (dLost mask 0 k (jWs q ss)).getD j [] = if q ≤ j ∧ j < q + ss.length ∧ j ≠ q + c then ss.getD (j - q) [] else k.getD j [] := by
  have hw : ∀ (ss : List Bs) (q i : Nat), i < ss.length → (jWs q ss).getD i (0, []) = (((q + i : Nat) : Int), ss.getD i []) := by
    intro ss
    induction ss with
    | nil => intro q i h; simp at h
    | cons s r ih =>
      intro q i h
      cases i with
      | zero => simp [jWs]
      | succ i =>
        have := ih (q + 1) i (by simpa using h)
        have e : ((q + 1 : Nat) : Int) = (q : Int) + 1 := by omega
        rw [e] at this
        simp only [jWs, List.getD_cons_succ]
        rw [this]
        congr 1; omega
  have key : ∀ i, i ≤ ss.length → ∀ j, (dCr mask 0 k (jWs q ss) i).1.getD j [] = if q ≤ j ∧ j < q + i ∧ j ≠ q + c then ss.getD (j - q) [] else k.getD j [] := by
    intro i
    induction i with
    | zero => intro _ j; rw [if_neg (by omega)]; rfl
    | succ i ih =>
      intro hi j
      have ih := ih (by omega)
      have hl := dCr_len mask 0 k (jWs q ss) i
      simp only [dCr]
      rw [hw ss q i (by omega), hmask i (by omega)]
      have hset : ∀ (l : List Bs) (x : Bs), l.length = k.length → (l.set (q + i) x).getD j [] = if j = q + i then x else l.getD j [] := by
        intro l x hl
        by_cases hj : j = q + i
        · rw [if_pos hj, hj]
          simp [List.getD_eq_getElem?_getD, List.getElem?_set_self (show q + i < l.length by omega)]
        · rw [if_neg hj]
          simp [List.getD_eq_getElem?_getD, List.getElem?_set_ne (Ne.symm hj)]
      by_cases hic : i = c
      · subst hic
        rw [if_neg (by simp)]
        have hp : ∀ old : Bs, dPiece 0 (ss.getD i []) old = old := fun old => by simp [dPiece]
        split
        · rw [hp]
          show (List.set _ (((q + i : Nat) : Int)).toNat (List.getD _ (((q + i : Nat) : Int)).toNat [])).getD j [] = _
          rw [Int.toNat_natCast]
          have hs2 : ((dCr mask 0 k (jWs q ss) i).1.set (q + i) ((dCr mask 0 k (jWs q ss) i).1.getD (q + i) [])).getD j [] = (dCr mask 0 k (jWs q ss) i).1.getD j [] := by
            rw [hset _ _ hl]
            by_cases hj : j = q + i
            · rw [if_pos hj, hj]
            · rw [if_neg hj]
          rw [hs2, ih]
          by_cases h1 : q ≤ j ∧ j < q + i ∧ j ≠ q + i
          · rw [if_pos h1, if_pos ⟨by omega, by omega, by omega⟩]
          · rw [if_neg h1, if_neg (by omega)]
        · rw [ih]
          by_cases h1 : q ≤ j ∧ j < q + i ∧ j ≠ q + i
          · rw [if_pos h1, if_pos ⟨by omega, by omega, by omega⟩]
          · rw [if_neg h1, if_neg (by omega)]
      · rw [if_pos (by simpa using hic)]
        show (List.set _ (((q + i : Nat) : Int)).toNat _).getD j [] = _
        rw [Int.toNat_natCast, hset _ _ hl, ih]
        by_cases hj : j = q + i
        · subst hj
          have e3 : q + i - q = i := by omega
          rw [if_pos rfl, if_pos ⟨by omega, by omega, by omega⟩, e3]
        · rw [if_neg hj]
          by_cases h1 : q ≤ j ∧ j < q + i ∧ j ≠ q + c
          · rw [if_pos h1, if_pos ⟨by omega, by omega, by omega⟩]
          · rw [if_neg h1, if_neg (by omega)]
  have := key ss.length (Nat.le_refl _) j
  unfold dLost
  rw [jWs_len]
  exact this
/-- A journal of which one sector was lost, and what came since. -/
structure OldI (c r : Nat) (ts k : List Bs) (J : JS) : Prop where
  inv : JInv 65536 ts k J
  boot : J.boot = 1 + r
  len : J.es.length = c + r
  kl : k.length = 40
  tl : ts.length ≤ 20 + 2 * r
  stale : ∀ i, c + r ≤ i → 2 + i < 40 → k.getD (2 + i) [] = zSec ∨ (c < i ∧ ∃ (x : Rec) (n : Int), Holds ts (k.getD (2 + i) []) x n ∧ OfBoot ts x.prev 1)
  prev : 1 ≤ r → ∃ b, b ≠ 1 ∧ OfBoot ts J.prev b
theorem OldI.end {c r : Nat} {ts k : List Bs} {J : JS} (h : OldI c r ts k J) {t k' : List Bs} (hn : t.Nodup) (hm : Mono ts t) (hl : k'.length = k.length) (hg : ∀ i, 2 ≤ i → k'.getD i [] = k.getD i []) : EndAt t k' J.es.length J.prev := by
  intro h1
  have hkl := h.kl
  rw [hg _ (by omega), h.len]
  rcases h.stale (c + r) (Nat.le_refl _) (by have := h.len; omega) with hz | ⟨hc, x, n, hx, hp⟩
  · rw [hz, recGet_z]; simp
  · obtain ⟨b, hb, hob⟩ := h.prev (by omega)
    exact (hx.mono hm).not hn (.inr ((hp.mono hm).ne (hob.mono hm) (Ne.symm hb)))
/-- Opened, and one event behind the last one. -/
theorem OldI.next {c r : Nat} {ts k : List Bs} {J : JS} (h : OldI c r ts k J) (hc : c ≤ 10) (hr : r ≤ 4) :
    ∃ t k1, jOpen 65536 ts k [] false = (t, k1, [], .inr ⟨J.boot + 1, J.prev, J.es, false⟩) ∧ bOk 65536 t ∧ dOk k1 [] ∧ k1.length = 40 ∧ ∀ y : Ev, evMay y = true → ∃ t2 ss p, jPut 65536 t ⟨J.boot + 1, J.prev, J.es, false⟩ k1.length false [y] = (t2, ss, p, 0) ∧
      OldI c (r + 1) t2 (dPut k1 ([] ++ jWs (2 + (J.es.length : Int)) ss)) ⟨J.boot + 1, p, J.es ++ [y], false⟩ := by
  have htl := h.tl
  have hkl := h.kl
  have hb := h.boot
  have hel := h.len
  obtain ⟨t, k1, o1, o2, o3, o4, o5, o6⟩ := h.inv.open (by omega) (by omega) (by omega) fun t k' hok hm hl hg => h.end hok.nd hm hl hg
  have hbm : 1 ≤ J.boot + 1 ∧ nMay (J.boot + 1) = true := by
    constructor
    · omega
    · simp only [nMay, decide_eq_true_eq]; omega
  refine ⟨t, k1, o1, o4.ok, o4.dk, by omega, fun y hy => ?_⟩
  obtain ⟨t2, ss, p, a1, a2, a3, a4, a5, a6, a7, a8⟩ := o4.append (l := [y]) hbm (by simp [hy]) (by simp; omega) (by omega) (by simp; omega)
  dsimp only at a1 a6 a7 a8
  obtain ⟨f1, f2⟩ := jRecs_facts hbm [y] o4.ok o4.prev (by simp [hy]) (by simp; omega) (by simp; omega) (by simp; omega) a6
  refine ⟨t2, ss, p, a1, ⟨a7, by simp only; omega, by simp; omega, by rw [dPut_len]; omega, by simp at a2; omega, fun i hi h40 => ?_, fun _ => ⟨J.boot + 1, by omega, f2 (by simp)⟩⟩⟩
  have hget : (dPut k1 ([] ++ jWs (2 + (J.es.length : Int)) ss)).getD (2 + i) [] = k.getD (2 + i) [] := by
    rw [a8 (2 + i) (.inr (by simp; omega)), o6 _ (by omega)]
  rw [hget]
  rcases h.stale i (by omega) h40 with hz | ⟨hci, x, n, hx, hp⟩
  · exact .inl hz
  · exact .inr ⟨hci, x, n, hx.mono (o3.trans a3), hp.mono (o3.trans a3)⟩
end Go.AI

/- JournalOld. -/
set_option linter.all false
namespace Go.AI
variable {A : Type} {R : Adts A}
theorem spends_may (n : Nat) (h : n ≤ 1000) : (spends n).all evMay = true := by
  rw [List.all_eq_true]
  intro e he
  obtain ⟨j, hj, rfl⟩ := List.mem_map.1 he
  have := List.mem_range.1 hj
  exact evS_may (by omega)
theorem OldI.start {ts1 k1 : List Bs} (h : JInv 65536 ts1 k1 ⟨1, 0, [], false⟩) (hk : k1.length = 40) (ht : ts1.length ≤ 1) (hz : ZTail k1 2) {n c : Nat} (hn : n ≤ 10) (hc : c < n) {mask : Int} (hmask : ∀ i, i < n → dKeep mask i = decide (i ≠ c)) :
    ∃ t ss p, jPut 65536 ts1 ⟨1, 0, [], false⟩ k1.length false (spends n) = (t, ss, p, 0) ∧ bOk 65536 t ∧ dOk k1 ([] ++ jWs (2 + (0 : Nat)) ss) ∧ ss.length = n ∧ ∃ pc, OldI c 0 t (dLost mask 0 k1 ([] ++ jWs (2 + (0 : Nat)) ss)) ⟨1, pc, (spends n).take c, false⟩ := by
  have hsl := spends_len n
  obtain ⟨t, ss, p, a1, a2, a3, a4, a5, a6, a7, a8⟩ := h.append (l := spends n) (by decide) (spends_may n (by omega)) (by simp; omega) (by omega) (by omega)
  have f := jRecs_facts (by decide) (spends n) h.ok h.prev (spends_may n (by omega)) (by simp; omega) (by omega) (by omega) a6
  have hd2 := ((jPut_facts a1 h.dk).2 rfl).2.2.2.2.2
  simp only [List.length_nil] at a7 a8 f hd2
  have hdl := dOk_lost (mask := mask) (torn := 0) hd2 (by omega)
  have e0 : (2 + ((0 : Nat) : Int)) = ((2 : Nat) : Int) := rfl
  have e1 : (dLost mask 0 k1 ([] ++ jWs (2 + ((0 : Nat) : Int)) ss)).length = k1.length := by unfold dLost; rw [dCr_len]
  have gC : ∀ j, (dLost mask 0 k1 ([] ++ jWs (2 + ((0 : Nat) : Int)) ss)).getD j [] = if 2 ≤ j ∧ j < 2 + ss.length ∧ j ≠ 2 + c then ss.getD (j - 2) [] else k1.getD j [] := fun j => dLost_but (mask := mask) (c := c) (ss := ss) (k := k1) (q := 2) (by omega) (by rw [a4, hsl]; exact hmask) j
  have gF : ∀ j, (dPut k1 ([] ++ jWs (2 + ((0 : Nat) : Int)) ss)).getD j [] = if 2 ≤ j ∧ j < 2 + ss.length then ss.getD (j - 2) [] else k1.getD j [] := fun j => dPut_jWs ss k1 2 j (by omega)
  have hok := a7.ok
  obtain ⟨pc, g1, _, g3⟩ := a7.chain.cut hok.nd ([] ++ spends n) c rfl (by simp; omega)
  simp only [List.nil_append] at g1
  refine ⟨t, ss, p, a1, hok, hd2, by omega, pc, ⟨hok, hdl, ?_, ?_, g3, ?_, rfl⟩, rfl, by simp; omega, by omega, by omega, fun i hi h40 => ?_, fun h => by omega⟩
  · refine g1.move hok.nd hok.nd (Mono.rfl' _) a7.dk.full _ (by rw [e1, dPut_len]) fun j hj1 hj2 => ?_
    rw [List.length_take] at hj2
    rw [gC, gF]
    by_cases hj : 2 ≤ j ∧ j < 2 + ss.length
    · rw [if_pos ⟨hj.1, hj.2, by omega⟩, if_pos hj]
    · rw [if_neg (by omega), if_neg hj]
  · rw [gC, gC, if_neg (by omega), if_neg (by omega)]
    exact h.sup.mono h.ok.nd hok.nd a3
  · rw [e1, List.length_take]; omega
  · simp only [Nat.add_zero] at hi
    rw [gC]
    by_cases hin : i < n ∧ i ≠ c
    · rw [if_pos ⟨by omega, by omega, by omega⟩]
      obtain ⟨s, n2, w1, w2, w3⟩ := f.1 i (by omega)
      have e2 : 2 + i - 2 = i := by omega
      rw [e2]
      exact .inr ⟨by omega, _, n2, w1, w3 (by omega)⟩
    · rw [if_neg (by omega)]
      exact .inl (hz _ (by omega) (by omega))
/-- A list that is copied and grows. -/
def WantAt (x : AVal) (wl : List Ev) (q : Nat) (g : AHeap A) : Prop :=
  (wl = [] ∧ x = .sl q 0 0 0 true ∧ g[q]? = some (.cells t_api_Event [])) ∨ (wl ≠ [] ∧ x = .sl q 0 wl.length wl.length false ∧ g[q]? = some (.cells t_api_Event (wl.flatMap Ev.row)))
theorem WantAt.rd {x : AVal} {wl : List Ev} {q : Nat} {g : AHeap A} (h : WantAt x wl q g) : Rd x wl g := by
  rcases h with ⟨rfl, rfl, h1⟩ | ⟨_, rfl, h1⟩
  · exact Rd.sl [] q 0 true h1
  · exact Rd.sl wl q _ _ h1
theorem WantAt.move {x : AVal} {wl : List Ev} {q : Nat} {g g' : AHeap A} (h : WantAt x wl q g) (hg : g'[q]? = g[q]?) : WantAt x wl q g' := by
  rcases h with ⟨h0, h1, h2⟩ | ⟨h0, h1, h2⟩
  · exact .inl ⟨h0, h1, by rw [hg]; exact h2⟩
  · exact .inr ⟨h0, h1, by rw [hg]; exact h2⟩
theorem WantAt.lt {x : AVal} {wl : List Ev} {q : Nat} {g : AHeap A} (h : WantAt x wl q g) : q < g.length := by
  rcases h with ⟨_, _, h2⟩ | ⟨_, _, h2⟩ <;> exact (List.getElem?_eq_some_iff.1 h2).1
theorem app_want {x a : AVal} {wl l : List Ev} {q : Nat} {h : AHeap A} (hx : WantAt x wl q h) (hs : srcOf 8 h a = some (l.length, l.flatMap Ev.row)) (hl : l ≠ []) (hn : wl.length + l.length ≤ 9000) {K : AVal → AHeap A → Prop}
    (hk : ∀ x' q' h', WantAt x' (wl ++ l) q' h' → (q' = q ∨ h.length ≤ q') → (∀ k, k ≠ q → k < h.length → h'[k]? = h[k]?) → h.length ≤ h'.length → K x' h') : appP t_api_Event 8 64 x a h K := by
  rcases hx with ⟨rfl, rfl, h1⟩ | ⟨h0, rfl, h1⟩
  · refine app_new h1 hs (by simp at hn; omega) ?_
    rw [if_neg hl]
    exact hk _ h.length _ (.inr ⟨by simpa using hl, by simp, by simp⟩) (.inr (Nat.le_refl _)) (fun k _ hk => by rw [List.getElem?_append_left hk]) (by simp)
  · refine app_evs (x := .sl q 0 wl.length wl.length false) (es := wl) (e := q) (.inr ⟨h0, rfl, h1⟩) hs (by omega) fun x' e' h' hev hsame hl' he' => ?_
    refine hk x' e' h' ?_ (he'.imp (fun h => h.2) id) (fun k hk1 hk2 => hsame k (.inr hk1) hk2) hl'
    rcases hev with ⟨hz, _⟩ | hev
    · simp at hz; exact absurd hz.1 h0
    · exact .inr hev
theorem six {h : AHeap A} {a b c d e f : AObj A} (h0 : h[0]? = some a) (h1 : h[1]? = some b) (h2 : h[2]? = some c) (h3 : h[3]? = some d) (h4 : h[4]? = some e) (h5 : h[5]? = some f) : ∃ r, h = a :: b :: c :: d :: e :: f :: r := by
  match h, h0, h1, h2, h3, h4, h5 with
  | x0 :: x1 :: x2 :: x3 :: x4 :: x5 :: r, h0, h1, h2, h3, h4, h5 =>
    simp at h0 h1 h2 h3 h4 h5
    subst h0 h1 h2 h3 h4 h5
    exact ⟨r, rfl⟩
section
variable {bk rbk : Int → List Bs → A} {dk rdk : List Bs → Ws → Bool → A} {jm : Nat → Nat → JS → A}
def OlI (bk rbk : Int → List Bs → A) (dk rdk : List Bs → Ws → Bool → A) (B3 B4 B5 : AObj A) (c N0 : Nat) (mm : Nat) (y : List AVal) (g : AHeap A) : Prop :=
  ∃ (r : Nat) (ts k : List Bs) (J : JS) (x : AVal) (q : Nat) (rest : AHeap A), y = [x, .int .i64 r] ∧ g = .adt (bk 65536 ts) :: .adt (rbk 65536 []) :: .adt (dk k [] false) :: B3 :: B4 :: B5 :: rest ∧ OldI c r ts k J ∧ WantAt x J.es q g ∧ 6 ≤ q ∧ N0 ≤ g.length ∧ r ≤ 4 ∧ mm = 4 - r
def EsI (base : AHeap A) (n : Nat) (mm : Nat) (y : List AVal) (g : AHeap A) : Prop :=
  ∃ p : Nat, y = [NewEvs (spends p) base.length, .int .i64 p] ∧ g = base ++ jEvs (spends p) ∧ p ≤ n ∧ mm = n - p
set_option maxHeartbeats 4000000 in
theorem JournalOld_ok (hR : R.Ok) (hB : HasBook R bk) (hB' : HasRBook R rbk) (hD : HasDisk R dk) (hD' : HasRDisk R rdk) (hJ : HasJrn R jm) (many cut : Int) (a : AVal) (fs : List Int) (ha : IsInts a fs) : Tri Pr R n_law11_JournalOld [.int .i64 many, .int .i64 cut, a] [] fun u _ => u = .bool true := by
  apply c_law11_JournalOld
  unfold p_law11_JournalOld
  refine awake11_ok hR hB hB' hD hD' hJ ?_
  simp -implicitDefEqProofs
  refine law11_twin_ok hR hB hB' 65536 ?_
  rw [if_pos (by omega)]
  simp -implicitDefEqProofs
  refine pair11_ok hR hD hD' (n := 40) (by omega) rfl ?_
  have hfr : JInv 65536 [] (List.replicate (40 : Int).toNat zSec) ⟨0, 0, [], false⟩ := JInv.fresh (by omega) (by omega)
  have hzt : ZTail (List.replicate (40 : Int).toNat zSec) 2 := ZTail.fresh _ _
  have hkl : (List.replicate (40 : Int).toNat zSec).length = 40 := rfl
  generalize List.replicate (40 : Int).toNat zSec = kz at *
  obtain ⟨ts1, k1, o1, o2, o3, o4, o5, o6⟩ := hfr.open (by simp) (by omega) (by simp) fun t k' _ _ hl hg => ZTail.end (n := 0) (by simpa using hzt) 0 t k' hl hg
  simp only [Int.zero_add, List.length_nil, Nat.zero_add] at o1 o2 o4
  simp -implicitDefEqProofs
  refine Open_ok hR hB hD hJ hfr.ok hfr.dk (by simp) o1 rfl rfl (by decide) ?_
  simp -implicitDefEqProofs
  refine num14_ok ?_
  simp -implicitDefEqProofs
  rw [bits_mask many 3 (by omega) 7 (by decide)]
  obtain ⟨x0, hx0, x1⟩ : ∃ d : Nat, many % 2 ^ 3 = (d : Int) ∧ d < 8 := ⟨(many % 2 ^ 3).toNat, by omega, by omega⟩
  rw [hx0]
  obtain ⟨N, hN, hN2⟩ : ∃ N : Nat, IntKind.i64.wrap (3 + (x0 : Int)) = (N : Int) ∧ 3 ≤ N ∧ N ≤ 10 := ⟨3 + x0, by rw [w64 (by omega)]; omega, by omega, by omega⟩
  rw [hN]
  have hlow := base5_low hB hB' hD hD' hJ
  refine loopP_go (EsI (base5 bk rbk dk rdk jm ts1 k1 kz ⟨1, 0, [], false⟩) N) N (Gives.done (by simp) ⟨0, rfl, rfl, by omega, rfl⟩) ?_
  rintro mm y g ⟨i, rfl, rfl, hi1, rfl⟩
  have e1 := w64 (n := (i : Int) + 1) (by omega)
  have hel := spends_len i
  by_cases h1 : i < N
  · have h1' : (i : Int) < (N : Int) := by omega
    simp -implicitDefEqProofs [h1, h1', base5]
    refine app_ev (base := base5 bk rbk dk rdk jm ts1 k1 kz ⟨1, 0, [], false⟩) (e := evS i) (G := []) (es := spends i) (by omega) (by rfl) (by simp [base5, evS, Ev.row]) (by simp [base5]; omega) fun mid => ?_
    simp -implicitDefEqProofs [e1]
    refine Gives.pick hR (base5 bk rbk dk rdk jm ts1 k1 kz ⟨1, 0, [], false⟩) mid (.cells t_api_Event ((spends i ++ [evS i]).flatMap Ev.row)) _ [.sl 5 0 ((spends i).length + 1) ((spends i).length + 1) false, .int .i64 (i + 1)] (by simp) (by simp [base5]) (hlow _ _ _ _) ?_ ?_ ?_ ?_
    · have := closed_cells (R := R) (t := t_api_Event) (evs_ix 0 (spends i ++ [evS i]))
      exact ⟨this.1 _, this.2⟩
    · simp [rens, AVal.ren, base5]
    · simp [ixs, AVal.ix, base5]
    · exact ⟨N - (i + 1), by omega, i + 1, by rw [spends_succ]; simp [NewEvs, base5], by rw [spends_succ]; simp [jEvs, base5], by omega, rfl⟩
  · have h1' : ¬ (i : Int) < (N : Int) := by omega
    obtain rfl : i = N := by omega
    have hne : spends i ≠ [] := by intro h; rw [h] at hel; simp at hel; omega
    have hE : (jEvs (spends i) : AHeap A) = [.cells t_api_Event ((spends i).flatMap Ev.row)] := by simp [jEvs, hne]
    have hX : NewEvs (spends i) 5 = .sl 5 0 i i false := by simp [NewEvs, hne, hel]
    obtain ⟨c, hc, hc2⟩ : ∃ d : Nat, (IntKind.u64.wrap cut).tmod (i : Int) = (d : Int) ∧ d < i := by
      have h0 : 0 ≤ IntKind.u64.wrap cut := by simp [IntKind.wrap, IntKind.signed, IntKind.bits]; omega
      have h2 := Int.tmod_nonneg (i : Int) h0
      have h3 := Int.tmod_lt_of_pos (IntKind.u64.wrap cut) (b := (i : Int)) (by omega)
      exact ⟨((IntKind.u64.wrap cut).tmod (i : Int)).toNat, by omega, by omega⟩
    have wi : IntKind.u64.wrap (i : Int) = i := wu64 (by omega)
    have wc := w64 (n := (c : Int)) (by omega)
    have wcu : IntKind.u64.wrap (c : Int) = c := wu64 (by omega)
    have hi0 : ¬ i = 0 := by omega
    obtain ⟨mask, hmask, hmk, hm0⟩ : ∃ mask : Int, (∀ K : AVal → Prop, binP .andNot .other (.int .i64 1073741823) (.int .i64 (IntKind.i64.wrap (1 * 2 ^ (min (c : Int).toNat IntKind.i64.bits)))) K = K (.int .i64 mask)) ∧ (∀ j, j < i → dKeep mask j = decide (j ≠ c)) ∧ 0 ≤ mask := by
      have hall : ∀ c : Fin 10, (bits .i64 (fun a b => a &&& ~~~b) 1073741823 (IntKind.i64.wrap (1 * 2 ^ (min ((c.val : Nat) : Int).toNat IntKind.i64.bits))) = 1073741823 - 2 ^ c.val) ∧ (∀ j : Fin 10, dKeep (1073741823 - 2 ^ c.val) j.val = decide (j.val ≠ c.val)) := by decide +kernel
      obtain ⟨b1, b2⟩ := hall ⟨c, by omega⟩
      refine ⟨1073741823 - 2 ^ c, fun K => ?_, fun j hj => b2 ⟨j, by omega⟩, ?_⟩
      · rw [← b1]; rfl
      · have : (2 : Int) ^ c ≤ 2 ^ 10 := by
          have : ∀ c : Fin 10, (2 : Int) ^ c.val ≤ 2 ^ 10 := by decide
          exact this ⟨c, by omega⟩
        omega
    obtain ⟨t, ss, p, s1, s2, s3, s4, pc, s5⟩ := OldI.start o4 (by omega) o2 (fun j hj hj2 => by rw [o6 j hj]; exact hzt j hj (by omega)) (n := i) (c := c) (mask := mask) (by omega) hc2 hmk
    obtain ⟨w, hw⟩ : ∃ w : Ws, [] ++ jWs (2 + ((0 : Nat) : Int)) ss = w := ⟨_, rfl⟩
    have hwl : w.length = i := by rw [← hw, List.length_append, jWs_len]; simp [s4]
    rw [hw] at s3 s5
    obtain ⟨kC, hkC⟩ : ∃ k, dLost mask 0 k1 w = k := ⟨_, rfl⟩
    rw [hkC] at s5
    have b5l : (base5 bk rbk dk rdk jm ts1 k1 kz ⟨1, 0, [], false⟩).length = 5 := rfl
    rw [b5l, hE, hX]
    have hmaskb : min (c : Int).toNat IntKind.i64.bits = c := by simp [IntKind.bits]; omega
    have hci' : (c : Int) ≤ (i : Int) := by omega
    have hci : c ≤ i := by omega
    simp -implicitDefEqProofs [h1, h1', base5]
    refine Write_at (l := spends i) (J := ⟨1, 0, [], false⟩) hR hB hD hJ o4.ok o4.dk (by simp) (by simp) (by omega) s1 hw (b := 0) (d := 2) (j := 4) rfl rfl rfl (by decide) (EvsAt.at rfl hel.symm (by decide)) ?_
    simp -implicitDefEqProofs [wi, hc, hi0, wc, wcu]
    simp only [Int.one_mul, Int.toNat_natCast] at hmask
    rw [hmask]
    refine disk_Crash_at hR hD s3 (by omega) ⟨hm0, by omega⟩ hkC rfl ?_
    simp -implicitDefEqProofs
    refine disk_Restart_at hR hD rfl ?_
    simp -implicitDefEqProofs [rslP, bnd, hci, hci']
    have htk : ((spends i).drop 0).take c = (spends i).take c := rfl
    have hrd := fun h hq => Rd.part (A := A) (spends i) 0 c 5 0 i false (e := t_api_Event) (h := h) hq (by omega) rfl
    rw [htk] at hrd
    have hcl : ((spends i).take c).length = c := by rw [List.length_take]; omega
    have loop : ∀ (x : AVal) (q : Nat) (rest : AHeap A), WantAt x ((spends i).take c) q (.adt (bk 65536 t) :: .adt (rbk 65536 []) :: .adt (dk kC [] false) :: .adt (rdk kz [] false) :: .adt (jm 0 2 ⟨1, 0, [], true⟩) :: .cells t_api_Event ((spends i).flatMap Ev.row) :: rest) → 6 ≤ q →
        OlI bk rbk dk rdk (.adt (rdk kz [] false)) (.adt (jm 0 2 ⟨1, 0, [], true⟩)) (.cells t_api_Event ((spends i).flatMap Ev.row)) c (rest.length + 6) 4 [x, .int .i64 0] (.adt (bk 65536 t) :: .adt (rbk 65536 []) :: .adt (dk kC [] false) :: .adt (rdk kz [] false) :: .adt (jm 0 2 ⟨1, 0, [], true⟩) :: .cells t_api_Event ((spends i).flatMap Ev.row) :: rest) := fun x q rest hx hq =>
      ⟨0, t, kC, ⟨1, pc, (spends i).take c, false⟩, x, q, rest, rfl, rfl, s5, hx, hq, by simp, by omega, rfl⟩
    refine CopyEvents_ok hR (hrd _ rfl) (hrd _ rfl).src (by omega) ?_
    obtain ⟨C5, hC5⟩ : ∃ C, (spends i).flatMap Ev.row = C := ⟨_, rfl⟩
    have hC5l : C5.length = i * 8 := by rw [← hC5, evs_len, hel]
    have hC5c : (C5.drop (c * 8)).take 8 = (evS c).row := by
      have := rows_drop (f := Ev.row) (n := 8) (fun x => rfl) (spends i) c (by omega)
      rw [← hC5, this]
      have e2 : (spends i)[c]'(by omega) = evS c := by simp [spends]
      rw [e2]
      simp [Ev.row]
    have hcle : c * 8 + 8 ≤ i * 8 := by omega
    have hc2' : (c : Int) < (i : Int) := by omega
    by_cases hc0 : c = 0
    have hz : (spends i).take c = [] := by rw [hc0]; rfl
    rw [if_pos hz]
    simp -implicitDefEqProofs
    refine loopP_go (OlI bk rbk dk rdk (.adt (rdk kz [] false)) (.adt (jm 0 2 ⟨1, 0, [], true⟩)) (.cells t_api_Event ((spends i).flatMap Ev.row)) c 7) 4 (Gives.done (by simp) (loop _ 6 [.cells t_api_Event []] (.inl ⟨hz, rfl, rfl⟩) (by omega))) ?_
    rotate_left
    have hz : (spends i).take c ≠ [] := by intro h; rw [h] at hcl; simp at hcl; omega
    rw [if_neg hz, hcl]
    simp -implicitDefEqProofs
    refine loopP_go (OlI bk rbk dk rdk (.adt (rdk kz [] false)) (.adt (jm 0 2 ⟨1, 0, [], true⟩)) (.cells t_api_Event ((spends i).flatMap Ev.row)) c 8) 4 (Gives.done (by simp) (loop _ 7 [.cells t_api_Event [], .cells t_api_Event (((spends i).take c).flatMap Ev.row)] (.inr ⟨hz, by rw [hcl], rfl⟩) (by omega))) ?_
    all_goals (
      rintro mm y g ⟨r, ts, k, J, x, q, rest, rfl, rfl, hI, hwt, hq6, hN0, hr4, rfl⟩
      rw [hC5] at hwt ⊢
      have hJl := hI.len
      have hJb := hI.boot
      have er := w64 (n := (r : Int) + 1) (by omega)
      have er2 := w64 (n := 100 + (r : Int)) (by omega)
      obtain ⟨t2, k2, p1, p2, p3, p4, p5⟩ := hI.next (by omega) hr4
      have opn : ∀ K : AVal → AHeap A → Prop, K (.tup [.ptr (rest.length + 6) 0, .int .i64 0]) (.adt (bk 65536 t2) :: .adt (rbk 65536 []) :: .adt (dk k2 [] false) :: .adt (rdk kz [] false) :: .adt (jm 0 2 ⟨1, 0, [], true⟩) :: .cells t_api_Event C5 :: (rest ++ [.adt (jm 0 2 ⟨J.boot + 1, J.prev, J.es, false⟩)])) →
          Tri Pr R n_journal_Open [.ptr 0 0, .ptr 2 0] (.adt (bk 65536 ts) :: .adt (rbk 65536 []) :: .adt (dk k [] false) :: .adt (rdk kz [] false) :: .adt (jm 0 2 ⟨1, 0, [], true⟩) :: .cells t_api_Event C5 :: rest) K := fun K hK => by
        refine Open_ok hR hB hD hJ hI.inv.ok hI.inv.dk (by simp) p1 rfl rfl (by decide) ?_
        simpa using hK
      have hq1 := hwt.lt
      have hxq : ∀ (A0 A1 A2 : AObj A) (L : AHeap A), (A0 :: A1 :: A2 :: .adt (rdk kz [] false) :: .adt (jm 0 2 ⟨1, 0, [], true⟩) :: .cells t_api_Event C5 :: (rest ++ L) : AHeap A)[q]? = (.adt (bk 65536 ts) :: .adt (rbk 65536 []) :: .adt (dk k [] false) :: .adt (rdk kz [] false) :: .adt (jm 0 2 ⟨1, 0, [], true⟩) :: .cells t_api_Event C5 :: rest : AHeap A)[q]? := by
        intro A0 A1 A2 L
        obtain ⟨j, rfl⟩ : ∃ j, q = j + 6 := ⟨q - 6, by omega⟩
        simp only [List.getElem?_cons_succ]
        rw [List.getElem?_append_left (by simp at hq1; omega)]
      have evn : ∀ K : AVal → AHeap A → Prop, K (NewEvs J.es (rest.length + 7)) (.adt (bk 65536 t2) :: .adt (rbk 65536 []) :: .adt (dk k2 [] false) :: .adt (rdk kz [] false) :: .adt (jm 0 2 ⟨1, 0, [], true⟩) :: .cells t_api_Event C5 :: (rest ++ (.adt (jm 0 2 ⟨J.boot + 1, J.prev, J.es, false⟩) :: jEvs J.es))) →
          Tri Pr R n_journal_Journal_Events [.ptr (rest.length + 6) 0] (.adt (bk 65536 t2) :: .adt (rbk 65536 []) :: .adt (dk k2 [] false) :: .adt (rdk kz [] false) :: .adt (jm 0 2 ⟨1, 0, [], true⟩) :: .cells t_api_Event C5 :: (rest ++ [.adt (jm 0 2 ⟨J.boot + 1, J.prev, J.es, false⟩)])) K := fun K hK => by
        refine Events_new hR hB hD hJ (J := ⟨J.boot + 1, J.prev, J.es, false⟩) (b := 0) (d := 2) (by simp only; omega) rfl rfl (by simp) (by omega) ?_
        simpa using hK
      have sam : ∀ K : AVal → AHeap A → Prop, K (.bool true) (.adt (bk 65536 t2) :: .adt (rbk 65536 []) :: .adt (dk k2 [] false) :: .adt (rdk kz [] false) :: .adt (jm 0 2 ⟨1, 0, [], true⟩) :: .cells t_api_Event C5 :: (rest ++ (.adt (jm 0 2 ⟨J.boot + 1, J.prev, J.es, false⟩) :: jEvs J.es))) →
          Tri Pr R n_law0_SameEvents [NewEvs J.es (rest.length + 7), x] (.adt (bk 65536 t2) :: .adt (rbk 65536 []) :: .adt (dk k2 [] false) :: .adt (rdk kz [] false) :: .adt (jm 0 2 ⟨1, 0, [], true⟩) :: .cells t_api_Event C5 :: (rest ++ (.adt (jm 0 2 ⟨J.boot + 1, J.prev, J.es, false⟩) :: jEvs J.es))) K := fun K hK => by
        refine SameEvents_ok hR (l := J.es) (r := J.es) (Rd.new fun h0 => ?_) (hwt.move (hxq _ _ _ _)).rd (by omega) (by simpa using hK)
        simp [jEvs, h0]
      by_cases hlt : r < 4
      · have hlt' : (r : Int) < 4 := by omega
        simp -implicitDefEqProofs [hlt, hlt']
        refine opn _ ?_
        simp -implicitDefEqProofs
        refine num14_ok ?_
        simp -implicitDefEqProofs
        refine num14_ok ?_
        simp -implicitDefEqProofs
        refine evn _ ?_
        refine sam _ ?_
        obtain ⟨U, hU⟩ : ∃ U, rest ++ (.adt (jm 0 2 ⟨J.boot + 1, J.prev, J.es, false⟩) :: jEvs J.es) = U := ⟨_, rfl⟩
        rw [hU]
        simp -implicitDefEqProofs [hc2, hc2', hC5l, hC5c, hcle]
        simp -implicitDefEqProofs [evS, Ev.row]
        refine joinP_all (fun vs g => ∃ yv : Ev, evMay yv = true ∧ vs = [] ∧ g = .adt (bk 65536 t2) :: .adt (rbk 65536 []) :: .adt (dk k2 [] false) :: .adt (rdk kz [] false) :: .adt (jm 0 2 ⟨1, 0, [], true⟩) :: .cells t_api_Event C5 :: (U ++ [.cells t_api_Event yv.row])) ?_ ?_
        · have hcm : evMay (evS c) = true := evS_may (by omega)
          have hrm : evMay (evS (100 + (r : Int))) = true := evS_may (by omega)
          simp -implicitDefEqProofs [ha.len]
          refine iteP_of (fun h3 => ?_) (fun h3 => ?_)
          · simp at h3
            obtain ⟨bb, oo, cs, hget⟩ := ha.get (n := (r : Int)) (by omega) (by omega)
            simp -implicitDefEqProofs [hget]
            refine iteP_of (fun h4 => ?_) (fun h4 => ?_)
            · simp -implicitDefEqProofs [er2]
              exact ⟨evS (100 + (r : Int)), hrm, rfl⟩
            · exact ⟨evS c, hcm, rfl⟩
          · skip
            exact ⟨evS c, hcm, rfl⟩
        rintro _ _ ⟨yv, hyv, rfl, rfl⟩
        refine ⟨by simp, ?_⟩
        obtain ⟨t3, ss3, pn, q1, q2⟩ := p5 yv hyv
        obtain ⟨k3, hk3⟩ : ∃ k3, dPut k2 ([] ++ jWs (2 + (J.es.length : Int)) ss3) = k3 := ⟨_, rfl⟩
        rw [hk3] at q2
        obtain ⟨V, hV⟩ : ∃ V, rest ++ (.adt (jm 0 2 ⟨J.boot + 1, pn, J.es ++ [yv], false⟩) :: jEvs J.es) = V := ⟨_, rfl⟩
        have hVl : V.length = U.length := by rw [← hU, ← hV]; simp
        have apn : ∀ (j : Nat) (L : AHeap A) (K : AVal → AHeap A → Prop), j = U.length + 7 → L = [.cells t_api_Event yv.row, .cells t_api_Event yv.row] → K (.int .i64 0) (.adt (bk 65536 t3) :: .adt (rbk 65536 []) :: .adt (dk k3 [] false) :: .adt (rdk kz [] false) :: .adt (jm 0 2 ⟨1, 0, [], true⟩) :: .cells t_api_Event C5 :: (V ++ L)) →
            Tri Pr R n_journal_Journal_Append [.ptr (rest.length + 6) 0, .sl j 0 1 1 true] (.adt (bk 65536 t2) :: .adt (rbk 65536 []) :: .adt (dk k2 [] false) :: .adt (rdk kz [] false) :: .adt (jm 0 2 ⟨1, 0, [], true⟩) :: .cells t_api_Event C5 :: (U ++ L)) K := by
          rintro j L K rfl rfl hK
          refine Append_at (l := [yv]) (J := ⟨J.boot + 1, J.prev, J.es, false⟩) hR hB hD hJ p2 p3 (by simp) (by simp only; omega) (by simp) q1 hk3 (b := 0) (d := 2) (j := rest.length + 6) rfl rfl (by rw [← hU]; simp) (by omega) (EvsAt.at (by simp) rfl (by rw [← hU]; simp; omega)) ?_
          have e3 : (((.adt (bk 65536 t2) :: .adt (rbk 65536 []) :: .adt (dk k2 [] false) :: .adt (rdk kz [] false) :: .adt (jm 0 2 ⟨1, 0, [], true⟩) :: .cells t_api_Event C5 :: (U ++ [.cells t_api_Event yv.row, .cells t_api_Event yv.row]) : AHeap A).set 0 (.adt (bk 65536 t3))).set 2 (.adt (dk k3 [] false))).set (rest.length + 6) (.adt (jm 0 2 ⟨J.boot + 1, pn, J.es ++ [yv], false⟩)) =
              .adt (bk 65536 t3) :: .adt (rbk 65536 []) :: .adt (dk k3 [] false) :: .adt (rdk kz [] false) :: .adt (jm 0 2 ⟨1, 0, [], true⟩) :: .cells t_api_Event C5 :: (V ++ [.cells t_api_Event yv.row, .cells t_api_Event yv.row]) := by
            rw [← hU, ← hV]
            simp
          rw [e3]
          exact hK
        simp -implicitDefEqProofs [Ev.row]
        refine apn _ _ _ (by omega) rfl ?_
        simp -implicitDefEqProofs [hVl, Ev.row]
        have hxV : ∀ (A0 A1 A2 : AObj A) (L : AHeap A), (A0 :: A1 :: A2 :: .adt (rdk kz [] false) :: .adt (jm 0 2 ⟨1, 0, [], true⟩) :: .cells t_api_Event C5 :: (V ++ L) : AHeap A)[q]? = (.adt (bk 65536 ts) :: .adt (rbk 65536 []) :: .adt (dk k [] false) :: .adt (rdk kz [] false) :: .adt (jm 0 2 ⟨1, 0, [], true⟩) :: .cells t_api_Event C5 :: rest : AHeap A)[q]? := by
          intro A0 A1 A2 L
          rw [← hV, List.append_assoc]
          exact hxq _ _ _ _
        have hyr : [AVal.int .i64 yv.kind, .int .i64 yv.user, .int .i64 yv.session, .int .i64 yv.address, .int .i64 yv.a, .int .i64 yv.b, .int .i64 yv.c, .int .i64 yv.tick] = yv.row := rfl
        rw [hyr]
        have hat : ∀ o1 o2 o3 : AObj A, (.adt (bk 65536 t3) :: .adt (rbk 65536 []) :: .adt (dk k3 [] false) :: .adt (rdk kz [] false) :: .adt (jm 0 2 ⟨1, 0, [], true⟩) :: .cells t_api_Event C5 :: (V ++ [o1, o2, o3]) : AHeap A)[U.length + 2 + 1 + 1 + 1 + 1 + 1 + 1]? = some o3 := by
          intro o1 o2 o3
          simp only [List.getElem?_cons_succ]
          rw [List.getElem?_append_right (by omega)]
          have : U.length + 2 - V.length = 2 := by omega
          rw [this]; rfl
        have hsr : srcOf 8 (.adt (bk 65536 t3) :: .adt (rbk 65536 []) :: .adt (dk k3 [] false) :: .adt (rdk kz [] false) :: .adt (jm 0 2 ⟨1, 0, [], true⟩) :: .cells t_api_Event C5 :: (V ++ [.cells t_api_Event yv.row, .cells t_api_Event yv.row, .cells t_api_Event yv.row]) : AHeap A) (.sl (U.length + 2 + 1 + 1 + 1 + 1 + 1 + 1) 0 1 1 true) = some ([yv].length, [yv].flatMap Ev.row) := by
          simp only [srcOf, cellsAt, hat, Option.bind_some, AObj.read]
          rfl
        refine app_want (hwt.move (hxV _ _ _ _)) hsr (by simp) (by simp; omega) fun x' q' h' hw' hq' hsame hl' => ?_
        have n0 : ∀ j, j < 6 → j ≠ q := fun j hj => by omega
        obtain ⟨rest', rfl⟩ := six (hsame 0 (n0 0 (by omega)) (by simp)) (hsame 1 (n0 1 (by omega)) (by simp)) (hsame 2 (n0 2 (by omega)) (by simp)) (hsame 3 (n0 3 (by omega)) (by simp)) (hsame 4 (n0 4 (by omega)) (by simp)) (hsame 5 (n0 5 (by omega)) (by simp))
        have hUl : U.length = rest.length + 1 + (jEvs J.es : AHeap A).length := by rw [← hU]; simp; omega
        simp only [List.length_cons, List.length_append, List.length_nil] at hl' hN0 hq'
        refine num14_ok ?_
        simp -implicitDefEqProofs [er]
        refine Gives.done (by simp; omega) ⟨4 - (r + 1), by omega, r + 1, t3, k3, ⟨J.boot + 1, pn, J.es ++ [yv], false⟩, x', q', rest', rfl, ?_, q2, ?_, by omega, by simp; omega, by omega, rfl⟩
        · rfl
        · exact hw'
      · have hr4' : ¬ (r : Int) < 4 := by omega
        obtain rfl : r = 4 := by omega
        have hb6 : J.boot + 1 = 6 := by omega
        simp -implicitDefEqProofs [hlt, hr4']
        refine opn _ ?_
        simp -implicitDefEqProofs
        refine num14_ok ?_
        simp -implicitDefEqProofs
        refine evn _ ?_
        refine sam _ ?_
        simp -implicitDefEqProofs
        refine Boot_ok hR hB hD hJ (J := ⟨J.boot + 1, J.prev, J.es, false⟩) (b := 0) (d := 2) rfl rfl (by simp) (by omega) ?_
        dsimp only
        rw [hb6]
        simp -implicitDefEqProofs)
end
end Go.AI

/- JournalChain. -/
set_option linter.all false
namespace Go.AI
variable {A : Type} {R : Adts A}
/-- Whole numbers that grow. -/
def IntsAt (x : AVal) (bs : List Int) (q : Nat) (g : AHeap A) : Prop := (bs = [] ∧ x = .nils) ∨ (bs ≠ [] ∧ x = .sl q 0 bs.length bs.length false ∧ g[q]? = some (.cells t_int (bs.map (.int .i64))))
theorem IntsAt.len {x : AVal} {bs : List Int} {q : Nat} {g : AHeap A} (h : IntsAt x bs q g) (K : AVal → Prop) : lenP x K = K (.int .i64 bs.length) := by
  rcases h with ⟨rfl, rfl⟩ | ⟨_, rfl, _⟩ <;> simp
theorem IntsAt.move {x : AVal} {bs : List Int} {q : Nat} {g g' : AHeap A} (h : IntsAt x bs q g) (hg : bs ≠ [] → g'[q]? = g[q]?) : IntsAt x bs q g' := by
  rcases h with h | ⟨h0, h1, h2⟩
  · exact .inl h
  · exact .inr ⟨h0, h1, by rw [hg h0]; exact h2⟩
theorem IntsAt.get {x : AVal} {bs : List Int} {q : Nat} {g : AHeap A} (h : IntsAt x bs q g) {i : Nat} (hi : i < bs.length) : ∃ p, (∀ K, idxP 1 x (.int .i64 i) K = K p) ∧ ldV 1 false p g = some (.int .i64 bs[i]) := by
  rcases h with ⟨rfl, rfl⟩ | ⟨_, rfl, h2⟩
  · simp at hi
  · refine ⟨.ptr q i, fun K => by simp [idxP, hi], ?_⟩
    simp only [ldV, cellsAt, h2, Option.bind_some, AObj.read]
    simp [hi]
theorem room_8c {n : Nat} (h : n ≤ 100000) : (2 * n + 1000) * 8 ≤ 140737488355328 := by omega
theorem app_ints {x a : AVal} {bs : List Int} {b : Int} {q : Nat} {h : AHeap A} (he : IntsAt x bs q h) (hs : srcOf 1 h a = some (1, [.int .i64 b])) (hn : bs.length ≤ 10000) {K : AVal → AHeap A → Prop}
    (hk : ∀ x' h', IntsAt x' (bs ++ [b]) h.length h' → (∀ k, (bs = [] ∨ k ≠ q) → k < h.length → h'[k]? = h[k]?) → h.length ≤ h'.length → K x' h') : appP t_int 1 8 x a h K := by
  have r1 := room_8c (n := bs.length + 1) (by omega)
  unfold appP appV
  rw [hs]
  dsimp only
  rcases he with ⟨rfl, rfl⟩ | ⟨h0, rfl, h1⟩
  · dsimp only
    rw [if_neg (by omega), if_pos (by omega)]
    simp only [optH]
    exact hk _ _ (.inr ⟨by simp, by simp, by simp⟩) (fun k _ hk => by rw [List.getElem?_append_left hk]) (by simp)
  · have hlt := (List.getElem?_eq_some_iff.1 h1).1
    dsimp only
    rw [if_neg (by omega), h1]
    dsimp only
    rw [if_pos ⟨by omega, by simp, .inr r1⟩, if_neg (by simp), if_pos ⟨rfl, by simp, rfl⟩]
    simp only [optH]
    refine hk _ _ (.inr ⟨by simp, by simp, ?_⟩) (fun k hk1 hk2 => ?_) (by simp)
    · rw [List.getElem?_append_right (by simp)]
      simp [List.take_of_length_le]
    · have hke : k ≠ q := by rcases hk1 with h | h; exact absurd h h0; exact h
      rw [List.getElem?_append_left (by simpa using hk2), List.getElem?_set_ne (Ne.symm hke)]
/-- Records one behind the other, with their boots. -/
def ChainB (ts k : List Bs) : Nat → Int → List Int → Int → Prop
  | _, p, [], q => q = p
  | i, p, b :: l, q => 2 + i < k.length ∧ ∃ r n, recGet ts (k.getD (2 + i) []) (i + 1) p = (r, n, 0) ∧ r.boot = b ∧ ChainB ts k (i + 1) n l q
theorem ChainB.app {ts k : List Bs} : ∀ (l : List Int) {i : Nat} {p q s : Int} {l2 : List Int}, ChainB ts k i p l q → ChainB ts k (i + l.length) q l2 s → ChainB ts k i p (l ++ l2) s
  | [], i, p, q, s, l2, h, g => by
    have : q = p := h
    subst this
    simpa using g
  | e :: l, i, p, q, s, l2, h, g => by
    obtain ⟨h1, r, n, h2, h3, h4⟩ := h
    refine ⟨h1, r, n, h2, h3, ChainB.app l h4 ?_⟩
    have : i + 1 + l.length = i + (e :: l).length := by simp; omega
    rw [this]; exact g
theorem ChainB.move {ts t k k' : List Bs} (hn : ts.Nodup) (hn' : t.Nodup) (hm : Mono ts t) (hk : ∀ s ∈ k, s.length = 64) : ∀ (l : List Int) {i : Nat} {p q : Int}, ChainB ts k i p l q → k'.length = k.length → (∀ j, 2 + i ≤ j → j < 2 + i + l.length → k'.getD j [] = k.getD j []) → ChainB t k' i p l q
  | [], _, _, _, h, _, _ => h
  | e :: l, i, p, q, h, hl, hg => by
    obtain ⟨h1, r, n, h2, h3, h4⟩ := h
    refine ⟨by omega, r, n, ?_, h3, ChainB.move hn hn' hm hk l h4 hl fun j hj1 hj2 => hg j (by omega) (by simp only [List.length_cons]; omega)⟩
    rw [hg (2 + i) (by omega) (by simp only [List.length_cons]; omega)]
    exact recGet_mono hn hn' hm (getD_len hk h1) h2
theorem jWs_one {k : List Bs} {n : Nat} (h : 2 + n < k.length) (s : Bs) : (dPut k ([] ++ jWs (2 + (n : Int)) [s])).getD (2 + n) [] = s := by
  have e : (2 + (n : Int)).toNat = 2 + n := by omega
  have e1 : dPut k ([] ++ jWs (2 + (n : Int)) [s]) = k.set (2 + n) s := by
    rw [← e]; rfl
  rw [e1, List.getD_eq_getElem?_getD, List.getElem?_set_self h]
  rfl
/-- One event more. -/
theorem JInv.one {m : Int} {ts k : List Bs} {J : JS} (h : JInv m ts k J) (hb : 1 ≤ J.boot ∧ nMay J.boot = true) {y : Ev} (hy : evMay y = true) (hf : J.es.length + 3 ≤ k.length) (hm : 256 ≤ m) (ht : ts.length + 1 ≤ 256) {bs : List Int} (hc : ChainB ts k 0 0 bs J.prev) (hbl : bs.length = J.es.length) :
    ∃ t ss p, jPut m ts J k.length false [y] = (t, ss, p, 0) ∧ t.length ≤ ts.length + 1 ∧ Mono ts t ∧ JInv m t (dPut k ([] ++ jWs (2 + (J.es.length : Int)) ss)) ⟨J.boot, p, J.es ++ [y], J.over⟩ ∧
      ChainB t (dPut k ([] ++ jWs (2 + (J.es.length : Int)) ss)) 0 0 (bs ++ [J.boot]) p ∧ ∀ i, (i < 2 + J.es.length ∨ 2 + J.es.length + 1 ≤ i) → (dPut k ([] ++ jWs (2 + (J.es.length : Int)) ss)).getD i [] = k.getD i [] := by
  have hsz := h.dk.size
  obtain ⟨t, ss, p, a1, a2, a3, a4, a5, a6, a7, a8⟩ := h.append (l := [y]) hb (by simp [hy]) (by simp; omega) hm (by simpa using ht)
  have hr : recMay ⟨(J.es.length : Int) + 1, J.boot, J.prev, y⟩ = true := by
    have h1 : nMay ((J.es.length : Int) + 1) = true := by simp only [nMay, decide_eq_true_eq]; omega
    have h2 := evPut_len hy
    simp [recMay, hy, h1, hb.1, hb.2, h.prev]
    omega
  obtain ⟨t1, n, r1, r2, r3, r4, r5, r6, r7⟩ := recPut_step hr h.ok (by omega) (by omega)
  have hn : nMay (n : Int) = true := by simp only [nMay, decide_eq_true_eq]; omega
  have hg := recGet_own r2.nd hr hn r3 r4
  clear r3 r4
  generalize pad (recBody ⟨(J.es.length : Int) + 1, J.boot, J.prev, y⟩ ++ nS (n : Int)) = s1 at *
  have e1 : jRecs m J.boot ts J.es.length J.prev [y] = (t1, [s1], (n : Int), true) := by
    rw [jRecs_cons r1, if_pos rfl, jApp_end]
  rw [e1] at a6
  have h1 : t1 = t := (Prod.mk.inj a6).1
  have h2 : [s1] = ss := (Prod.mk.inj (Prod.mk.inj a6).2).1
  have h3 : (n : Int) = p := (Prod.mk.inj (Prod.mk.inj (Prod.mk.inj a6).2).2).1
  subst h1
  refine ⟨t1, ss, p, a1, by simpa using a2, a3, a7, ?_, fun i hi => a8 i (by simpa using hi)⟩
  have hlen : (dPut k ([] ++ jWs (2 + (J.es.length : Int)) ss)).length = k.length := dPut_len _ _
  refine ChainB.app bs (hc.move h.ok.nd r2.nd a3 h.dk.full bs hlen fun j _ hj => a8 j (.inl (by omega))) ?_
  have hs : (dPut k ([] ++ jWs (2 + (J.es.length : Int)) ss)).getD (2 + J.es.length) [] = s1 := by
    rw [← h2]; exact jWs_one (by omega) s1
  rw [Nat.zero_add, hbl, ← h3]
  exact ⟨by omega, _, n, by rw [hs]; exact hg, rfl, rfl⟩
theorem bName_take {ts : List Bs} (h : bOk 65536 ts) {i : Nat} {s : Bs} (hs : ts[i]? = some s) : bName 65536 (ts.take i) s = (ts.take (i + 1), (i : Int), 0) := by
  have hi := (List.getElem?_eq_some_iff.1 hs).1
  obtain ⟨h1, h2⟩ := h.short s (List.mem_of_getElem? hs)
  have hnot : s ∉ ts.take i := by
    intro hm
    obtain ⟨j, hj⟩ := List.mem_iff_getElem?.1 hm
    have hjl := (List.getElem?_eq_some_iff.1 hj).1
    rw [List.length_take] at hjl
    rw [List.getElem?_take_of_lt (by omega)] at hj
    have := nd_get h.nd hj hs
    omega
  have hl := h.len
  have := bName_new (m := 65536) h1 h2 hnot (by rw [List.length_take]; omega)
  rw [this, List.take_add_one, hs]
  simp; omega
theorem five {h : AHeap A} {a b c d e : AObj A} (h0 : h[0]? = some a) (h1 : h[1]? = some b) (h2 : h[2]? = some c) (h3 : h[3]? = some d) (h4 : h[4]? = some e) : ∃ r, h = a :: b :: c :: d :: e :: r := by
  match h, h0, h1, h2, h3, h4 with
  | x0 :: x1 :: x2 :: x3 :: x4 :: r, h0, h1, h2, h3, h4 =>
    simp at h0 h1 h2 h3 h4
    subst h0 h1 h2 h3 h4
    exact ⟨r, rfl⟩
theorem set_left {α : Type} {l r : List α} {i : Nat} {x : α} (h : i < l.length) : (l ++ r).set i x = l.set i x ++ r := by
  rw [List.set_append, if_pos h]
section
variable {bk rbk : Int → List Bs → A} {dk rdk : List Bs → Ws → Bool → A} {jm : Nat → Nat → JS → A}
def ChI (bk rbk : Int → List Bs → A) (dk rdk : List Bs → Ws → Bool → A) (jm : Nat → Nat → JS → A) (B3 B4 : AObj A) (n : Nat) (mm : Nat) (y : List AVal) (g : AHeap A) : Prop :=
  ∃ (i jp q : Nat) (ts k : List Bs) (J : JS) (bs : List Int) (x : AVal) (rest : AHeap A), y = [.ptr (jp + 5) 0, x, .int .i64 i] ∧ g = .adt (bk 65536 ts) :: .adt (rbk 65536 []) :: .adt (dk k [] false) :: B3 :: B4 :: rest ∧ rest[jp]? = some (.adt (jm 0 2 J)) ∧ JInv 65536 ts k J ∧ ChainB ts k 0 0 bs J.prev ∧ bs.length = J.es.length ∧
    IntsAt x bs (q + 5) g ∧ 1 ≤ J.boot ∧ J.boot ≤ 1 + i ∧ J.es.length ≤ i ∧ k.length = 50 ∧ ts.length ≤ 1 + i ∧ ZTail k (2 + J.es.length) ∧ 1 ≤ rest.length ∧ i ≤ 30 ∧ i ≤ n ∧ mm = 30 - i
theorem bOk_take {m : Int} {ts : List Bs} (h : bOk m ts) (n : Nat) : bOk m (ts.take n) :=
  ⟨h.most, by have := h.len; rw [List.length_take]; omega, fun t ht => h.short t (List.mem_of_mem_take ht), h.nd.sublist (List.take_sublist n ts)⟩
def NmI (rbk : Int → List Bs → A) (A0 B1 D B3 : AObj A) (rest : AHeap A) (ts : List Bs) (mm : Nat) (y : List AVal) (g : AHeap A) : Prop :=
  ∃ n : Nat, y = [.int .i64 n] ∧ g = A0 :: B1 :: D :: B3 :: .adt (rbk 65536 (ts.take n)) :: rest ∧ n ≤ ts.length ∧ mm = ts.length - n
def RcI (A0 B1 D B3 B4 : AObj A) (rest : AHeap A) (ts k : List Bs) (bs : List Int) (e : Int) (mm : Nat) (y : List AVal) (g : AHeap A) : Prop :=
  ∃ (n : Nat) (p : Int) (r2 : AHeap A), y = [.int .i64 p, .int .i64 n] ∧ g = A0 :: B1 :: D :: B3 :: B4 :: (rest ++ r2) ∧ ChainB ts k n p (bs.drop n) e ∧ n ≤ bs.length ∧ mm = bs.length - n
def ChJ (bk rbk : Int → List Bs → A) (dk rdk : List Bs → Ws → Bool → A) (jm : Nat → Nat → JS → A) (B3 B4 : AObj A) (i N0 : Nat) (vs : List AVal) (g : AHeap A) : Prop :=
  ∃ (jp q : Nat) (t k : List Bs) (J : JS) (bs : List Int) (x : AVal) (rest : AHeap A), vs = [.ptr (jp + 5) 0, x] ∧ g = .adt (bk 65536 t) :: .adt (rbk 65536 []) :: .adt (dk k [] false) :: B3 :: B4 :: rest ∧ rest[jp]? = some (.adt (jm 0 2 J)) ∧ JInv 65536 t k J ∧ ChainB t k 0 0 bs J.prev ∧ bs.length = J.es.length ∧
    IntsAt x bs (q + 5) g ∧ 1 ≤ J.boot ∧ J.boot ≤ 1 + (i + 1) ∧ J.es.length ≤ i + 1 ∧ k.length = 50 ∧ t.length ≤ 1 + (i + 1) ∧ ZTail k (2 + J.es.length) ∧ N0 ≤ rest.length
set_option maxHeartbeats 4000000 in
theorem JournalChain_ok (hR : R.Ok) (hB : HasBook R bk) (hB' : HasRBook R rbk) (hD : HasDisk R dk) (hD' : HasRDisk R rdk) (hJ : HasJrn R jm) (a : AVal) (st : List Int) (ha : IsInts a st) : Tri Pr R n_law11_JournalChain [a] [] fun u _ => u = .bool true := by
  apply c_law11_JournalChain
  unfold p_law11_JournalChain
  refine awake11_ok hR hB hB' hD hD' hJ ?_
  simp -implicitDefEqProofs
  refine law11_twin_ok hR hB hB' 65536 ?_
  rw [if_pos (by omega)]
  simp -implicitDefEqProofs
  refine pair11_ok hR hD hD' (n := 50) (by omega) rfl ?_
  have hfr : JInv 65536 [] (List.replicate (50 : Int).toNat zSec) ⟨0, 0, [], false⟩ := JInv.fresh (by omega) (by omega)
  have hzt : ZTail (List.replicate (50 : Int).toNat zSec) 2 := ZTail.fresh _ _
  have hkl : (List.replicate (50 : Int).toNat zSec).length = 50 := rfl
  generalize List.replicate (50 : Int).toNat zSec = kz at *
  obtain ⟨ts1, k1, o1, o2, o3, o4, o5, o6⟩ := hfr.open (by simp) (by omega) (by simp) fun t k' _ _ hl hg => ZTail.end (n := 0) (by simpa using hzt) 0 t k' hl hg
  simp only [Int.zero_add, List.length_nil, Nat.zero_add] at o1 o2 o4
  simp -implicitDefEqProofs
  refine rbook_New_ok hR hB' 65536 ?_
  rw [if_pos (by omega)]
  simp -implicitDefEqProofs
  refine Open_ok hR hB hD hJ hfr.ok hfr.dk (by simp) o1 rfl rfl (by decide) ?_
  simp -implicitDefEqProofs
  refine num14_ok ?_
  simp -implicitDefEqProofs [ha.len]
  refine loopP_go (ChI bk rbk dk rdk jm (.adt (rdk kz [] false)) (.adt (rbk 65536 [])) st.length) 30 (Gives.done (by simp) ⟨0, 0, 0, ts1, k1, ⟨1, 0, [], false⟩, [], .nils, [.adt (jm 0 2 ⟨1, 0, [], false⟩)], rfl, rfl, rfl, o4, rfl, rfl, .inl ⟨rfl, rfl⟩, by simp, by simp, by simp, by omega, by omega, ?_, by simp, by omega, by omega, rfl⟩) ?_
  · intro j hj hj2
    have : 2 ≤ j := by simpa using hj
    rw [o6 j this]; exact hzt j this (by omega)
  rintro mm y g ⟨i, jp, q, ts, k, J, bs, x, rest, rfl, rfl, hjp, hI, hcb, hbl, hx, hb1, hb2, hel, hkn, htl, hz, hrl, hi30, hin, rfl⟩
  have e1 := w64 (n := (i : Int) + 1) (by omega)
  have hjl := (List.getElem?_eq_some_iff.1 hjp).1
  have hfit := hI.fits
  by_cases h1 : i < st.length ∧ i < 30
  · obtain ⟨h1, h2⟩ := h1
    have h1' : (i : Int) < (st.length : Int) := by omega
    have h2' : (i : Int) < 30 := by omega
    obtain ⟨bb, oo, cs, hget⟩ := ha.get (n := (i : Int)) (by omega) h1'
    generalize st.getD (i : Int).toNat 0 = pt at hget
    simp -implicitDefEqProofs [h1, h1', h2, h2']
    refine joinP_all (ChJ bk rbk dk rdk jm (.adt (rdk kz [] false)) (.adt (rbk 65536 [])) i rest.length) ?_ ?_
    · simp -implicitDefEqProofs [hget]
      refine iteP_of (fun h4 => ?_) (fun h4 => ?_)
      · obtain ⟨t2, k2, p1, p2, p3, p4, p5, p6⟩ := hI.open (by omega) (by omega) (by omega) fun t k' _ _ hl hg => hz.end J.prev t k' hl hg
        refine Open_ok hR hB hD hJ hI.ok hI.dk (by simp) p1 rfl rfl (by decide) ?_
        simp -implicitDefEqProofs
        refine num14_ok ?_
        simp -implicitDefEqProofs
        refine ⟨rest.length, q, t2, k2, ⟨J.boot + 1, J.prev, J.es, false⟩, bs, x, rest ++ [.adt (jm 0 2 ⟨J.boot + 1, J.prev, J.es, false⟩)], rfl, rfl, by simp, p4, hcb.move hI.ok.nd p4.ok.nd p3 hI.dk.full bs p5 fun j hj _ => p6 j (by omega), hbl, ?_, by simp only; omega, by simp only; omega, by simp only; omega, by omega, by omega, fun j hj hj2 => ?_, by simp⟩
        · refine hx.move fun h0 => ?_
          have hq : q < rest.length := by
            rcases hx with ⟨h, _⟩ | ⟨_, _, h⟩
            · exact absurd h h0
            · have := (List.getElem?_eq_some_iff.1 h).1; simp at this; omega
          simp only [List.getElem?_cons_succ]
          rw [List.getElem?_append_left hq]
        · rw [p6 j (by omega)]; exact hz j hj (by omega)
      · obtain ⟨t2, ss, p, a1, a2, a3, a4, a5, a6⟩ := hI.one (y := evS i) ⟨hb1, by simp only [nMay, decide_eq_true_eq]; omega⟩ (evS_may (by omega)) (by omega) (by omega) (by omega) hcb hbl
        obtain ⟨k2, hk2⟩ : ∃ k2, dPut k ([] ++ jWs (2 + (J.es.length : Int)) ss) = k2 := ⟨_, rfl⟩
        have hk2l : k2.length = k.length := by rw [← hk2, dPut_len]
        rw [hk2] at a4 a5 a6
        obtain ⟨X, hX⟩ : ∃ X : AObj A, .adt (jm 0 2 ⟨J.boot, p, J.es ++ [evS i], J.over⟩) = X := ⟨_, rfl⟩
        have hxq : bs ≠ [] → q < rest.length ∧ q ≠ jp := by
          intro h0
          rcases hx with ⟨h, _⟩ | ⟨_, _, h⟩
          · exact absurd h h0
          · simp only [List.getElem?_cons_succ] at h
            refine ⟨(List.getElem?_eq_some_iff.1 h).1, ?_⟩
            rintro rfl
            rw [hjp] at h
            simp at h
        have apn : ∀ (j : Nat) (K : AVal → AHeap A → Prop), j = rest.length + 5 → K (.int .i64 0) (.adt (bk 65536 t2) :: .adt (rbk 65536 []) :: .adt (dk k2 [] false) :: .adt (rdk kz [] false) :: .adt (rbk 65536 []) :: (rest.set jp X ++ [.cells t_api_Event (evS i).row])) →
            Tri Pr R n_journal_Journal_Append [.ptr (jp + 5) 0, .sl j 0 1 1 true] (.adt (bk 65536 ts) :: .adt (rbk 65536 []) :: .adt (dk k [] false) :: .adt (rdk kz [] false) :: .adt (rbk 65536 []) :: (rest ++ [.cells t_api_Event (evS i).row])) K := by
          rintro j K rfl hK
          refine Append_at (l := [evS i]) (J := J) hR hB hD hJ hI.ok hI.dk (by simp) (by omega) (by simp) a1 hk2 (b := 0) (d := 2) (j := jp + 5) rfl rfl ?_ (by omega) (EvsAt.at (by simp) rfl (by omega)) ?_
          · simp only [List.getElem?_cons_succ]
            rw [List.getElem?_append_left hjl]; exact hjp
          · simp only [List.set_cons_zero, List.set_cons_succ]
            rw [set_left hjl, hX]
            exact hK
        refine apn _ _ (by omega) ?_
        have hXj : ∀ L : AHeap A, (rest.set jp X ++ L)[jp]? = some X := fun L => by
          rw [List.getElem?_append_left (by simpa using hjl), List.getElem?_set_self hjl]
        have hsl : (rest.set jp X).length = rest.length := by simp
        have hqV : ∀ (L : AHeap A), bs ≠ [] → (rest.set jp X ++ L)[q]? = rest[q]? := fun L h0 => by
          obtain ⟨h3, h5⟩ := hxq h0
          rw [List.getElem?_append_left (by simpa using h3), List.getElem?_set_ne (Ne.symm h5)]
        obtain ⟨V, hV⟩ : ∃ V, rest.set jp X = V := ⟨_, rfl⟩
        rw [hV] at hXj hsl hqV ⊢
        refine Boot_ok hR hB hD hJ (J := ⟨J.boot, p, J.es ++ [evS i], J.over⟩) (b := 0) (d := 2) (j := jp + 5) rfl rfl ?_ (by omega) ?_
        · simp only [List.getElem?_cons_succ]
          rw [hXj, ← hX]
        dsimp only
        simp -implicitDefEqProofs
        have hat : ∀ o1 o2 : AObj A, (.adt (bk 65536 t2) :: .adt (rbk 65536 []) :: .adt (dk k2 [] false) :: .adt (rdk kz [] false) :: .adt (rbk 65536 []) :: (V ++ [o1, o2]) : AHeap A)[V.length + 1 + 1 + 1 + 1 + 1 + 1]? = some o2 := by
          intro o1 o2
          simp only [List.getElem?_cons_succ]
          rw [List.getElem?_append_right (by omega)]
          have : V.length + 1 - V.length = 1 := by omega
          rw [this]; rfl
        have hsr : srcOf 1 (.adt (bk 65536 t2) :: .adt (rbk 65536 []) :: .adt (dk k2 [] false) :: .adt (rdk kz [] false) :: .adt (rbk 65536 []) :: (V ++ [.cells t_api_Event (evS i).row, .cells t_int [.int .i64 J.boot]]) : AHeap A) (.sl (V.length + 1 + 1 + 1 + 1 + 1 + 1) 0 1 1 true) = some (1, [.int .i64 J.boot]) := by
          simp only [srcOf, cellsAt, hat, Option.bind_some, AObj.read]
          rfl
        refine app_ints (hx.move fun h0 => ?_) hsr (by omega) fun x' h' hx' hsame hl' => ?_
        · simp only [List.getElem?_cons_succ]
          exact hqV _ h0
        have n0 : ∀ j, j < 5 → bs = [] ∨ j ≠ q + 5 := fun j hj => .inr (by omega)
        obtain ⟨rest', rfl⟩ := five (hsame 0 (n0 0 (by omega)) (by simp)) (hsame 1 (n0 1 (by omega)) (by simp)) (hsame 2 (n0 2 (by omega)) (by simp)) (hsame 3 (n0 3 (by omega)) (by simp)) (hsame 4 (n0 4 (by omega)) (by simp))
        have hj5 : rest'[jp]? = some X := by
          have := hsame (jp + 5) (by
            by_cases h0 : bs = []
            · exact .inl h0
            · have := (hxq h0).2; exact .inr (by omega)) (by simp; omega)
          simp only [List.getElem?_cons_succ] at this
          rw [this, hXj]
        obtain ⟨q', hq'⟩ : ∃ q', (.adt (bk 65536 t2) :: .adt (rbk 65536 []) :: .adt (dk k2 [] false) :: .adt (rdk kz [] false) :: .adt (rbk 65536 []) :: (V ++ [.cells t_api_Event (evS i).row, .cells t_int [.int .i64 J.boot]]) : AHeap A).length = q' + 5 := ⟨_, rfl⟩
        rw [hq'] at hx'
        have hl2 : V.length ≤ rest'.length := by simp at hl'; omega
        refine num14_ok ?_
        simp -implicitDefEqProofs
        refine ⟨jp, q', t2, k2, ⟨J.boot, p, J.es ++ [evS i], J.over⟩, bs ++ [J.boot], x', rest', rfl, rfl, by rw [hj5, ← hX], a4, a5, by simp [hbl], hx', hb1, by simp only; omega, by simp; omega, by omega, by omega, fun j hj hj2 => ?_, by omega⟩
        simp only [List.length_append, List.length_cons, List.length_nil] at hj
        rw [a6 j (.inr (by omega))]
        exact hz j (by omega) (by omega)
    · rintro _ _ ⟨jp2, q2, t2, k2, J2, bs2, x2, rest2, rfl, rfl, r1, r2, r3, r4, r5, r6, r7, r8, r9, r10, r11, r12⟩
      refine ⟨by simp; omega, ?_⟩
      simp -implicitDefEqProofs [e1]
      refine Gives.done (by simp; omega) ⟨30 - (i + 1), by omega, i + 1, jp2, q2, t2, k2, J2, bs2, x2, rest2, rfl, rfl, r1, r2, r3, r4, r5, r6, by omega, r8, r9, by omega, r11, by omega, by omega, by omega, rfl⟩
  · by_cases c1 : i < st.length
    have c1' : (i : Int) < (st.length : Int) := by omega
    have c2 : ¬ i < 30 := fun h => h1 ⟨c1, h⟩
    have c2' : ¬ (i : Int) < 30 := by omega
    simp -implicitDefEqProofs [c1, c1', c2, c2']
    rotate_left
    have c1' : ¬ (i : Int) < (st.length : Int) := by omega
    simp -implicitDefEqProofs [c1, c1']
    all_goals (
      refine loopP_go (NmI rbk (.adt (bk 65536 ts)) (.adt (rbk 65536 [])) (.adt (dk k [] false)) (.adt (rdk kz [] false)) rest ts) ts.length (Gives.done (by simp) ⟨0, rfl, by simp, by omega, rfl⟩) ?_
      rintro mm y g ⟨n, rfl, rfl, hn, rfl⟩
      have en := w64 (n := (n : Int) + 1) (by omega)
      refine Len_at hR hB rfl rfl ?_
      by_cases hnl : n < ts.length
      · have hnl' : (n : Int) < (ts.length : Int) := by omega
        obtain ⟨s, hs⟩ : ∃ s, ts[n]? = some s := ⟨_, List.getElem?_eq_getElem hnl⟩
        simp -implicitDefEqProofs [hnl, hnl']
        refine book_Term_ok hR hB (n : Int) rfl ?_
        rw [bTerm_get hs]
        simp -implicitDefEqProofs
        refine rbook_Name_ok hR hB' (bOk_take hI.ok n) s rfl ?_
        rw [bName_take hI.ok hs]
        simp -implicitDefEqProofs
        refine num14_ok ?_
        simp -implicitDefEqProofs [en]
        exact Gives.done (by simp) ⟨ts.length - (n + 1), by omega, n + 1, rfl, rfl, by omega, rfl⟩
      · have hnl' : ¬ (n : Int) < (ts.length : Int) := by omega
        obtain rfl : n = ts.length := by omega
        simp -implicitDefEqProofs [hnl, hnl', List.take_length]
        refine loopP_go (RcI (.adt (bk 65536 ts)) (.adt (rbk 65536 [])) (.adt (dk k [] false)) (.adt (rdk kz [] false)) (.adt (rbk 65536 ts)) rest ts k bs J.prev) bs.length (Gives.done (by simp) ⟨0, 0, [], rfl, by simp, by simpa using hcb, by omega, rfl⟩) ?_
        rintro mm y g ⟨n, pv, r2, rfl, rfl, hc, hn, rfl⟩
        have en := w64 (n := (n : Int) + 1) (by omega)
        have en2 := w64 (n := 2 + (n : Int)) (by omega)
        obtain ⟨U, hU⟩ : ∃ U, rest ++ r2 = U := ⟨_, rfl⟩
        rw [hU]
        have hUr : rest.length ≤ U.length := by rw [← hU]; simp
        have hxm : ∀ L : AHeap A, IntsAt x bs (q + 5) (.adt (bk 65536 ts) :: .adt (rbk 65536 []) :: .adt (dk k [] false) :: .adt (rdk kz [] false) :: .adt (rbk 65536 ts) :: (U ++ L)) := fun L => hx.move fun h0 => by
          have hq : q < rest.length := by
            rcases hx with ⟨h, _⟩ | ⟨_, _, h⟩
            · exact absurd h h0
            · have := (List.getElem?_eq_some_iff.1 h).1; simp at this; omega
          simp only [List.getElem?_cons_succ]
          rw [← hU, List.append_assoc, List.getElem?_append_left hq]
        have rd : dRead k [] false (2 + (n : Int)) = (k.getD (2 + n) [], 0) := by
          unfold dRead; rw [if_neg (by simp), if_neg (by omega)]
          have : (2 + (n : Int)).toNat = 2 + n := by omega
          rw [this]; rfl
        have ls := getD_len hI.dk.full (i := 2 + n) (by omega)
        by_cases hnb : n < bs.length
        · have hnb' : (n : Int) < (bs.length : Int) := by omega
          rw [List.drop_eq_getElem_cons hnb] at hc
          obtain ⟨_, r, nm, g1, g2, g3⟩ := hc
          generalize k.getD (2 + n) [] = s at *
          obtain ⟨pt, hpt, hlv⟩ := (hxm [.cells t_api_Record r.row]).get hnb
          simp -implicitDefEqProofs [hx.len, hnb, hnb', en, en2]
          refine disk_Read_at hR hD hI.dk (by simp) rd rfl ?_
          simp -implicitDefEqProofs
          refine ref1_GetRecord_ok hR hB' hI.ok s (by omega) ((n : Int) + 1) pv rfl ?_
          rw [g1]
          have hrow : ∀ K : AHeap A → Prop, K (.adt (bk 65536 ts) :: .adt (rbk 65536 []) :: .adt (dk k [] false) :: .adt (rdk kz [] false) :: .adt (rbk 65536 ts) :: (U ++ [.cells t_api_Record r.row])) → stP 11 (.ptr (U.length + 1 + 1 + 1 + 1 + 1) 0) (.agg r.row) (.adt (bk 65536 ts) :: .adt (rbk 65536 []) :: .adt (dk k [] false) :: .adt (rdk kz [] false) :: .adt (rbk 65536 ts) :: (U ++ [.cells t_api_Record (reps 11 (.int .i64 0))])) K := fun K hK =>
            st_last (base := .adt (bk 65536 ts) :: .adt (rbk 65536 []) :: .adt (dk k [] false) :: .adt (rdk kz [] false) :: .adt (rbk 65536 ts) :: U) rfl rfl rfl hK
          unfold recGTup
          simp -implicitDefEqProofs
          refine hrow _ ?_
          refine joinP_all (fun vs g => vs = [.bool false] ∧ g = .adt (bk 65536 ts) :: .adt (rbk 65536 []) :: .adt (dk k [] false) :: .adt (rdk kz [] false) :: .adt (rbk 65536 ts) :: (U ++ [.cells t_api_Record r.row])) ?_ ?_
          · refine num14_ok ?_
            have hlv' := hlv
            unfold Rec.row at hlv'
            rw [g2] at hlv'
            simp -implicitDefEqProofs [hpt, Rec.row, g2]
            rw [hlv']
            simp -implicitDefEqProofs
          rintro _ _ ⟨rfl, rfl⟩
          refine ⟨by simp, ?_⟩
          simp -implicitDefEqProofs
          refine Gives.done (by simp; omega) ⟨bs.length - (n + 1), by omega, n + 1, nm, r2 ++ [.cells t_api_Record r.row], rfl, by rw [← hU]; simp, g3, by omega, rfl⟩
        · have hnb' : ¬ (n : Int) < (bs.length : Int) := by omega
          obtain rfl : n = bs.length := by omega
          have hzz : k.getD (2 + bs.length) [] = zSec := hz _ (by omega) (by omega)
          rw [hzz] at rd
          have hw0 := w64 (n := 2 + (bs.length : Int)) (by omega)
          simp -implicitDefEqProofs [hx.len, hnb, hnb', hw0]
          refine disk_Read_at hR hD hI.dk (by simp) rd rfl ?_
          simp -implicitDefEqProofs
          refine num14_ok ?_
          simp -implicitDefEqProofs [mkslP]
          have hz2 : ∀ o : AObj A, (.adt (bk 65536 ts) :: .adt (rbk 65536 []) :: .adt (dk k [] false) :: .adt (rdk kz [] false) :: .adt (rbk 65536 ts) :: (U ++ [o]) : AHeap A)[U.length + 1 + 1 + 1 + 1 + 1]? = some o := fun o => by simp
          refine z_read (hz2 _) (by rfl) ?_
          simp -implicitDefEqProofs)
end
end Go.AI

/- Journals: crashes that tear, plainly. -/
set_option linter.all false
namespace Go.AI
theorem bb_toNat3 {x : Int} (h : 0 ≤ x ∧ x < 256) : ((bb x).toNat : Int) = x := by
  have hall : ∀ k : Fin 256, ((bb (k.val : Int)).toNat : Int) = k.val := by decide +kernel
  obtain ⟨n, rfl⟩ := Int.eq_ofNat_of_zero_le h.1
  exact hall ⟨n, by omega⟩
theorem nS_byte {x : Int} (h : 1 ≤ x ∧ x < 256) : nS x = [1, bb x] := by
  have : nMay x = true := by simp only [nMay, decide_eq_true_eq]; omega
  simp only [nS, this, if_true, nE]
  rw [if_neg (by omega), if_pos (by omega)]
/-- The first bytes of a record's sector. -/
theorem rec_head {r : Rec} {n : Int} (h1 : 1 ≤ r.seq ∧ r.seq < 256) (h2 : 1 ≤ r.boot ∧ r.boot < 256) : ∃ s : Bs, pad (recBody r ++ nS n) = 1 :: bb r.seq :: 1 :: bb r.boot :: s := by
  rw [recBody_e, nS_byte h1, nS_byte h2]
  simp only [pad, List.cons_append, List.nil_append]
  exact ⟨_, rfl⟩
theorem recT_eq {r f : Rec} (hr : recMay r = true) (hf : recMay f = true) (h : recT r = recT f) : r = f := by
  obtain ⟨r0, _, r1, _, r2, r3, r4⟩ := recMay_all hr
  obtain ⟨f0, _, f1, _, f2, f3, f4⟩ := recMay_all hf
  have h1 : recBody r = recBody f := by simpa [recT] using h
  rw [recBody_e, recBody_e] at h1
  obtain ⟨e1, h2⟩ := nS_head r1 f1 h1
  obtain ⟨e2, h3⟩ := nS_head r2 f2 h2
  obtain ⟨e3, h4⟩ := nS_head r3 f3 h3
  have m1 : nMay ((evPut r.ev).length : Int) = true := by simp only [nMay, decide_eq_true_eq]; omega
  have m2 : nMay ((evPut f.ev).length : Int) = true := by simp only [nMay, decide_eq_true_eq]; omega
  obtain ⟨_, h5⟩ := nS_head m1 m2 h4
  have e4 : r.ev = f.ev := by
    have := evGet_dec r0
    rw [h5, evGet_dec f0] at this
    exact (Option.some.inj this).symm
  obtain ⟨a, b, c, d⟩ := r
  obtain ⟨a', b', c', d'⟩ := f
  simp only at e1 e2 e3 e4
  subst e1 e2 e3 e4
  rfl
/-- What the book holds: records of boots that were, each behind the one it names. -/
def BI (ts : List Bs) (b : Int) (n : Nat) : Prop :=
  ∀ (x : Int) (r : Rec), recMay r = true → bTerm ts x = (recT r, 0) → r.boot ≤ b ∧ (r.boot = b → r.seq ≤ n) ∧ r.prev < x ∧ ∀ q : Rec, recMay q = true → bTerm ts r.prev = (recT q, 0) → q.boot ≤ r.boot
theorem bTerm_lt {ts : List Bs} {x : Int} {s : Bs} (h : bTerm ts x = (s, 0)) : 0 ≤ x ∧ x < ts.length := by
  obtain ⟨i, rfl, hi⟩ := bTerm_iff.1 h
  have := (List.getElem?_eq_some_iff.1 hi).1
  omega
theorem bTerm_snoc {ts : List Bs} {s r : Bs} {x : Int} (h : bTerm (ts ++ [s]) x = (r, 0)) : bTerm ts x = (r, 0) ∨ (x = ts.length ∧ r = s) := by
  obtain ⟨i, rfl, hi⟩ := bTerm_iff.1 h
  by_cases hl : i < ts.length
  · rw [List.getElem?_append_left hl] at hi
    exact .inl (bTerm_get hi)
  · rw [List.getElem?_append_right (by omega)] at hi
    have hl2 := (List.getElem?_eq_some_iff.1 hi).1
    have : i = ts.length := by simp at hl2; omega
    subst this
    simp at hi
    exact .inr ⟨rfl, hi.symm⟩
theorem rec_ne_sup (r : Rec) (b : Int) : recT r ≠ supT b := by simp [recT, supT]
/-- Another boot's term. -/
theorem BI.sup {ts : List Bs} {b : Int} {n N : Nat} (h : BI ts b N) (c : Int) : BI (ts ++ [supT c]) (b + 1) n := by
  intro x r hr hx
  rcases bTerm_snoc hx with hx | ⟨_, h1⟩
  · obtain ⟨a1, a2, a3, a4⟩ := h x r hr hx
    refine ⟨by omega, fun h => by omega, a3, fun q hq hp => ?_⟩
    rcases bTerm_snoc hp with hp | ⟨_, h1⟩
    · exact a4 q hq hp
    · exact absurd h1 (rec_ne_sup _ _)
  · exact absurd h1 (rec_ne_sup _ _)
theorem BI.up {ts : List Bs} {b : Int} {n N : Nat} (h : BI ts b N) : BI ts (b + 1) n := by
  intro x r hr hx
  obtain ⟨a1, a2, a3, a4⟩ := h x r hr hx
  exact ⟨by omega, fun h => by omega, a3, a4⟩
/-- Another record. -/
theorem BI.rec {ts : List Bs} {b : Int} {n : Nat} (h : BI ts b n) {f : Rec} (hf : recMay f = true) (h1 : f.boot = b) (h2 : f.seq = n + 1) (h3 : f.prev < ts.length) : BI (ts ++ [recT f]) b (n + 1) ∧ recT f ∉ ts := by
  constructor
  · intro x r hr hx
    rcases bTerm_snoc hx with hx | ⟨rfl, he⟩
    · obtain ⟨a1, a2, a3, a4⟩ := h x r hr hx
      refine ⟨a1, fun h => by have := a2 h; omega, a3, fun q hq hp => ?_⟩
      rcases bTerm_snoc hp with hp | ⟨hp, _⟩
      · exact a4 q hq hp
      · have := bTerm_lt hx; omega
    · obtain rfl := recT_eq hr hf he
      refine ⟨by omega, fun _ => by omega, h3, fun q hq hp => ?_⟩
      rcases bTerm_snoc hp with hp | ⟨hp, _⟩
      · have := (h _ q hq hp).1; omega
      · omega
  · intro hm
    obtain ⟨i, hi⟩ := List.mem_iff_getElem?.1 hm
    have := (h i f hf (bTerm_get hi)).2.1 h1
    omega
/-- Records of one boot, one behind the other. -/
theorem jRecs_book {m b : Int} (hb : 1 ≤ b ∧ nMay b = true) (l : List Ev) : ∀ {ts : List Bs} {q : Nat} {p : Int} {t ss : List Bs} {p' : Int}, BI ts b q → p < ts.length → nMay p = true → l.all evMay = true → q + l.length ≤ 200 → (ts.length : Int) + l.length ≤ m → ts.length + l.length ≤ 256 → jRecs m b ts q p l = (t, ss, p', true) →
    BI t b (q + l.length) ∧ p' < t.length ∧ (∀ (x : Int) (r : Rec), recMay r = true → bTerm t x = (recT r, 0) → bTerm ts x = (recT r, 0) ∨ (r.boot = b ∧ q < r.seq ∧ ∃ d, ∃ hd : d < l.length, r.seq = (q : Int) + d + 1 ∧ r.ev = l[d])) := by
  induction l with
  | nil =>
    intro ts q p t ss p' hB hp _ _ _ _ _ hj
    unfold jRecs at hj
    have h1 := (Prod.mk.inj hj).1
    have h3 := (Prod.mk.inj (Prod.mk.inj (Prod.mk.inj hj).2).2).1
    rw [← h1, ← h3]
    exact ⟨by simpa using hB, hp, fun x r _ h => .inl h⟩
  | cons e l ih =>
    intro ts q p t ss p' hB hp hpm hall hq hm h256 hj
    simp only [List.all_cons, Bool.and_eq_true] at hall
    simp only [List.length_cons] at hq hm h256
    have hr : recMay ⟨(q : Int) + 1, b, p, e⟩ = true := by
      have h1 : nMay ((q : Int) + 1) = true := by simp only [nMay, decide_eq_true_eq]; omega
      have h2 := evPut_len hall.1
      simp [recMay, hall.1, h1, hb.1, hb.2, hpm]
      omega
    obtain ⟨b1, b2⟩ := hB.rec hr rfl rfl hp
    have r1 := recPut_new (m := m) hr b2 (by omega) (by omega)
    rw [jRecs_cons r1, if_pos rfl] at hj
    obtain ⟨⟨t2, s2, p2, ok⟩, hz⟩ : ∃ z, jRecs m b (ts ++ [recT ⟨(q : Int) + 1, b, p, e⟩]) ((q : Int) + 1) ts.length l = z := ⟨_, rfl⟩
    rw [hz] at hj
    unfold jApp at hj
    dsimp only at hj
    cases ok with
    | false => rw [if_neg (by simp)] at hj; exact absurd (Prod.mk.inj (Prod.mk.inj (Prod.mk.inj hj).2).2).2 (by simp)
    | true =>
      rw [if_pos rfl] at hj
      have h1 := (Prod.mk.inj hj).1
      have h3 := (Prod.mk.inj (Prod.mk.inj (Prod.mk.inj hj).2).2).1
      have hc : ((q + 1 : Nat) : Int) = (q : Int) + 1 := by omega
      rw [← hc] at hz
      have hn : nMay (ts.length : Int) = true := by simp only [nMay, decide_eq_true_eq]; omega
      have hl1 : (ts ++ [recT ⟨(q : Int) + 1, b, p, e⟩]).length = ts.length + 1 := by simp
      obtain ⟨c1, c2, c3⟩ := ih (q := q + 1) b1 (by rw [hl1]; omega) hn hall.2 (by omega) (by rw [hl1]; omega) (by rw [hl1]; omega) hz
      rw [← h1, ← h3]
      refine ⟨by have : q + (e :: l).length = q + 1 + l.length := by simp; omega
                 rw [this]; exact c1, c2, fun x r hr2 hx => ?_⟩
      rcases c3 x r hr2 hx with hx | ⟨d1, d2, d, hd, d3, d4⟩
      · rcases bTerm_snoc hx with hx | ⟨_, he⟩
        · exact .inl hx
        · obtain rfl := recT_eq hr2 hr he
          exact .inr ⟨rfl, by simp only; omega, 0, by simp, by simp, rfl⟩
      · exact .inr ⟨d1, by omega, d + 1, by simpa using hd, by omega, by simpa using d4⟩
/-- A sector behind the journal's end. -/
structure Stale (i : Nat) (B : Int) (x : Bs) : Prop where
  len : x.length = 64
  shape : x.take 3 = [1, bb ((i : Int) + 1), 1] ∨ x.drop 3 = List.replicate 61 0
  old : ((x.getD 3 0).toNat : Int) < B
theorem Stale.mono {i : Nat} {B C : Int} {x : Bs} (h : Stale i B x) (hc : B ≤ C) : Stale i C x := ⟨h.len, h.shape, by have := h.old; omega⟩
theorem Stale.z (i : Nat) {B : Int} (hB : 1 ≤ B) : Stale i B zSec := ⟨rfl, .inr rfl, by show ((0 : Nat) : Int) < B; omega⟩
/-- A record that is read out of a sector: the sector's first bytes. -/
theorem read_head {t : List Bs} (hn : t.Nodup) {B : Int} {N : Nat} (hB : BI t B N) (hB2 : B < 256) {x : Bs} {i : Nat} (hi : i < 200) {p : Int} {r : Rec} {nm : Int} (h : recGet t x (i + 1) p = (r, nm, 0)) : ((x.getD 3 0).toNat : Int) = r.boot ∧ 1 ≤ r.boot ∧ r.boot ≤ B ∧ ∃ s, x = 1 :: bb ((i : Int) + 1) :: 1 :: bb r.boot :: s := by
  obtain ⟨a1, a2, a3, a4, a5, a6, a7⟩ := recGet_some hn h
  obtain ⟨_, _, _, m4, _⟩ := recMay_all a1
  have b1 := (hB nm r a1 a3).1
  obtain ⟨s, hs⟩ := rec_head (r := r) (n := nm) (by omega) (by omega)
  rw [hs, a5] at a4
  refine ⟨?_, m4, b1, s, a4⟩
  rw [a4]
  exact bb_toNat3 (by omega)
/-- An old sector is not taken behind a record of this boot. -/
theorem Stale.not {t : List Bs} (hn : t.Nodup) {B : Int} {N : Nat} (hB : BI t B N) (hB2 : B < 256) {x : Bs} {i : Nat} (hi : i < 200) (hx : Stale i B x) {p : Int} (hp : OfBoot t p B) : (recGet t x (i + 1) p).2.2 ≠ 0 := by
  intro h0
  obtain ⟨⟨r, nm, e⟩, hr⟩ : ∃ z, recGet t x (i + 1) p = z := ⟨_, rfl⟩
  rw [hr] at h0
  simp only at h0
  subst h0
  obtain ⟨h1, _, _, _⟩ := read_head hn hB hB2 hi hr
  obtain ⟨a1, a2, a3, a4, a5, a6, a7⟩ := recGet_some hn hr
  obtain ⟨q, q1, q2, q3⟩ := hp
  have := (hB nm r a1 a3).2.2.2 q q1 (by rw [a6]; exact q3)
  have := hx.old
  omega
/-- A sector that is torn. -/
def hyb (n : Nat) (f old : Bs) : Bs := f.take n ++ old.drop n
theorem hyb_get {n : Nat} {f old : Bs} (hf : f.length = 64) (ho : old.length = 64) (j : Nat) : (hyb n f old)[j]? = if j < n then f[j]? else old[j]? := by
  unfold hyb
  by_cases hj : j < n
  · rw [if_pos hj]
    by_cases h2 : j < f.length
    · rw [List.getElem?_append_left (by rw [List.length_take]; omega), List.getElem?_take_of_lt hj]
    · rw [List.getElem?_append_right (by rw [List.length_take]; omega), List.getElem?_drop, List.getElem?_eq_none (by rw [List.length_take]; omega), List.getElem?_eq_none (by omega)]
  · rw [if_neg hj]
    by_cases h2 : n ≤ f.length
    · rw [List.getElem?_append_right (by rw [List.length_take]; omega), List.getElem?_drop, List.length_take]
      congr 1; omega
    · rw [List.getElem?_append_right (by rw [List.length_take]; omega), List.getElem?_drop, List.getElem?_eq_none (by rw [List.length_take]; omega), List.getElem?_eq_none (by omega)]
end Go.AI
