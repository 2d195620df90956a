/- Journals: events that are compared and copied, the disk, the data types. -/
import Derived.Test.YtjnnihaofffkfaaMcJournalForms
set_option linter.all false
namespace Go.AI
variable {A : Type} {R : Adts A}
/-- Events that can be read in a heap. -/
structure Rd (a : AVal) (l : List Ev) (h : AHeap A) : Prop where
  len : ∀ K : AVal → Prop, lenP a K = K (.int .i64 l.length)
  get : ∀ (i : Nat) (hi : i < l.length), ∃ p, (∀ K, idxP 8 a (.int .i64 i) K = K p) ∧ ldV 8 true p h = some (.agg l[i].row)
  src : srcOf 8 h a = some (l.length, l.flatMap Ev.row)
theorem Rd.of {a : AVal} {l : List Ev} {n : Nat} {t h : AHeap A} (ha : EvArg a l n t) (ht : ∀ k o, t[k]? = some o → h[n + k]? = some o) : Rd a l h := ⟨ha.len, ha.get h ht, ha.src h ht⟩
theorem Rd.nil (h : AHeap A) : Rd .nils [] h := Rd.of (EvArg.nil 0 []) (by simp)
theorem Rd.rows {a : AVal} {l : List Ev} (ha : IsRows Ev.row a l) (h : AHeap A) : Rd a l h := Rd.of (EvArg.rows ha 0 []) (by simp)
theorem Rd.sl (l : List Ev) (q cap : Nat) (ex : Bool) {e : TypeId} {h : AHeap A} (hq : h[q]? = some (.cells e (l.flatMap Ev.row))) : Rd (.sl q 0 l.length cap ex) l h := Rd.of (EvArg.sl l q cap ex e) (fun k o hk => by
  match k, hk with
  | 0, hk => simp at hk; subst hk; exact hq
  | k + 1, hk => simp at hk)
/-- A part of a list of events. -/
theorem Rd.part (l : List Ev) (i n q o cap : Nat) (ex : Bool) {e : TypeId} {h : AHeap A} (hq : h[q]? = some (.cells e (l.flatMap Ev.row))) (hi : i + n ≤ l.length) (ho : o = i * 8) : Rd (.sl q o n cap ex) ((l.drop i).take n) h := by
  subst ho
  have hl := evs_len l
  have hn : ((l.drop i).take n).length = n := by simp; omega
  have hdr : (l.flatMap Ev.row).drop (i * 8) = (l.drop i).flatMap Ev.row := by
    have h0 : l = l.take i ++ l.drop i := (List.take_append_drop i l).symm
    have h1 : ((l.take i).flatMap Ev.row).length = i * 8 := by rw [evs_len, List.length_take, Nat.min_eq_left (by omega)]
    conv => lhs; rw [h0, List.flatMap_append]
    rw [← h1, List.drop_left]
  have htk : ((l.drop i).flatMap Ev.row).take (n * 8) = ((l.drop i).take n).flatMap Ev.row := by
    have h0 : l.drop i = (l.drop i).take n ++ (l.drop i).drop n := (List.take_append_drop n _).symm
    have h1 : (((l.drop i).take n).flatMap Ev.row).length = n * 8 := by rw [evs_len, hn]
    conv => lhs; rw [h0, List.flatMap_append]
    rw [← h1, List.take_left]
  refine ⟨fun K => by simp [hn], fun j hj => ?_, ?_⟩
  · rw [hn] at hj
    refine ⟨.ptr q (i * 8 + j * 8), fun K => by simp [idxP, hj], ?_⟩
    have h3 : i * 8 + j * 8 + 8 ≤ (l.flatMap Ev.row).length := by omega
    have h2 := rows_drop (f := Ev.row) (n := 8) (fun x => rfl) l (i + j) (by omega)
    have h4 : ((l.flatMap Ev.row).drop (i * 8 + j * 8)).take 8 = l[i + j].row := by
      have : i * 8 + j * 8 = (i + j) * 8 := by omega
      rw [this, h2]; simp [Ev.row]
    have h5 : ((l.drop i).take n)[j]'(by rw [hn]; exact hj) = l[i + j] := by simp
    simp only [ldV, cellsAt, hq, AObj.read, Option.bind_some, h3, if_true, h4, h5]
  · simp only [srcOf, cellsAt, hq, Option.bind_some, AObj.read]
    rw [if_pos (by omega), hdr, htk, hn]
def SmI (g : AHeap A) (l r : List Ev) (m : Nat) (y : List AVal) (h : AHeap A) : Prop := ∃ i : Nat, y = [.int .i64 i] ∧ h = g ∧ i ≤ l.length ∧ l.take i = r.take i ∧ m = l.length - i
theorem SameEvents_ok (hR : R.Ok) {a b : AVal} {l r : List Ev} {h : AHeap A} (ha : Rd a l h) (hb : Rd b r h) (hn : l.length < 1000000000) {K : AVal → AHeap A → Prop} (hk : K (.bool (decide (l = r))) h) : Tri Pr R n_law0_SameEvents [a, b] h K := by
  apply c_law0_SameEvents
  unfold p_law0_SameEvents
  simp -implicitDefEqProofs [ha.len, hb.len]
  by_cases hlen : l.length = r.length
  · have h1 : ((l.length : Int) != (r.length : Int)) = false := by simp [hlen]
    simp -implicitDefEqProofs [h1]
    refine loopP_go (SmI h l r) l.length (Gives.done (by simp) ⟨0, rfl, rfl, by omega, rfl, by omega⟩) ?_
    rintro m y g ⟨i, rfl, rfl, hi, heq, rfl⟩
    have e1 := w64 (n := (i : Int) + 1) (by omega)
    by_cases hil : i < l.length
    · obtain ⟨p, hp, hv⟩ := ha.get i hil
      obtain ⟨q, hq, hw⟩ := hb.get i (by omega)
      have hil' : (i : Int) < (l.length : Int) := by omega
      have hs := shEv l[i] (r[i]'(by omega))
      simp -implicitDefEqProofs [hil, hil', hp, hv, hq, hw, hs]
      by_cases he : l[i] = r[i]'(by omega)
      · simp -implicitDefEqProofs [he, e1]
        refine Gives.done (by simp) ⟨l.length - (i + 1), by omega, i + 1, rfl, rfl, by omega, ?_, rfl⟩
        rw [List.take_add_one, List.take_add_one, heq, List.getElem?_eq_getElem hil, List.getElem?_eq_getElem (by omega : i < r.length), he]
      · have hne : l ≠ r := by rintro rfl; exact he rfl
        simp -implicitDefEqProofs [he]
        simpa [hne] using hk
    · have hil' : ¬ (i : Int) < (l.length : Int) := by omega
      have hlr : l = r := by
        rw [List.take_of_length_le (by omega), List.take_of_length_le (by omega)] at heq
        exact heq
      simp -implicitDefEqProofs [hil, hil']
      simpa [hlr] using hk
  · have h1 : ((l.length : Int) != (r.length : Int)) = true := by simp; omega
    have hne : l ≠ r := by rintro rfl; exact hlen rfl
    simp -implicitDefEqProofs [h1]
    simpa [hne] using hk
theorem CopyEvents_ok (hR : R.Ok) {a : AVal} {l : List Ev} {h : AHeap A} (ha : Rd a l h) (hsrc : srcOf 8 (h ++ [.cells t_api_Event []]) a = some (l.length, l.flatMap Ev.row)) (hn : l.length ≤ 1000000) {K : AVal → AHeap A → Prop}
    (hk : if l = [] then K (.sl h.length 0 0 0 true) (h ++ [.cells t_api_Event []]) else K (.sl (h.length + 1) 0 l.length l.length false) (h ++ [.cells t_api_Event [], .cells t_api_Event (l.flatMap Ev.row)])) : Tri Pr R n_law0_CopyEvents [a] h K := by
  apply c_law0_CopyEvents
  unfold p_law0_CopyEvents
  simp -implicitDefEqProofs
  refine app_new (t := t_api_Event) (by simp) hsrc hn ?_
  by_cases h0 : l = []
  · rw [if_pos h0] at hk ⊢; exact hk
  · rw [if_neg h0] at hk ⊢; simpa using hk
section
variable {dk rdk : List Bs → Ws → Bool → A}
theorem pair11_ok (hR : R.Ok) (hD : HasDisk R dk) (hD' : HasRDisk R rdk) {n : Int} {k : List Bs} (hn : 1 ≤ n ∧ n ≤ 256) (he : List.replicate n.toNat zSec = k) {h : AHeap A} {K : AVal → AHeap A → Prop}
    (hk : K (.tup [.ptr h.length 0, .ptr (h.length + 1) 0]) (h ++ [.adt (dk k [] false), .adt (rdk k [] false)])) : Tri Pr R n_law11_pair [.int .i64 n] h K := by
  apply c_law11_pair
  unfold p_law11_pair
  refine disk_New_at hR hD hn he ?_
  simp -implicitDefEqProofs
  refine rdisk_New_ok hR hD' n ?_
  rw [if_pos hn, he]
  simp -implicitDefEqProofs
  refine num14_ok ?_
  simp -implicitDefEqProofs
  simpa using hk
end
inductive JD where
  | book (m : Int) (ts : List Bs)
  | rbook (m : Int) (ts : List Bs)
  | disk (k : List Bs) (w : Ws) (d : Bool)
  | rdisk (k : List Bs) (w : Ws) (d : Bool)
  | jrn (b d : Nat) (J : JS)
def JD.lay : JD → Grp JD → Prop
  | .book m ts, g => g = bookG m ts
  | .rbook m ts, g => g = rbookG m ts
  | .disk k w d, g => g = diskG k w d
  | .rdisk k w d, g => g = rdiskG k w d
  | .jrn b d J, g => g = jG b d J
def JD.ren (τ : Nat → Nat) : JD → JD
  | .jrn b d J => .jrn (τ b) (τ d) J
  | a => a
def RJ : Adts JD := ⟨JD.lay, JD.ren⟩
theorem jG_ren {A : Type} (R : Adts A) (τ : Nat → Nat) (b d : Nat) (J : JS) : (jG b d J : Grp A).ren R τ = jG (τ b) (τ d) J := by
  unfold jG Grp.ren
  have h8 : rens τ (J.es.flatMap Ev.row) = J.es.flatMap Ev.row := rens_ix0 τ _ (evs_ix 0 _)
  split <;> simp [GC.ren, AVal.ren, AObj.ren, h8]
theorem RJ_ok : RJ.Ok := by
  intro a τ g'
  cases a with
  | book m ts => exact ⟨fun h => ⟨_, rfl, h.trans (bookG_ren RJ τ m ts).symm⟩, fun ⟨g, h1, h2⟩ => by subst h2; rw [show g = bookG m ts from h1, bookG_ren]; rfl⟩
  | rbook m ts => exact ⟨fun h => ⟨_, rfl, h.trans (rbookG_ren RJ τ m ts).symm⟩, fun ⟨g, h1, h2⟩ => by subst h2; rw [show g = rbookG m ts from h1, rbookG_ren]; rfl⟩
  | disk k w d => exact ⟨fun h => ⟨_, rfl, h.trans (diskG_ren RJ τ k w d).symm⟩, fun ⟨g, h1, h2⟩ => by subst h2; rw [show g = diskG k w d from h1, diskG_ren]; rfl⟩
  | rdisk k w d => exact ⟨fun h => ⟨_, rfl, h.trans (rdiskG_ren RJ τ k w d).symm⟩, fun ⟨g, h1, h2⟩ => by subst h2; rw [show g = rdiskG k w d from h1, rdiskG_ren]; rfl⟩
  | jrn b d J => exact ⟨fun h => ⟨_, rfl, h.trans (jG_ren RJ τ b d J).symm⟩, fun ⟨g, h1, h2⟩ => by subst h2; rw [show g = jG b d J from h1, jG_ren]; rfl⟩
theorem RJ_book : HasBook RJ JD.book := ⟨fun _ _ _ => Iff.rfl, fun _ _ _ => rfl⟩
theorem RJ_rbook : HasRBook RJ JD.rbook := ⟨fun _ _ _ => Iff.rfl, fun _ _ _ => rfl⟩
theorem RJ_disk : HasDisk RJ JD.disk := ⟨fun _ _ _ _ => Iff.rfl, fun _ _ _ _ => rfl⟩
theorem RJ_rdisk : HasRDisk RJ JD.rdisk := ⟨fun _ _ _ _ => Iff.rfl, fun _ _ _ _ => rfl⟩
theorem RJ_jrn : HasJrn RJ JD.jrn := ⟨fun _ _ _ _ => Iff.rfl, fun _ _ _ _ => rfl⟩
end Go.AI

/- Journals: what every program answers that is one. -/
set_option linter.all false
namespace Go.AI
variable {A : Type} {R : Adts A}
theorem jOpen_ok {m : Int} {ts t k k' : List Bs} {w w' : Ws} {dn : Bool} {res : Int ⊕ JS} (h : bOk m ts) (he : jOpen m ts k w dn = (t, k', w', res)) : bOk m t := by
  unfold jOpen at he
  split at he
  · simp only [Prod.mk.injEq] at he; rw [← he.1]; exact h
  · split at he
    · simp only [Prod.mk.injEq] at he; rw [← he.1]; exact h
    · obtain ⟨⟨boot, at_, e0⟩, he1⟩ : ∃ z, sPick ts ((dPut k w).getD 0 []) ((dPut k w).getD 1 []) = z := ⟨_, rfl⟩
      rw [he1] at he
      dsimp only at he
      have h2 := sPut_ok (boot := boot + 1) h
      obtain ⟨⟨t1, s, f⟩, he2⟩ : ∃ z, sPut m ts (boot + 1) = z := ⟨_, rfl⟩
      rw [he2] at he h2
      dsimp only at he h2
      split at he
      · simp only [Prod.mk.injEq] at he; rw [← he.1]; exact h2
      · simp only [Prod.mk.injEq] at he; rw [← he.1]; exact h2
theorem jOpen_dok {m : Int} {ts t k k' : List Bs} {w w' : Ws} {dn : Bool} {res : Int ⊕ JS} (h : dOk k w) (he : jOpen m ts k w dn = (t, k', w', res)) : dOk k' w' ∧ k'.length = k.length ∧ (w' = [] ∨ w' = w) := by
  unfold jOpen at he
  split at he
  · simp only [Prod.mk.injEq] at he; obtain ⟨_, rfl, rfl, _⟩ := he; exact ⟨h, rfl, .inr rfl⟩
  · split at he
    · simp only [Prod.mk.injEq] at he; obtain ⟨_, rfl, rfl, _⟩ := he; exact ⟨h, rfl, .inr rfl⟩
    · rename_i _ hsz
      obtain ⟨⟨boot, at_, e0⟩, he1⟩ : ∃ z, sPick ts ((dPut k w).getD 0 []) ((dPut k w).getD 1 []) = z := ⟨_, rfl⟩
      obtain ⟨p1, p2, p3, p4⟩ := sPick_may ts ((dPut k w).getD 0 []) ((dPut k w).getD 1 [])
      rw [he1] at he p1 p2 p3 p4
      dsimp only at he p1 p2 p3 p4
      obtain ⟨⟨t1, s, f⟩, he2⟩ : ∃ z, sPut m ts (boot + 1) = z := ⟨_, rfl⟩
      rw [he2] at he
      dsimp only at he
      by_cases hf : f = 0
      · rw [if_pos hf] at he
        subst hf
        simp only [Prod.mk.injEq] at he
        obtain ⟨_, rfl, rfl, _⟩ := he
        have := dOk_put (dOk_write h (x := at_) (s := s) ⟨by omega, by omega, sPut_sec he2⟩)
        rw [dPut_snoc] at this
        exact ⟨this, by rw [List.length_set, dPut_len], .inl rfl⟩
      · rw [if_neg hf] at he
        simp only [Prod.mk.injEq] at he; obtain ⟨_, rfl, rfl, _⟩ := he; exact ⟨h, rfl, .inr rfl⟩
theorem jPut_bok {m : Int} {ts t : List Bs} {J : JS} {n : Nat} {dn : Bool} {l : List Ev} {ss : List Bs} {p e : Int} (h : bOk m ts) (he : jPut m ts J n dn l = (t, ss, p, e)) : bOk m t := by
  have := jPut_ok (J := J) (size := n) (down := dn) (es := l) h
  rwa [he] at this
def evOne : Ev := ⟨0, 0, 0, 0, 0, 0, 0, 5⟩
def evTwo : Ev := ⟨8, 0, 0, 0, 0, 0, 0, 0⟩
def ev99 : Ev := ⟨99, 0, 0, 0, 0, 0, 0, 0⟩
def aw0 := jOpen 99 [] (List.replicate 5 zSec) [] false
def aw1 := jPut 99 aw0.1 ⟨1, 0, [], false⟩ 5 false [evOne]
def aw2 := jPut 99 aw1.1 ⟨1, 1, [evOne], false⟩ 5 false [evTwo, evTwo]
def awP := dPut aw0.2.1 ([] ++ jWs (2 + ((0 : Nat) : Int)) aw1.2.1)
def awW : Ws := [] ++ jWs (2 + ((1 : Nat) : Int)) aw2.2.1
def awK := dLost 1 5 awP awW
def aw4 := jOpen 99 aw2.1 awK [] false
section
variable {bk rbk : Int → List Bs → A} {dk rdk : List Bs → Ws → Bool → A} {jm : Nat → Nat → JS → A}
theorem Open_nil (hR : R.Ok) {x : AVal} {h : AHeap A} {K : AVal → AHeap A → Prop} (hk : K (.tup [.nilp, .int .i64 1]) h) : Tri Pr R n_journal_Open [.nilp, x] h K := by
  apply c_journal_Open
  unfold p_journal_Open
  simp -implicitDefEqProofs
  exact hk
theorem Open_nild (hR : R.Ok) {b : Nat} {h : AHeap A} {K : AVal → AHeap A → Prop} (hk : K (.tup [.nilp, .int .i64 1]) h) : Tri Pr R n_journal_Open [.ptr b 0, .nilp] h K := by
  apply c_journal_Open
  unfold p_journal_Open
  simp -implicitDefEqProofs
  exact hk
theorem Append_at (hR : R.Ok) (hB : HasBook R bk) (hD : HasDisk R dk) (hJ : HasJrn R jm) {m : Int} {ts t : List Bs} {k k2 : List Bs} {w : Ws} {dn : Bool} {J : JS} {a : AVal} {l : List Ev} {ss : List Bs} {p : Int} (hok : bOk m ts) (hdk : dOk k w) (hw : w.length ≤ 600) (hn : J.es.length ≤ 300) (hl : l.length < 1000000000)
    (he : jPut m ts J k.length dn l = (t, ss, p, 0)) (h2 : dPut k (w ++ jWs (2 + J.es.length) ss) = k2) {h : AHeap A} {b d j : Nat} (hb : h[b]? = some (.adt (bk m ts))) (hd : h[d]? = some (.adt (dk k w dn))) (hj : h[j]? = some (.adt (jm b d J))) (hne : b ≠ d ∧ b ≠ j ∧ d ≠ j) (ha : EvsAt a l h fun q => b ≠ q ∧ d ≠ q ∧ j ≠ q) {K : AVal → AHeap A → Prop}
    (hk : K (.int .i64 0) (((h.set b (.adt (bk m t))).set d (.adt (dk k2 [] dn))).set j (.adt (jm b d ⟨J.boot, p, J.es ++ l, J.over⟩)))) : Tri Pr R n_journal_Journal_Append [.ptr j 0, a] h K := by
  refine Append_ok hR hB hD hJ hok hdk hw hn hl he hb hd hj hne ha ?_
  rw [if_pos rfl, h2]; exact hk
theorem Append_bad (hR : R.Ok) (hB : HasBook R bk) (hD : HasDisk R dk) (hJ : HasJrn R jm) {m : Int} {ts t : List Bs} {k : List Bs} {w : Ws} {dn : Bool} {J : JS} {a : AVal} {l : List Ev} {ss : List Bs} {p e : Int} (hok : bOk m ts) (hdk : dOk k w) (hw : w.length ≤ 600) (hn : J.es.length ≤ 300) (hl : l.length < 1000000000)
    (he : jPut m ts J k.length dn l = (t, ss, p, e)) (h2 : e ≠ 0) {h : AHeap A} {b d j : Nat} (hb : h[b]? = some (.adt (bk m ts))) (hd : h[d]? = some (.adt (dk k w dn))) (hj : h[j]? = some (.adt (jm b d J))) (hne : b ≠ d ∧ b ≠ j ∧ d ≠ j) (ha : EvsAt a l h fun q => b ≠ q ∧ d ≠ q ∧ j ≠ q) {K : AVal → AHeap A → Prop}
    (hk : K (.int .i64 e) (h.set b (.adt (bk m t)))) : Tri Pr R n_journal_Journal_Append [.ptr j 0, a] h K := by
  refine Append_ok hR hB hD hJ hok hdk hw hn hl he hb hd hj hne ha ?_
  rw [if_neg h2]; exact hk
theorem Write_at (hR : R.Ok) (hB : HasBook R bk) (hD : HasDisk R dk) (hJ : HasJrn R jm) {m : Int} {ts t : List Bs} {k : List Bs} {w w2 : Ws} {dn : Bool} {J : JS} {a : AVal} {l : List Ev} {ss : List Bs} {p : Int} (hok : bOk m ts) (hdk : dOk k w) (hw : w.length ≤ 600) (hn : J.es.length ≤ 300) (hl : l.length < 1000000000)
    (he : jPut m ts J k.length dn l = (t, ss, p, 0)) (h2 : w ++ jWs (2 + J.es.length) ss = w2) {h : AHeap A} {b d j : Nat} (hb : h[b]? = some (.adt (bk m ts))) (hd : h[d]? = some (.adt (dk k w dn))) (hj : h[j]? = some (.adt (jm b d J))) (hne : b ≠ d ∧ b ≠ j ∧ d ≠ j) (ha : EvsAt a l h fun q => b ≠ q ∧ d ≠ q ∧ j ≠ q) {K : AVal → AHeap A → Prop}
    (hk : K (.int .i64 0) (((h.set b (.adt (bk m t))).set d (.adt (dk k w2 dn))).set j (.adt (jm b d ⟨J.boot, J.prev, J.es, true⟩)))) : Tri Pr R n_journal_Journal_Write [.ptr j 0, a] h K := by
  refine Write_ok hR hB hD hJ hok hdk hw hn hl he hb hd hj hne ha ?_
  rw [if_pos rfl, h2]; exact hk
theorem Write_bad (hR : R.Ok) (hB : HasBook R bk) (hD : HasDisk R dk) (hJ : HasJrn R jm) {m : Int} {ts t : List Bs} {k : List Bs} {w : Ws} {dn : Bool} {J : JS} {a : AVal} {l : List Ev} {ss : List Bs} {p e : Int} (hok : bOk m ts) (hdk : dOk k w) (hw : w.length ≤ 600) (hn : J.es.length ≤ 300) (hl : l.length < 1000000000)
    (he : jPut m ts J k.length dn l = (t, ss, p, e)) (h2 : e ≠ 0) {h : AHeap A} {b d j : Nat} (hb : h[b]? = some (.adt (bk m ts))) (hd : h[d]? = some (.adt (dk k w dn))) (hj : h[j]? = some (.adt (jm b d J))) (hne : b ≠ d ∧ b ≠ j ∧ d ≠ j) (ha : EvsAt a l h fun q => b ≠ q ∧ d ≠ q ∧ j ≠ q) {K : AVal → AHeap A → Prop}
    (hk : K (.int .i64 e) (h.set b (.adt (bk m t)))) : Tri Pr R n_journal_Journal_Write [.ptr j 0, a] h K := by
  refine Write_ok hR hB hD hJ hok hdk hw hn hl he hb hd hj hne ha ?_
  rw [if_neg h2]; exact hk
theorem Events_at (hR : R.Ok) (hB : HasBook R bk) (hD : HasDisk R dk) (hJ : HasJrn R jm) {m : Int} {ts k : List Bs} {w : Ws} {dn : Bool} {J : JS} (hn : J.es.length ≤ 300) (h0 : J.es ≠ []) {h : AHeap A} {b d j : Nat} (hb : h[b]? = some (.adt (bk m ts))) (hd : h[d]? = some (.adt (dk k w dn))) (hj : h[j]? = some (.adt (jm b d J))) (hne : b ≠ d ∧ b ≠ j ∧ d ≠ j) {K : AVal → AHeap A → Prop}
    (hk : K (.sl h.length 0 J.es.length J.es.length false) (h ++ [.cells t_api_Event (J.es.flatMap Ev.row)])) : Tri Pr R n_journal_Journal_Events [.ptr j 0] h K := by
  refine Events_ok hR hB hD hJ hn hb hd hj hne ?_
  rw [if_neg h0]; exact hk
theorem EvsAt.at {l : List Ev} {n q cap : Nat} {ex : Bool} {h : AHeap A} {x : Nat → Prop} (hq : h[q]? = some (.cells t_api_Event (l.flatMap Ev.row))) (hn : n = l.length) (hx : x q) : EvsAt (.sl q 0 n cap ex) l h x := by
  subst hn; exact .inr (.inr ⟨q, cap, ex, rfl, hq, hx⟩)
theorem awake11_ok (hR : R.Ok) (hB : HasBook R bk) (hB' : HasRBook R rbk) (hD : HasDisk R dk) (hD' : HasRDisk R rdk) (hJ : HasJrn R jm) {h : AHeap A} {K : AVal → AHeap A → Prop} (hk : K (.bool true) h) : Tri Pr R n_law11_awake [] h K := by
  refine Tri.fn1 hR _ rfl rfl ?_ hk
  apply c_law11_awake
  unfold p_law11_awake
  have b0 : bOk 99 [] := bOk_nil (by omega)
  have d0 : dOk (List.replicate 5 zSec) [] := dOk_new (n := 5) (by omega)
  have q0 : jOpen 99 [] (List.replicate 5 zSec) [] false = (aw0.1, aw0.2.1, [], .inr ⟨1, 0, [], false⟩) := by decide +kernel
  have q1 : jPut 99 aw0.1 ⟨1, 0, [], false⟩ aw0.2.1.length false [evOne] = (aw1.1, aw1.2.1, 1, 0) := by decide +kernel
  have q2 : jPut 99 aw1.1 ⟨1, 1, [evOne], false⟩ awP.length false [evTwo, evTwo] = (aw2.1, aw2.2.1, 3, 0) := by decide +kernel
  have q3 : jPut 99 aw2.1 ⟨1, 1, [evOne], true⟩ awP.length false [evOne] = (aw2.1, [], 0, 1102) := by decide +kernel
  have q4 : jOpen 99 aw2.1 awK [] false = (aw4.1, aw4.2.1, [], .inr ⟨2, 2, [evOne, evTwo], false⟩) := by decide +kernel
  have q5 : jPut 99 aw4.1 ⟨2, 2, [evOne, evTwo], false⟩ aw4.2.1.length false [evTwo, evTwo] = (aw4.1, [], 0, 1101) := by decide +kernel
  have q6 : jPut 99 aw4.1 ⟨2, 2, [evOne, evTwo], false⟩ aw4.2.1.length false [ev99] = (aw4.1, [], 0, 1100) := by decide +kernel
  have n4 : aw4.2.1.length = 5 := by decide +kernel
  have b1 := jOpen_ok b0 q0
  have d1 := (jOpen_dok d0 q0).1
  have b2 := jPut_bok b1 q1
  have d2 : dOk awP [] := dOk_put ((jPut_facts q1 d1).2 rfl).2.2.2.2.2
  have b3 := jPut_bok b2 q2
  have d3 : dOk awP awW := ((jPut_facts q2 d2).2 rfl).2.2.2.2.2
  have l3 : awW.length = 2 := by decide +kernel
  have d4 : dOk awK [] := dOk_lost d3 (by omega)
  have b5 := jOpen_ok b3 q4
  have d5 := (jOpen_dok d4 q4).1
  have eP : dPut aw0.2.1 ([] ++ jWs (2 + ((0 : Nat) : Int)) aw1.2.1) = awP := rfl
  have eW : ([] ++ jWs (2 + ((1 : Nat) : Int)) aw2.2.1 : Ws) = awW := rfl
  have eK : dLost 1 5 awP awW = awK := rfl
  generalize aw0.1 = t0 at *
  generalize aw0.2.1 = k0 at *
  generalize aw1.1 = t1 at *
  generalize aw1.2.1 = s1 at *
  generalize aw2.1 = t2 at *
  generalize aw2.2.1 = s2 at *
  generalize aw4.1 = t4 at *
  generalize aw4.2.1 = k4 at *
  generalize awP = kP at *
  generalize awW = wW at *
  generalize awK = kK at *
  refine law11_twin_ok hR hB hB' 99 ?_
  rw [if_pos (by omega)]
  simp -implicitDefEqProofs
  refine pair11_ok hR hD hD' (n := 5) (by omega) rfl ?_
  have e5 : (5 : Int).toNat = 5 := rfl
  rw [e5]
  generalize List.replicate 5 zSec = z5 at *
  simp -implicitDefEqProofs
  refine Open_ok hR hB hD hJ b0 d0 (by simp) q0 rfl rfl (by decide) ?_
  simp -implicitDefEqProofs
  refine Open_nil hR ?_
  simp -implicitDefEqProofs
  refine num14_ok ?_
  simp -implicitDefEqProofs
  refine Append_at (l := [evOne]) hR hB hD hJ b1 d1 (by simp) (by simp) (by simp) q1 eP rfl rfl rfl (by decide) (EvsAt.at rfl rfl (by decide)) ?_
  simp -implicitDefEqProofs
  refine Write_at (l := [evTwo, evTwo]) hR hB hD hJ b2 d2 (by simp) (by simp) (by simp) q2 eW rfl rfl rfl (by decide) (EvsAt.at rfl rfl (by decide)) ?_
  simp -implicitDefEqProofs
  refine Append_bad (l := [evOne]) hR hB hD hJ b3 d3 (by omega) (by simp) (by simp) q3 (by decide) rfl rfl rfl (by decide) (EvsAt.at rfl rfl (by decide)) ?_
  simp -implicitDefEqProofs
  refine disk_Crash_at hR hD d3 (by omega) (by omega) eK rfl ?_
  simp -implicitDefEqProofs
  refine disk_Restart_at hR hD rfl ?_
  simp -implicitDefEqProofs
  refine Open_ok hR hB hD hJ b3 d4 (by simp) q4 rfl rfl (by decide) ?_
  simp -implicitDefEqProofs
  refine num14_ok ?_
  simp -implicitDefEqProofs
  refine Append_bad (l := [evTwo, evTwo]) hR hB hD hJ b5 d5 (by simp) (by simp) (by simp) q5 (by decide) rfl rfl rfl (by decide) (EvsAt.at rfl rfl (by decide)) ?_
  simp -implicitDefEqProofs
  refine Append_bad (l := [ev99]) hR hB hD hJ b5 d5 (by simp) (by simp) (by simp) q6 (by decide) rfl rfl rfl (by decide) (EvsAt.at rfl rfl (by decide)) ?_
  simp -implicitDefEqProofs
  refine joinP_go ?_
  refine num14_ok ?_
  simp -implicitDefEqProofs
  refine Boot_ok hR hB hD hJ (b := 0) (d := 2) (j := 4) rfl rfl rfl (by decide) ?_
  simp -implicitDefEqProofs
  refine num14_ok ?_
  simp -implicitDefEqProofs
  refine num14_ok ?_
  simp -implicitDefEqProofs
  refine num14_ok ?_
  simp -implicitDefEqProofs
  refine Boot_ok hR hB hD hJ (b := 0) (d := 2) rfl rfl rfl (by decide) ?_
  simp -implicitDefEqProofs
  constructor
  · refine Events_at hR hB hD hJ (J := ⟨2, 2, [evOne, evTwo], false⟩) (b := 0) (d := 2) (j := 10) (by simp) (by simp) rfl rfl rfl (by decide) ?_
    simp -implicitDefEqProofs
    refine SameEvents_ok hR (l := [evOne, evTwo]) (r := [evOne, evTwo]) (Rd.sl [evOne, evTwo] 13 _ _ rfl) (Rd.sl [evOne, evTwo] 14 _ _ rfl) (by simp) ?_
    simp -implicitDefEqProofs
    refine Room_ok hR hB hD hJ (J := ⟨2, 2, [evOne, evTwo], false⟩) (b := 0) (d := 2) (j := 10) (k := k4) (by omega) (by simp) rfl rfl rfl (by decide) ?_
    rw [n4]
    simp -implicitDefEqProofs
    refine num14_ok ?_
    simp -implicitDefEqProofs
    refine num14_ok ?_
    simp -implicitDefEqProofs
    exact Ans.rfl' _
  · refine Events_at hR hB hD hJ (J := ⟨2, 2, [evOne, evTwo], false⟩) (b := 0) (d := 2) (j := 10) (by simp) (by simp) rfl rfl rfl (by decide) ?_
    simp -implicitDefEqProofs
    refine SameEvents_ok hR (l := [evOne, evTwo]) (r := [evOne, evTwo]) (Rd.sl [evOne, evTwo] 14 _ _ rfl) (Rd.sl [evOne, evTwo] 13 _ _ rfl) (by simp) ?_
    simp -implicitDefEqProofs
    refine Room_ok hR hB hD hJ (J := ⟨2, 2, [evOne, evTwo], false⟩) (b := 0) (d := 2) (j := 10) (k := k4) (by omega) (by simp) rfl rfl rfl (by decide) ?_
    rw [n4]
    simp -implicitDefEqProofs
    refine num14_ok ?_
    simp -implicitDefEqProofs
    refine num14_ok ?_
    simp -implicitDefEqProofs
    exact Ans.rfl' _
end
end Go.AI

/- JournalForms. -/
set_option linter.all false
namespace Go.AI
variable {A : Type} {R : Adts A}
def ev3 : Ev := ⟨0, 0, 0, 0, 0, 0, 0, 3⟩
def jf0 := jOpen 99 [] (List.replicate 6 zSec) [] false
def jf1 := jPut 99 jf0.1 ⟨1, 0, [], false⟩ 6 false [ev3]
def jfP := dPut jf0.2.1 ([] ++ jWs (2 + ((0 : Nat) : Int)) jf1.2.1)
def FormJ (H : AHeap A) (t1 : List Bs) (size : Nat) (vs : List AVal) (g : AHeap A) : Prop :=
  ∃ (l : List Ev) (want : Int), jPut 99 t1 ⟨1, 1, [ev3], false⟩ size false l = (t1, [], 0, want) ∧ want ≠ 0 ∧ l.length ≤ 5 ∧ vs = [.sl H.length 0 l.length l.length true, .int .i64 want] ∧ g = H ++ [.cells t_api_Event (l.flatMap Ev.row)]
theorem jPut_form {m : Int} {ts : List Bs} {J : JS} {n : Nat} {l : List Ev} (h0 : J.over = false) (h : l.all evMay = false) : jPut m ts J n false l = (ts, [], 0, 1100) := by
  unfold jPut
  rw [if_neg (by simp [h0]), h, if_neg (by simp)]
theorem jPut_full {m : Int} {ts : List Bs} {J : JS} {n : Nat} {l : List Ev} (h0 : J.over = false) (h : l.all evMay = true) (h1 : (n : Int) - 2 - J.es.length < l.length) : jPut m ts J n false l = (ts, [], 0, 1101) := by
  unfold jPut
  rw [if_neg (by simp [h0]), if_pos h, if_pos h1]
theorem jPut_none {m : Int} {ts : List Bs} {J : JS} {n : Nat} (h0 : J.over = false) (h1 : J.es.length + 2 ≤ n) : jPut m ts J n false [] = (ts, [], J.prev, 0) := by
  unfold jPut
  rw [if_neg (by simp [h0]), if_pos (show ([] : List Ev).all evMay = true from rfl), if_neg (by simp; omega)]
  rfl
theorem jPut_down {m : Int} {ts : List Bs} {J : JS} {n : Nat} {l : List Ev} : jPut m ts J n true l = (ts, [], 0, 1102) := by
  unfold jPut
  rw [if_pos (.inr rfl)]
section
variable {bk rbk : Int → List Bs → A} {dk rdk : List Bs → Ws → Bool → A} {jm : Nat → Nat → JS → A}
theorem JournalForms_ok (hR : R.Ok) (hB : HasBook R bk) (hB' : HasRBook R rbk) (hD : HasDisk R dk) (hD' : HasRDisk R rdk) (hJ : HasJrn R jm) (which x : Int) : Tri Pr R n_law11_JournalForms [.int .i64 which, .int .i64 x] [] fun u _ => u = .bool true := by
  apply c_law11_JournalForms
  unfold p_law11_JournalForms
  have b0 : bOk 99 [] := bOk_nil (by omega)
  have d0 : dOk (List.replicate 6 zSec) [] := dOk_new (n := 6) (by omega)
  have d02 : dOk (List.replicate 2 zSec) [] := dOk_new (n := 2) (by omega)
  have q0 : jOpen 99 [] (List.replicate 6 zSec) [] false = (jf0.1, jf0.2.1, [], .inr ⟨1, 0, [], false⟩) := by decide +kernel
  have q02 : jOpen 99 [] (List.replicate 2 zSec) [] false = ([], List.replicate 2 zSec, [], .inl 1100) := by decide +kernel
  have q1 : jPut 99 jf0.1 ⟨1, 0, [], false⟩ jf0.2.1.length false [ev3] = (jf1.1, jf1.2.1, 1, 0) := by decide +kernel
  have n0 : jf0.2.1.length = 6 := by decide +kernel
  have nP : jfP.length = 6 := by decide +kernel
  have b1 := jOpen_ok b0 q0
  have d1 := (jOpen_dok d0 q0).1
  have b2 := jPut_bok b1 q1
  have d2 : dOk jfP [] := dOk_put ((jPut_facts q1 d1).2 rfl).2.2.2.2.2
  have eP : dPut jf0.2.1 ([] ++ jWs (2 + ((0 : Nat) : Int)) jf1.2.1) = jfP := rfl
  have eP2 : dPut jfP ([] ++ jWs (2 + ((1 : Nat) : Int)) []) = jfP := rfl
  have eK : dLost 0 0 jfP [] = jfP := rfl
  generalize jf0.1 = t0 at *
  generalize jf0.2.1 = k0 at *
  generalize jf1.1 = t1 at *
  generalize jf1.2.1 = s1 at *
  generalize jfP = kP at *
  have q3 := jPut_none (m := 99) (ts := t1) (J := ⟨1, 1, [ev3], false⟩) (n := kP.length) rfl (by simp; omega)
  have q4 := jPut_down (m := 99) (ts := t1) (J := ⟨1, 1, [ev3], false⟩) (n := kP.length) (l := [ev0])
  have q5 : jOpen 99 t1 kP [] true = (t1, kP, [], .inl 1102) := rfl
  refine awake11_ok hR hB hB' hD hD' hJ ?_
  simp -implicitDefEqProofs
  rw [bits_mask x 10 (by omega) 1023 (by decide)]
  obtain ⟨x0, hx0, x1, x2⟩ : ∃ d, x % 2 ^ 10 = d ∧ 0 ≤ d ∧ d < 1024 := ⟨_, rfl, by omega, by omega⟩
  rw [hx0]
  have w1 := w64 (n := 1 + x0) (by omega)
  have w2 := w64 (n := 9 + (1 + x0)) (by omega)
  have w3 := w64 (n := -(1 + x0)) (by omega)
  simp -implicitDefEqProofs [w1]
  refine law11_twin_ok hR hB hB' 99 ?_
  rw [if_pos (by omega)]
  simp -implicitDefEqProofs
  refine pair11_ok hR hD hD' (n := 2) (by omega) rfl ?_
  have e2 : (2 : Int).toNat = 2 := rfl
  rw [e2]
  generalize List.replicate 2 zSec = z2 at *
  simp -implicitDefEqProofs
  refine pair11_ok hR hD hD' (n := 6) (by omega) rfl ?_
  have e6 : (6 : Int).toNat = 6 := rfl
  rw [e6]
  generalize List.replicate 6 zSec = z6 at *
  simp -implicitDefEqProofs
  refine Open_nild hR ?_
  simp -implicitDefEqProofs
  refine Open_ok hR hB hD hJ b0 d02 (by simp) q02 rfl rfl (by decide) ?_
  simp -implicitDefEqProofs
  refine Open_ok hR hB hD hJ b0 d0 (by simp) q0 rfl rfl (by decide) ?_
  simp -implicitDefEqProofs
  refine num14_ok ?_
  simp -implicitDefEqProofs
  refine Room_ok hR hB hD hJ (J := ⟨1, 0, [], false⟩) (b := 0) (d := 4) (j := 6) (k := k0) (by omega) (by simp) rfl rfl rfl (by decide) ?_
  rw [n0]
  simp -implicitDefEqProofs
  refine Append_at (l := [ev3]) hR hB hD hJ b1 d1 (by simp) (by simp) (by simp) q1 eP rfl rfl rfl (by decide) (EvsAt.at rfl rfl (by decide)) ?_
  simp -implicitDefEqProofs
  refine joinP_all (FormJ [.adt (bk 99 t1), .adt (rbk 99 []), .adt (dk z2 [] false), .adt (rdk z2 [] false), .adt (dk kP [] false), .adt (rdk z6 [] false), .adt (jm 0 4 ⟨1, 1, [ev3], false⟩), .cells t_api_Event ev3.row] t1 kP.length) ?_ ?_
  · obtain ⟨k, hk, k0', k9⟩ : ∃ k, (IntKind.u64.wrap which).tmod 4 = k ∧ 0 ≤ k ∧ k < 4 := by
      have h1 : 0 ≤ IntKind.u64.wrap which := by simp [IntKind.wrap, IntKind.signed, IntKind.bits]; omega
      exact ⟨_, rfl, Int.tmod_nonneg _ h1, Int.tmod_lt_of_pos _ (by omega)⟩
    have hm9 : evMay ⟨9 + (1 + x0), 0, 0, 0, 0, 0, 0, 0⟩ = false := by
      have : ¬ (0 ≤ 9 + (1 + x0) ∧ 9 + (1 + x0) ≤ 9) := by omega
      simp [evMay, this]
    have hmt : evMay ⟨0, 0, 0, 0, 0, 0, 0, -(1 + x0)⟩ = false := by
      have : nMay (-(1 + x0)) = false := by simp [nMay]; omega
      simp [evMay, evParts, this]
    have hmu : evMay ⟨0, 1 + x0, 0, 0, 0, 0, 0, 0⟩ = false := by
      have : ¬ (1 + x0 = 0) := by omega
      simp [evMay, evPlain, evOf, evParts, ev0, this]
    simp -implicitDefEqProofs [hk, w2, w3]
    refine iteP_of (fun _ => ?_) (fun _ => iteP_of (fun _ => ?_) (fun _ => iteP_of (fun _ => ?_) (fun _ => ?_)))
    · exact ⟨[ev0, ⟨9 + (1 + x0), 0, 0, 0, 0, 0, 0, 0⟩], 1100, jPut_form rfl (by simp [hm9]), by decide, by simp, rfl, rfl⟩
    · exact ⟨[⟨0, 0, 0, 0, 0, 0, 0, -(1 + x0)⟩], 1100, jPut_form rfl (by simp [hmt]), by decide, by simp, rfl, rfl⟩
    · exact ⟨[ev0, ev0, ev0, ev0], 1101, jPut_full rfl (by decide) (by rw [nP]; decide), by decide, by simp, rfl, rfl⟩
    · exact ⟨[ev0, ev0, ev0, ev0, ⟨0, 1 + x0, 0, 0, 0, 0, 0, 0⟩], 1100, jPut_form rfl (by simp [hmu]), by decide, by simp, rfl, rfl⟩
  rintro _ _ ⟨l, want, hp, hw0, hll, rfl, rfl⟩
  refine ⟨by simp, ?_⟩
  simp -implicitDefEqProofs
  refine Append_bad (l := l) hR hB hD hJ b2 d2 (by simp) (by simp) (by omega) hp hw0 (b := 0) (d := 4) (j := 6) rfl rfl rfl (by decide) (EvsAt.at rfl rfl (by decide)) ?_
  simp -implicitDefEqProofs
  refine Write_bad (l := l) hR hB hD hJ b2 d2 (by simp) (by simp) (by omega) hp hw0 (b := 0) (d := 4) (j := 6) rfl rfl rfl (by decide) (EvsAt.at rfl rfl (by decide)) ?_
  simp -implicitDefEqProofs
  refine Append_at (l := []) hR hB hD hJ b2 d2 (by simp) (by simp) (by simp) q3 eP2 (b := 0) (d := 4) (j := 6) rfl rfl rfl (by decide) (.inl ⟨rfl, rfl⟩) ?_
  simp -implicitDefEqProofs
  refine disk_Crash_at hR hD d2 (by simp) (by omega) eK rfl ?_
  simp -implicitDefEqProofs
  refine Append_bad (l := [ev0]) hR hB hD hJ b2 d2 (by simp) (by simp) (by simp) q4 (by decide) (b := 0) (d := 4) (j := 6) rfl rfl rfl (by decide) (EvsAt.at rfl rfl (by decide)) ?_
  simp -implicitDefEqProofs
  refine Open_ok hR hB hD hJ b2 d2 (by simp) q5 rfl rfl (by decide) ?_
  simp -implicitDefEqProofs
  repeat (refine num14_ok ?_; simp -implicitDefEqProofs)
  refine Events_at hR hB hD hJ (J := ⟨1, 1, [ev3], false⟩) (b := 0) (d := 4) (j := 6) (by simp) (by simp) rfl rfl rfl (by decide) ?_
  simp -implicitDefEqProofs
  refine SameEvents_ok hR (l := [ev3]) (r := [ev3]) (Rd.sl [ev3] 10 _ _ rfl) (Rd.sl [ev3] 11 _ _ rfl) (by simp) ?_
  simp -implicitDefEqProofs
  refine Room_ok hR hB hD hJ (J := ⟨1, 1, [ev3], false⟩) (b := 0) (d := 4) (j := 6) (k := kP) (by omega) (by simp) rfl rfl rfl (by decide) ?_
  rw [nP]
  simp -implicitDefEqProofs
end
end Go.AI
