/- Journals: the boot's number, the next record. -/
import Derived.Test.YtmdlhohhimdkaaaGreatMdAudits
set_option linter.all false
namespace Go.AI
variable {A : Type} {R : Adts A}
/-- The events' slice, and where they lie. -/
def EvAt (x : AVal) (es : List Ev) (e : Nat) (h : AHeap A) : Prop := (es = [] ∧ x = .nils) ∨ (es ≠ [] ∧ x = .sl e 0 es.length es.length false ∧ h[e]? = some (.cells t_api_Event (es.flatMap Ev.row)))
theorem EvAt.len {x : AVal} {es : List Ev} {e : Nat} {h : AHeap A} (he : EvAt x es e h) (K : AVal → Prop) : lenP x K = K (.int .i64 es.length) := by
  rcases he with ⟨rfl, rfl⟩ | ⟨_, rfl, _⟩ <;> simp
theorem EvAt.ix {x : AVal} {es : List Ev} {e : Nat} {h : AHeap A} (he : EvAt x es e h) : x.ix h.length = true := by
  rcases he with ⟨rfl, rfl⟩ | ⟨_, rfl, h1⟩
  · rfl
  · have := (List.getElem?_eq_some_iff.1 h1).1
    simpa [AVal.ix] using this
theorem EvAt.move {x : AVal} {es : List Ev} {e : Nat} {h h' : AHeap A} (he : EvAt x es e h) (hh : es ≠ [] → h'[e]? = h[e]?) : EvAt x es e h' := by
  rcases he with ⟨rfl, rfl⟩ | ⟨h0, rfl, h1⟩
  · exact .inl ⟨rfl, rfl⟩
  · exact .inr ⟨h0, rfl, by rw [hh h0]; exact h1⟩
theorem EvAt.app {x : AVal} {es : List Ev} {e : Nat} {h : AHeap A} (he : EvAt x es e h) (r : AHeap A) : EvAt x es e (h ++ r) := by
  rcases he with ⟨rfl, rfl⟩ | ⟨h0, rfl, h1⟩
  · exact .inl ⟨rfl, rfl⟩
  · exact .inr ⟨h0, rfl, by rw [List.getElem?_append_left (List.getElem?_eq_some_iff.1 h1).1]; exact h1⟩
section
variable {bk : Int → List Bs → A} {dk : List Bs → Ws → Bool → A}
end
end Go.AI

/- Journals: the next record, and Open. -/
set_option linter.all false
namespace Go.AI
variable {A : Type} {R : Adts A}
section
variable {bk : Int → List Bs → A} {dk : List Bs → Ws → Bool → A}
end
end Go.AI

/- Journals: Open. -/
set_option linter.all false
namespace Go.AI
variable {A : Type} {R : Adts A}
def jEvs (es : List Ev) : AHeap A := if es = [] then [] else [.cells t_api_Event (es.flatMap Ev.row)]
def jEv (es : List Ev) : AVal := if es = [] then .nils else .sl 3 0 es.length es.length false
end Go.AI

/- Journals: Open. -/
set_option linter.all false
namespace Go.AI
variable {A : Type} {R : Adts A}
section
variable {bk : Int → List Bs → A} {dk : List Bs → Ws → Bool → A} {jm : Nat → Nat → JS → A}
end
end Go.AI

/- Journals: what waits. -/
set_option linter.all false
namespace Go.AI
variable {A : Type} {R : Adts A}
section
variable {bk : Int → List Bs → A} {dk : List Bs → Ws → Bool → A}
def WrX (N : Nat) (ss : List Bs) : AVal := if ss = [] then .nils else .sl N 0 ss.length ss.length false
def WrS (ss : List Bs) : AHeap A := if ss = [] then [] else [.cells t_string (ss.map .str)]
def jApp (ss : List Bs) (z : List Bs × List Bs × Int × Bool) : List Bs × List Bs × Int × Bool := if z.2.2.2 = true then (z.1, ss ++ z.2.1, z.2.2.1, true) else (z.1, [], 0, false)
def WrI (bk : Int → List Bs → A) (B C : AObj A) (u : AHeap A) (m boot n prev : Int) (ts : List Bs) (l : List Ev) (mm : Nat) (y : List AVal) (g : AHeap A) : Prop :=
  ∃ (i : Nat) (ti : List Bs) (p : Int) (ss : List Bs), y = [WrX (3 + u.length) ss, .int .i64 p, .int .i64 i] ∧ g = .adt (bk m ti) :: B :: C :: (u ++ WrS ss) ∧ bOk m ti ∧ ss.length = i ∧ i ≤ l.length ∧ mm = l.length - i ∧
    jRecs m boot ts n prev l = jApp ss (jRecs m boot ti (n + i) p (l.drop i))
def WdI (dk : List Bs → Ws → Bool → A) (A0 C : AObj A) (u : AHeap A) (k : List Bs) (w : Ws) (q : Int) (ss : List Bs) (mm : Nat) (y : List AVal) (g : AHeap A) : Prop :=
  ∃ i : Nat, y = [.int .i64 i] ∧ g = A0 :: .adt (dk k (w ++ jWs q (ss.take i)) false) :: C :: (u ++ WrS ss) ∧ dOk k (w ++ jWs q (ss.take i)) ∧ i ≤ ss.length ∧ mm = ss.length - i
end
end Go.AI

/- Journals: the calls, wherever they stand. -/
set_option linter.all false
namespace Go.AI
variable {A : Type} {R : Adts A}
section
variable {bk : Int → List Bs → A} {dk : List Bs → Ws → Bool → A} {jm : Nat → Nat → JS → A}
end
end Go.AI

/- Journals: Append, Write. -/
set_option linter.all false
namespace Go.AI
variable {A : Type} {R : Adts A}
section
variable {bk : Int → List Bs → A} {dk : List Bs → Ws → Bool → A} {jm : Nat → Nat → JS → A}
theorem EvArg.mono {a : AVal} {l : List Ev} {n : Nat} {t : AHeap A} (h : EvArg a l n t) (r : AHeap A) : EvArg a l n (t ++ r) :=
  ⟨h.len, fun g hg => h.get g fun k o hk => hg k o (by rw [List.getElem?_append_left (List.getElem?_eq_some_iff.1 hk).1]; exact hk), fun g hg => h.src g fun k o hk => hg k o (by rw [List.getElem?_append_left (List.getElem?_eq_some_iff.1 hk).1]; exact hk)⟩
end
end Go.AI

/- Journals: Write, Events, and the calls wherever they stand. -/
set_option linter.all false
namespace Go.AI
variable {A : Type} {R : Adts A}
section
variable {bk : Int → List Bs → A} {dk : List Bs → Ws → Bool → A} {jm : Nat → Nat → JS → A}
/-- Events that stand somewhere: by themselves, or in an object. -/
def EvsAt (a : AVal) (l : List Ev) (h : AHeap A) (x : Nat → Prop) : Prop := (a = .nils ∧ l = []) ∨ IsRows Ev.row a l ∨ ∃ q cap ex, a = .sl q 0 l.length cap ex ∧ h[q]? = some (.cells t_api_Event (l.flatMap Ev.row)) ∧ x q
end
end Go.AI

/- Journals: Events; events that are compared and copied. -/
set_option linter.all false
namespace Go.AI
variable {A : Type} {R : Adts A}
/-- New memory that holds these events. -/
def NewEvs (es : List Ev) (p : Nat) : AVal := if es = [] then .nils else .sl p 0 es.length es.length false
section
variable {bk : Int → List Bs → A} {dk : List Bs → Ws → Bool → A} {jm : Nat → Nat → JS → A}
theorem app_new {a : AVal} {l : List Ev} {h : AHeap A} {p : Nat} {t : TypeId} (hp : h[p]? = some (.cells t [])) (hs : srcOf 8 h a = some (l.length, l.flatMap Ev.row)) (hl : l.length ≤ 2000000) {K : AVal → AHeap A → Prop}
    (hk : if l = [] then K (.sl p 0 0 0 true) h else K (.sl h.length 0 l.length l.length false) (h ++ [.cells t_api_Event (l.flatMap Ev.row)])) : appP t_api_Event 8 64 (.sl p 0 0 0 true) a h K := by
  unfold appP appV
  rw [hs]
  dsimp only
  by_cases h0 : l = []
  · subst h0
    rw [if_pos rfl] at hk
    have : setAt h p (0 + 0 * 8) [] = some h := by
      unfold setAt
      rw [hp]
      simp only [over]
      rw [if_pos ⟨by simp, rfl⟩]
      simp [set_same hp]
    simp only [List.length_nil, Nat.add_zero, Nat.le_refl, if_true, List.flatMap_nil, this, Option.map_some, optH]
    exact hk
  · rw [if_neg h0] at hk
    have hpos := List.length_pos_iff.2 h0
    rw [if_neg (by omega), hp]
    dsimp only
    rw [if_pos ⟨by omega, by simp, .inl ⟨rfl, rfl, by omega⟩⟩, if_pos rfl]
    simp only [optH]
    simpa using hk
end
end Go.AI

/- Twins of books, the statements of layer 11. -/
set_option linter.all false
namespace Go.AI
variable {A : Type} {R : Adts A}
section
variable {bk rbk : Int → List Bs → A}
end
end Go.AI

/- Journals: events that are compared and copied, the disk, the data types. -/
set_option linter.all false
namespace Go.AI
variable {A : Type} {R : Adts A}
/-- Events that can be read in a heap. -/
structure Rd (a : AVal) (l : List Ev) (h : AHeap A) : Prop where
  len : ∀ K : AVal → Prop, lenP a K = K (.int .i64 l.length)
  get : ∀ (i : Nat) (hi : i < l.length), ∃ p, (∀ K, idxP 8 a (.int .i64 i) K = K p) ∧ ldV 8 true p h = some (.agg l[i].row)
  src : srcOf 8 h a = some (l.length, l.flatMap Ev.row)
theorem Rd.of {a : AVal} {l : List Ev} {n : Nat} {t h : AHeap A} (ha : EvArg a l n t) (ht : ∀ k o, t[k]? = some o → h[n + k]? = some o) : Rd a l h := ⟨ha.len, ha.get h ht, ha.src h ht⟩
theorem Rd.nil (h : AHeap A) : Rd .nils [] h := Rd.of (EvArg.nil 0 []) (by simp)
theorem Rd.rows {a : AVal} {l : List Ev} (ha : IsRows Ev.row a l) (h : AHeap A) : Rd a l h := Rd.of (EvArg.rows ha 0 []) (by simp)
theorem Rd.sl (l : List Ev) (q cap : Nat) (ex : Bool) {e : TypeId} {h : AHeap A} (hq : h[q]? = some (.cells e (l.flatMap Ev.row))) : Rd (.sl q 0 l.length cap ex) l h := Rd.of (EvArg.sl l q cap ex e) (fun k o hk => by
  match k, hk with
  | 0, hk => simp at hk; subst hk; exact hq
  | k + 1, hk => simp at hk)
/-- A part of a list of events. -/
theorem Rd.part (l : List Ev) (i n q o cap : Nat) (ex : Bool) {e : TypeId} {h : AHeap A} (hq : h[q]? = some (.cells e (l.flatMap Ev.row))) (hi : i + n ≤ l.length) (ho : o = i * 8) : Rd (.sl q o n cap ex) ((l.drop i).take n) h := by
  subst ho
  have hl := evs_len l
  have hn : ((l.drop i).take n).length = n := by simp; omega
  have hdr : (l.flatMap Ev.row).drop (i * 8) = (l.drop i).flatMap Ev.row := by
    have h0 : l = l.take i ++ l.drop i := (List.take_append_drop i l).symm
    have h1 : ((l.take i).flatMap Ev.row).length = i * 8 := by rw [evs_len, List.length_take, Nat.min_eq_left (by omega)]
    conv => lhs; rw [h0, List.flatMap_append]
    rw [← h1, List.drop_left]
  have htk : ((l.drop i).flatMap Ev.row).take (n * 8) = ((l.drop i).take n).flatMap Ev.row := by
    have h0 : l.drop i = (l.drop i).take n ++ (l.drop i).drop n := (List.take_append_drop n _).symm
    have h1 : (((l.drop i).take n).flatMap Ev.row).length = n * 8 := by rw [evs_len, hn]
    conv => lhs; rw [h0, List.flatMap_append]
    rw [← h1, List.take_left]
  refine ⟨fun K => by simp [hn], fun j hj => ?_, ?_⟩
  · rw [hn] at hj
    refine ⟨.ptr q (i * 8 + j * 8), fun K => by simp [idxP, hj], ?_⟩
    have h3 : i * 8 + j * 8 + 8 ≤ (l.flatMap Ev.row).length := by omega
    have h2 := rows_drop (f := Ev.row) (n := 8) (fun x => rfl) l (i + j) (by omega)
    have h4 : ((l.flatMap Ev.row).drop (i * 8 + j * 8)).take 8 = l[i + j].row := by
      have : i * 8 + j * 8 = (i + j) * 8 := by omega
      rw [this, h2]; simp [Ev.row]
    have h5 : ((l.drop i).take n)[j]'(by rw [hn]; exact hj) = l[i + j] := by simp
    simp only [ldV, cellsAt, hq, AObj.read, Option.bind_some, h3, if_true, h4, h5]
  · simp only [srcOf, cellsAt, hq, Option.bind_some, AObj.read]
    rw [if_pos (by omega), hdr, htk, hn]
def SmI (g : AHeap A) (l r : List Ev) (m : Nat) (y : List AVal) (h : AHeap A) : Prop := ∃ i : Nat, y = [.int .i64 i] ∧ h = g ∧ i ≤ l.length ∧ l.take i = r.take i ∧ m = l.length - i
theorem SameEvents_ok (hR : R.Ok) {a b : AVal} {l r : List Ev} {h : AHeap A} (ha : Rd a l h) (hb : Rd b r h) (hn : l.length < 1000000000) {K : AVal → AHeap A → Prop} (hk : K (.bool (decide (l = r))) h) : Tri Pr R n_law0_SameEvents [a, b] h K := by
  apply c_law0_SameEvents
  unfold p_law0_SameEvents
  simp -implicitDefEqProofs [ha.len, hb.len]
  by_cases hlen : l.length = r.length
  · have h1 : ((l.length : Int) != (r.length : Int)) = false := by simp [hlen]
    simp -implicitDefEqProofs [h1]
    refine loopP_go (SmI h l r) l.length (Gives.done (by simp) ⟨0, rfl, rfl, by omega, rfl, by omega⟩) ?_
    rintro m y g ⟨i, rfl, rfl, hi, heq, rfl⟩
    have e1 := w64 (n := (i : Int) + 1) (by omega)
    by_cases hil : i < l.length
    · obtain ⟨p, hp, hv⟩ := ha.get i hil
      obtain ⟨q, hq, hw⟩ := hb.get i (by omega)
      have hil' : (i : Int) < (l.length : Int) := by omega
      have hs := shEv l[i] (r[i]'(by omega))
      simp -implicitDefEqProofs [hil, hil', hp, hv, hq, hw, hs]
      by_cases he : l[i] = r[i]'(by omega)
      · simp -implicitDefEqProofs [he, e1]
        refine Gives.done (by simp) ⟨l.length - (i + 1), by omega, i + 1, rfl, rfl, by omega, ?_, rfl⟩
        rw [List.take_add_one, List.take_add_one, heq, List.getElem?_eq_getElem hil, List.getElem?_eq_getElem (by omega : i < r.length), he]
      · have hne : l ≠ r := by rintro rfl; exact he rfl
        simp -implicitDefEqProofs [he]
        simpa [hne] using hk
    · have hil' : ¬ (i : Int) < (l.length : Int) := by omega
      have hlr : l = r := by
        rw [List.take_of_length_le (by omega), List.take_of_length_le (by omega)] at heq
        exact heq
      simp -implicitDefEqProofs [hil, hil']
      simpa [hlr] using hk
  · have h1 : ((l.length : Int) != (r.length : Int)) = true := by simp; omega
    have hne : l ≠ r := by rintro rfl; exact hlen rfl
    simp -implicitDefEqProofs [h1]
    simpa [hne] using hk
theorem CopyEvents_ok (hR : R.Ok) {a : AVal} {l : List Ev} {h : AHeap A} (ha : Rd a l h) (hsrc : srcOf 8 (h ++ [.cells t_api_Event []]) a = some (l.length, l.flatMap Ev.row)) (hn : l.length ≤ 2000000) {K : AVal → AHeap A → Prop}
    (hk : if l = [] then K (.sl h.length 0 0 0 true) (h ++ [.cells t_api_Event []]) else K (.sl (h.length + 1) 0 l.length l.length false) (h ++ [.cells t_api_Event [], .cells t_api_Event (l.flatMap Ev.row)])) : Tri Pr R n_law0_CopyEvents [a] h K := by
  apply c_law0_CopyEvents
  unfold p_law0_CopyEvents
  simp -implicitDefEqProofs
  refine app_new (t := t_api_Event) (by simp) hsrc hn ?_
  by_cases h0 : l = []
  · rw [if_pos h0] at hk ⊢; exact hk
  · rw [if_neg h0] at hk ⊢; simpa using hk
section
variable {dk rdk : List Bs → Ws → Bool → A}
end
inductive JD where
  | book (m : Int) (ts : List Bs)
  | rbook (m : Int) (ts : List Bs)
  | disk (k : List Bs) (w : Ws) (d : Bool)
  | rdisk (k : List Bs) (w : Ws) (d : Bool)
  | jrn (b d : Nat) (J : JS)
def JD.ren (τ : Nat → Nat) : JD → JD
  | .jrn b d J => .jrn (τ b) (τ d) J
  | a => a
end Go.AI

/- Journals: what every program answers that is one. -/
set_option linter.all false
namespace Go.AI
variable {A : Type} {R : Adts A}
def evOne : Ev := ⟨0, 0, 0, 0, 0, 0, 0, 5⟩
def evTwo : Ev := ⟨8, 0, 0, 0, 0, 0, 0, 0⟩
def ev99 : Ev := ⟨99, 0, 0, 0, 0, 0, 0, 0⟩
def aw0 := jOpen 99 [] (List.replicate 5 zSec) [] false
def aw1 := jPut 99 aw0.1 ⟨1, 0, [], false⟩ 5 false [evOne]
def aw2 := jPut 99 aw1.1 ⟨1, 1, [evOne], false⟩ 5 false [evTwo, evTwo]
def awP := dPut aw0.2.1 ([] ++ jWs (2 + ((0 : Nat) : Int)) aw1.2.1)
def awW : Ws := [] ++ jWs (2 + ((1 : Nat) : Int)) aw2.2.1
def awK := dLost 1 5 awP awW
def aw4 := jOpen 99 aw2.1 awK [] false
section
variable {bk rbk : Int → List Bs → A} {dk rdk : List Bs → Ws → Bool → A} {jm : Nat → Nat → JS → A}
theorem EvsAt.at {l : List Ev} {n q cap : Nat} {ex : Bool} {h : AHeap A} {x : Nat → Prop} (hq : h[q]? = some (.cells t_api_Event (l.flatMap Ev.row))) (hn : n = l.length) (hx : x q) : EvsAt (.sl q 0 n cap ex) l h x := by
  subst hn; exact .inr (.inr ⟨q, cap, ex, rfl, hq, hx⟩)
end
end Go.AI

/- The document's journal as a data type (printed by gen/rjrn.py). -/
set_option linter.all false
namespace Go.AI
variable {A : Type} {R : Adts A}
section
variable {bk : Int → List Bs → A} {dk : List Bs → Ws → Bool → A} {jm : Nat → Nat → JS → A}
end
end Go.AI

/- The document's journal: Open. -/
set_option linter.all false
namespace Go.AI
variable {A : Type} {R : Adts A}
section
variable {bk : Int → List Bs → A} {dk : List Bs → Ws → Bool → A} {jm : Nat → Nat → JS → A}
end
end Go.AI

/- The document's journal: put. -/
set_option linter.all false
namespace Go.AI
variable {A : Type} {R : Adts A}
def rdX (w : Ws) : AHeap A := if w = [] then [.dead] else [.dead, .dead]
section
variable {bk : Int → List Bs → A} {dk : List Bs → Ws → Bool → A} {jm : Nat → Nat → JS → A}
/-- Are the first ones events? -/
def PmI (g0 : AHeap A) (l : List Ev) (mm : Nat) (y : List AVal) (g : AHeap A) : Prop := ∃ i : Nat, y = [.int .i64 i] ∧ g = g0 ∧ i ≤ l.length ∧ (l.take i).all evMay = true ∧ mm = l.length - i
def PwI (bk : Int → List Bs → A) (B C : AObj A) (u : AHeap A) (m boot n prev : Int) (ts : List Bs) (l : List Ev) (mm : Nat) (y : List AVal) (g : AHeap A) : Prop :=
  ∃ (i : Nat) (ti : List Bs) (p : Int) (ss : List Bs), y = [.int .i64 p, WrX (3 + u.length) ss, .int .i64 i] ∧ g = .adt (bk m ti) :: B :: C :: (u ++ WrS ss) ∧ bOk m ti ∧ ss.length = i ∧ i ≤ l.length ∧ mm = l.length - i ∧
    jRecs m boot ts n prev l = jApp ss (jRecs m boot ti (n + i) p (l.drop i))
end
end Go.AI

/- The document's journal: put. -/
set_option linter.all false
namespace Go.AI
variable {A : Type} {R : Adts A}
section
variable {bk : Int → List Bs → A} {dk : List Bs → Ws → Bool → A}
end
end Go.AI

/- The document's journal: Append, Write. -/
set_option linter.all false
namespace Go.AI
variable {A : Type} {R : Adts A}
section
variable {bk : Int → List Bs → A} {dk : List Bs → Ws → Bool → A} {jm : Nat → Nat → JS → A}
def RdI (dk : List Bs → Ws → Bool → A) (A0 C : AObj A) (V : AHeap A) (k : List Bs) (w : Ws) (q : Int) (ss : List Bs) (mm : Nat) (y : List AVal) (g : AHeap A) : Prop :=
  ∃ i : Nat, y = [.int .i64 i] ∧ g = A0 :: .adt (dk k (w ++ jWs q (ss.take i)) false) :: C :: V ∧ dOk k (w ++ jWs q (ss.take i)) ∧ i ≤ ss.length ∧ mm = ss.length - i
end
end Go.AI

/- The document's journal, wherever it stands (printed by gen/rjrn5.py). -/
set_option linter.all false
namespace Go.AI
variable {A : Type} {R : Adts A}
section
variable {bk : Int → List Bs → A} {dk : List Bs → Ws → Bool → A} {jm : Nat → Nat → JS → A}
end
end Go.AI

/- Journals: events that are lent, kept, spoiled; journals that are opened. -/
set_option linter.all false
namespace Go.AI
variable {A : Type} {R : Adts A}
theorem room_647 {n : Nat} (h : n ≤ 10000000) : (2 * n + 1000) * 64 ≤ 140737488355328 := by omega
theorem app_evs7 {x a : AVal} {es l : List Ev} {e : Nat} {h : AHeap A} (he : EvAt x es e h) (hs : srcOf 8 h a = some (l.length, l.flatMap Ev.row)) (hn : es.length + l.length ≤ 10000000) {K : AVal → AHeap A → Prop}
    (hk : ∀ x' e' h', EvAt x' (es ++ l) e' h' → (∀ k, (es = [] ∨ k ≠ e) → k < h.length → h'[k]? = h[k]?) → h.length ≤ h'.length → ((es ≠ [] ∧ e' = e) ∨ h.length ≤ e') → K x' h') : appP t_api_Event 8 64 x a h K := by
  have r1 := room_647 (n := es.length + l.length) (by omega)
  have hl1 := evs_len es
  have hl2 := evs_len l
  unfold appP appV
  rw [hs]
  dsimp only
  rcases he with ⟨rfl, rfl⟩ | ⟨h0, rfl, h1⟩
  · dsimp only
    by_cases hl : l = []
    · subst hl
      simp only [List.length_nil, if_true, optH]
      exact hk _ h.length _ (.inl ⟨rfl, rfl⟩) (fun _ _ _ => rfl) (Nat.le_refl _) (.inr (Nat.le_refl _))
    · have h3 : ¬ l.length = 0 := fun h => hl (List.length_eq_zero_iff.1 h)
      have h4 : 0 < 64 ∧ l.length * 64 ≤ 140737488355328 := by omega
      rw [if_neg h3, if_pos h4]
      simp only [optH]
      refine hk _ h.length _ (.inr ⟨by simpa using hl, by simp, by simp⟩) (fun k _ hk' => by rw [List.getElem?_append_left hk']) (by simp) (.inr (Nat.le_refl _))
  · have hlt := (List.getElem?_eq_some_iff.1 h1).1
    dsimp only
    by_cases hl : l = []
    · subst hl
      rw [if_pos (by simp)]
      simp only [List.length_nil, List.flatMap_nil]
      have hset : setAt h e (0 + es.length * 8) [] = some h := by
        unfold setAt
        rw [h1]
        dsimp only
        rw [if_pos ⟨by simp only [List.length_nil]; omega, rfl⟩]
        have : over (es.flatMap Ev.row) (0 + es.length * 8) [] = es.flatMap Ev.row := by
          unfold over
          simp
        rw [this, set_same h1]
      rw [hset]
      simp only [Option.map_some, optH]
      exact hk _ e _ (.inr ⟨by simpa using h0, by simp, by simpa using h1⟩) (fun _ _ _ => rfl) (Nat.le_refl _) (.inl ⟨h0, rfl⟩)
    · have h3 : ¬ es.length + l.length ≤ es.length := by have := List.length_pos_iff.2 hl; omega
      rw [if_neg h3, h1]
      dsimp only
      have hsc : (l.flatMap Ev.row).all AVal.scalar = true := by
        rw [List.all_flatMap, List.all_eq_true]
        intro y _
        rfl
      rw [if_pos ⟨by omega, by omega, .inr r1⟩, if_neg (by simp), if_pos ⟨rfl, by omega, hsc⟩]
      simp only [optH]
      have t1 : (es.flatMap Ev.row).take (es.length * 8) = es.flatMap Ev.row := List.take_of_length_le (by omega)
      refine hk _ h.length _ (.inr ⟨by simp [h0], by simp, ?_⟩) (fun k hk1 hk' => ?_) (by simp) (.inr (Nat.le_refl _))
      · rw [List.getElem?_append_right (by simp)]
        simp [t1]
      · have hke : k ≠ e := by rcases hk1 with h | h; exact absurd h h0; exact h
        rw [List.getElem?_append_left (by simpa using hk'), List.getElem?_set_ne (Ne.symm hke)]
theorem rslP_hi {q n c len : Nat} {ex : Bool} {x : Int} (hx : x = (n : Int)) (h : n ≤ c) (hc : 0 < c) (K : AVal → Prop) : rslP 8 (.sl q 0 len c ex) none (some (.int .i64 x)) none K = K (.sl q 0 n c ex) := by
  subst hx
  have h1 : (n : Int) ≤ c := by omega
  simp [rslP, bnd, h1, h]
/-- Events that are handed in within an act. -/
def IsEvs (a : AVal) (l : List Ev) : Prop := IsRows Ev.row a l ∨ (l = [] ∧ ∃ x, a = .odd x)
theorem EvArg.odd (x : Addr) (n : Nat) (t : AHeap A) : EvArg (.odd x) [] n t := ⟨fun K => by simp, fun h _ i hi => by simp at hi, fun h _ => rfl⟩
theorem IsEvs.arg {a : AVal} {l : List Ev} (h : IsEvs a l) (n : Nat) (t : AHeap A) : EvArg a l n t := by
  rcases h with h | ⟨rfl, x, rfl⟩
  · exact EvArg.rows h n t
  · exact EvArg.odd x n t
theorem IsEvs.rd {a : AVal} {l : List Ev} (ha : IsEvs a l) (h : AHeap A) : Rd a l h := Rd.of (ha.arg 0 []) (by simp)
theorem IsEvs.ix {a : AVal} {l : List Ev} (h : IsEvs a l) : ixs 0 [a] = true := by
  rcases h with (⟨rfl, _⟩ | ⟨b, o, cap, rfl⟩) | ⟨_, x, rfl⟩ <;> rfl
theorem IsEvs.scalar {a : AVal} {l : List Ev} (h : IsEvs a l) : a.scalar = true := by
  rcases h with (⟨rfl, _⟩ | ⟨b, o, cap, rfl⟩) | ⟨_, x, rfl⟩ <;> rfl
def evMk : Ev := ⟨0, 0, 0, 0, 0, 0, 0, 77777⟩
theorem LendEvents_ok (hR : R.Ok) {a : AVal} {l : List Ev} (ha : IsEvs a l) (hn : l.length ≤ 1048576) {h : AHeap A} {K : AVal → AHeap A → Prop}
    (hk : K (.sl h.length 0 l.length (l.length + 2) false) (h ++ [.cells t_api_Event ((l ++ [evMk, evMk]).flatMap Ev.row)])) : Tri Pr R n_law0_LendEvents [a] h K := by
  have hx : ixs 0 [a] = true := ha.ix
  have hcl : AObj.closed R (.cells t_api_Event ((l ++ [evMk, evMk]).flatMap Ev.row) : AObj A) := closed_cells (evs_ix 0 _)
  refine Tri.make hR hx (v0 := .sl 0 0 l.length (l.length + 2) false) (h0 := [.cells t_api_Event ((l ++ [evMk, evMk]).flatMap Ev.row)]) (Tri.post ?_) (by simp only [AVal.ren, List.map_cons, List.map_nil, hcl.2, Nat.add_zero]; exact hk)
  apply c_law0_LendEvents
  unfold p_law0_LendEvents
  refine CopyEvents_ok hR (ha.rd _) ((ha.arg 0 []).src _ (by simp)) (by omega) ?_
  have hl := fun K => (ha.rd (A := A) []).len K
  have src : ∀ (h : AHeap A) (q : Nat), h[q]? = some (.cells t_api_Event (evMk.row ++ evMk.row)) → srcOf 8 h (.sl q 0 2 2 true) = some (([evMk, evMk] : List Ev).length, ([evMk, evMk] : List Ev).flatMap Ev.row) := by
    intro h q hq
    simp only [srcOf, cellsAt, hq, Option.bind_some, AObj.read]
    rfl
  have fin : ∀ (e : Nat) (g : AHeap A), g[e]? = some (.cells t_api_Event ((l ++ [evMk, evMk]).flatMap Ev.row)) → Gives Pr R 0 g [.sl e 0 l.length (l.length + 2) false] fun vs h2 => ∃ v, vs = [v] ∧ v = .sl 0 0 l.length (l.length + 2) false ∧ h2 = [.cells t_api_Event ((l ++ [evMk, evMk]).flatMap Ev.row)] := by
    intro e g hg
    refine Gives.selc hR [e] [.cells t_api_Event ((l ++ [evMk, evMk]).flatMap Ev.row)] [.sl 0 0 l.length (l.length + 2) false] (by simp) rfl (by simp) (fun k j hk => ?_) (by simpa using hcl) ?_ (by simp [ixs, AVal.ix]) (by simp) ⟨_, rfl, rfl, rfl⟩
    · match k, hk with
      | 0, hk => simp at hk; subst hk; simpa using hg
      | k + 1, hk => simp at hk
    · simp [rens, AVal.ren]
  by_cases h0 : l = []
  · rw [if_pos h0]
    subst h0
    simp -implicitDefEqProofs
    refine app_new (l := [evMk, evMk]) rfl (src _ _ rfl) (by simp) ?_
    rw [if_neg (by simp)]
    simp -implicitDefEqProofs [hl]
    rw [rslP_hi (n := 0) (x := 0) rfl (by omega) (by omega)]
    exact fin 2 _ rfl
  · rw [if_neg h0]
    simp -implicitDefEqProofs
    refine app_evs7 (es := l) (l := [evMk, evMk]) (e := 1) (.inr ⟨h0, rfl, rfl⟩) (src _ _ rfl) (by simp; omega) fun x' e' h' hev hsame hl' he' => ?_
    simp -implicitDefEqProofs [hl]
    rcases hev with ⟨h, _⟩ | ⟨_, rfl, hg⟩
    · simp at h
    · rw [rslP_hi (n := l.length) rfl (by simp) (by simp)]
      have := fin e' h' hg
      simpa using this
theorem KeptEvents_ok (hR : R.Ok) {a : AVal} {l : List Ev} (ha : IsEvs a l) (hn : l.length ≤ 1048576) {h : AHeap A} {q : Nat} (hq : h[q]? = some (.cells t_api_Event ((l ++ [evMk, evMk]).flatMap Ev.row))) {K : AVal → AHeap A → Prop}
    (hk : K (.bool true) h) : Tri Pr R n_law0_KeptEvents [.sl q 0 l.length (l.length + 2) false, a] h K := by
  apply c_law0_KeptEvents
  unfold p_law0_KeptEvents
  have e1 := w64 (n := (l.length : Int) + 2) (by omega)
  have e2 := w64 (n := (l.length : Int) + 1) (by omega)
  have hl := fun K => (ha.rd h).len K
  have hp1 : Rd (.sl q 0 l.length (l.length + 2) false) l h := by
    have := Rd.part (l ++ [evMk, evMk]) 0 l.length q 0 (l.length + 2) false hq (by simp) rfl
    simpa using this
  have hp2 : Rd (.sl q 0 (l.length + 2) (l.length + 2) false) (l ++ [evMk, evMk]) h := by
    have := Rd.part (l ++ [evMk, evMk]) 0 (l.length + 2) q 0 (l.length + 2) false hq (by simp) rfl
    have e9 : List.take (l.length + 2) (l ++ [evMk, evMk]) = l ++ [evMk, evMk] := List.take_of_length_le (by simp)
    simpa [e9] using this
  obtain ⟨x1, hx1, hv1⟩ := hp2.get l.length (by simp)
  obtain ⟨x2, hx2, hv2⟩ := hp2.get (l.length + 1) (by simp)
  have g1 : (l ++ [evMk, evMk])[l.length]'(by simp) = evMk := by simp
  have g2 : (l ++ [evMk, evMk])[l.length + 1]'(by simp) = evMk := by simp
  rw [g1] at hv1
  rw [g2] at hv2
  have c2 : ((l.length + 1 : Nat) : Int) = (l.length : Int) + 1 := by omega
  rw [c2] at hx2
  simp -implicitDefEqProofs [e1]
  rw [rslP_hi (n := l.length + 2) (by omega) (by omega) (by omega)]
  refine SameEvents_ok hR (l := l) (r := l) hp1 (ha.rd h) (by omega) ?_
  simp -implicitDefEqProofs [hl, hx1, hv1, hx2, hv2, e2, evMk, Ev.row]
  exact hk
def SpI (h : AHeap A) (q n : Nat) (mm : Nat) (y : List AVal) (g : AHeap A) : Prop :=
  ∃ (i : Nat) (cs : List AVal), y = [.int .i64 i] ∧ g = h.set q (.cells t_api_Event cs) ∧ cs.length = n * 8 ∧ (∀ j, j < n → ∃ x, cs[j * 8 + 7]? = some (.int .i64 x)) ∧ i ≤ n ∧ mm = n - i
end Go.AI

/- Audits: events that are written over. -/
set_option linter.all false
namespace Go.AI
variable {A : Type} {R : Adts A}
def SplE (x : AVal) (n : Nat) (h : AHeap A) (mm : Nat) (y : List AVal) (g : AHeap A) : Prop :=
  ∃ (i : Nat) (l : List Ev), y = [.int .i64 i] ∧ i ≤ n ∧ l.length = n ∧ Own Ev.row 8 t_api_Event x l g ∧ (∀ k, x.blk ≠ some k → g[k]? = h[k]?) ∧ g.length = h.length ∧ mm = n - i
theorem law0_SpoilEventsO_ok {x : AVal} {l : List Ev} {h : AHeap A} (ov : Own Ev.row 8 t_api_Event x l h) (hn : l.length ≤ 2000000) {K : AVal → AHeap A → Prop} (hk : ∀ g, (∀ k, x.blk ≠ some k → g[k]? = h[k]?) → g.length = h.length → K (.tup []) g) : Tri Pr R n_law0_SpoilEvents [x] h K := by
  apply c_law0_SpoilEvents
  unfold p_law0_SpoilEvents
  refine loopP_go (SplE x l.length h) l.length (Gives.done (Nat.le_refl _) ⟨0, l, rfl, by omega, rfl, ov, fun _ _ => rfl, rfl, by omega⟩) ?_
  rintro mm y g ⟨i, l2, rfl, hi, hl2, o2, fr, ln, rfl⟩
  have rd := o2.rd evR
  have lx := rd.len
  have wi := w64 (n := (i : Int) + 1) (by omega)
  by_cases h1 : i < l2.length
  · have h1' : (i : Int) < l2.length := by omega
    obtain ⟨b, hb, hix, hat⟩ := o2.el evR h1
    have v6 : ldV 1 false (.ptr b (i * 8 + 7)) g = some (.int .i64 (l2[i]).tick) := hat.cell 7 (by simp [Ev.row])
    have v6' : (g[b]?.bind AObj.read).bind (fun cs => cs[i * 8 + 7]?) = some (.int .i64 (l2[i]).tick) := by simpa using v6
    simp -implicitDefEqProofs [lx, h1', hix, AObj.read, v6']
    refine o2.sth evR h1 hb (off := 7) (o := i * 8 + 7) (c := [.int .i64 (bits .i64 (fun x1 x2 => x1 ^^^ x2) (l2[i]).tick 90)]) { l2[i] with tick := bits .i64 (fun x1 x2 => x1 ^^^ x2) (l2[i]).tick 90 } rfl (by simp) rfl rfl fun h2 own2 f2 n2 => ?_
    simp -implicitDefEqProofs [wi]
    exact Gives.done (by omega) ⟨l.length - (i + 1), by omega, i + 1, _, by simp, by omega, by simp [hl2], own2, fun k hk => (f2 k fun h9 => hk (h9 ▸ hb)).trans (fr k hk), by omega, rfl⟩
  · have h1' : ¬ (i : Int) < l2.length := by omega
    simp -implicitDefEqProofs [lx, h1']
    exact hk g fr ln
theorem RdS.rd8 {x : AVal} {l : List Ev} {h : AHeap A} (hx : RdS Ev.row 8 x l h) : Rd x l h := ⟨hx.len, fun i hi => by
  obtain ⟨p, hp, ha⟩ := hx.get i hi
  exact ⟨p, hp, ha.all⟩, hx.src⟩
theorem Own.lent {es : List Ev} {q : Nat} {h : AHeap A} (hq : h[q]? = some (.cells t_api_Event ((es ++ [evMk, evMk]).flatMap Ev.row))) : Own Ev.row 8 t_api_Event (.sl q 0 es.length (es.length + 2) false) es h := by
  refine .inr ⟨q, _, false, _, rfl, hq, ?_, by omega, ?_, rows_ix evR _⟩
  · rw [rows_len evR]; simp
  · rw [List.flatMap_append, ← rows_len evR es, List.take_left]
theorem IsFz.evs {a : AVal} {es : List Ev} (ha : IsFz Ev.row a es) : IsEvs a es := by
  rcases ha with ⟨rfl, rfl⟩ | ⟨b, o, cap, rfl⟩ | ⟨rfl, x, rfl⟩
  · exact .inl (.inl ⟨rfl, rfl⟩)
  · exact .inl (.inr ⟨b, o, cap, rfl⟩)
  · exact .inr ⟨rfl, x, rfl⟩
end Go.AI

/- Audits: states behind events: users, sessions, addresses. -/
set_option linter.all false
namespace Go.AI
structure SI (n : Int) (S : Sta) : Prop where
  nd : (uids S).Nodup
  ur : ∀ u ∈ S.users, (0 ≤ u.user ∧ u.user < 8) ∧ 0 ≤ u.used ∧ u.used ≤ 1073741823
  xu : ∀ x ∈ S.sess, x.user ∈ uids S
  xi : ∀ x ∈ S.sess, 0 ≤ x.session ∧ x.session < S.next
  xd : (S.sess.map Ses.session).Nodup
  xa : ∀ x ∈ S.sess, 0 ≤ x.address ∧ x.address < S.addrs.length ∧ (S.addrs.getD x.address.toNat adr0).busy = true
  ad : (S.sess.map Ses.address).Nodup
  al : (S.addrs.length : Int) = n
  nx : 0 ≤ S.next
theorem SI.new {n : Int} {S : Sta} (h : sNew n = some S) : SI n S := by
  unfold sNew pNew at h
  split at h
  · rename_i h1
    simp at h; subst h
    exact ⟨by simp [uids, sta0], by simp [sta0], by simp [sta0], by simp [sta0], by simp [sta0], by simp [sta0], by simp [sta0], by simp; omega, by simp [sta0]⟩
  · simp at h
theorem evMay_user {E : Ev} (hm : evMay E = true) (hk : E.kind = 1 ∨ E.kind = 2 ∨ E.kind = 3 ∨ E.kind = 4 ∨ E.kind = 5 ∨ E.kind = 7) : 0 ≤ E.user ∧ E.user < 8 := by
  simp only [evMay, Bool.and_eq_true, decide_eq_true_eq] at hm
  obtain ⟨⟨⟨⟨⟨⟨⟨_, _⟩, h3⟩, h4⟩, _⟩, _⟩, _⟩, _⟩ := hm
  refine ⟨?_, h4⟩
  have : E.user ∈ evParts E := by
    unfold evParts
    rcases hk with h | h | h | h | h | h <;> simp [h]
  have := List.all_eq_true.1 h3 _ this
  simp [nMay] at this
  omega
theorem uids_turn {S T : Sta} {E : Ev} (h : Turn S E T) : if E.kind = 1 then (uids T).Perm (E.user :: uids S) ∧ E.user ∉ uids S else uids T = uids S := by
  cases h with
  | boot k u x a n => rw [if_neg (by omega)]; unfold uids; rw [u]
  | user k h u =>
    rw [if_pos k]
    subst u
    exact ⟨(uPut_perm _ S.users).map Usr.user, uAt_none h⟩
  | lease k ps p i h u => rw [if_neg (by omega)]; subst u; rfl
  | close k i hi ps p x a n u =>
    rw [if_neg (by omega)]
    unfold uids
    rcases u with u | ⟨j, hj, u⟩
    · rw [u]
    · rw [u]
      exact map_set_same _ _ _ _ fun hj2 => by rw [usr_get hj2]
  | turn k j hj v hv u =>
    rw [if_neg (by omega)]
    subst u
    exact map_set_same _ _ _ _ fun hj2 => by rw [hv.1, usr_get hj2]
  | other k u x a n => rw [if_neg (by omega)]; unfold uids; rw [u]
theorem uids_mem {S T : Sta} {E : Ev} (h : Turn S E T) {u : Int} (hu : u ∈ uids S) : u ∈ uids T := by
  have := uids_turn h
  split at this
  · exact (this.1.mem_iff).2 (List.mem_cons_of_mem _ hu)
  · rw [this]; exact hu
theorem sum_le {x y : Int} (hx : 0 ≤ x ∧ x ≤ 1073741823) (hy : 0 ≤ y) : x ≤ sum x y ∧ sum x y ≤ 1073741823 := by unfold sum; split <;> omega
theorem SI.turn {n : Int} {S T : Sta} {E : Ev} (I : SI n S) (hm : evMay E = true) (h : Turn S E T) : SI n T := by
  have hu := uids_turn h
  have hum := fun u => uids_mem (u := u) h
  cases h with
  | boot k u x a nn =>
    rw [if_neg (by omega)] at hu
    refine ⟨by rw [hu]; exact I.nd, by rw [u]; exact I.ur, by rw [x]; simp, by rw [x]; simp, by rw [x]; simp, by rw [x]; simp, by rw [x]; simp, by rw [a]; exact I.al, by rw [nn]; exact I.nx⟩
  | user k h u =>
    rw [if_pos k] at hu
    have := evMay_user hm (.inl k)
    refine ⟨?_, fun v hv => ?_, fun x hx => ?_, ?_, ?_, ?_, ?_, ?_, ?_⟩
    · exact hu.1.nodup_iff.2 (List.nodup_cons.2 ⟨hu.2, I.nd⟩)
    · subst u
      rcases mem_uPut hv with rfl | h2
      · dsimp only; omega
      · exact I.ur v h2
    · exact hum _ (I.xu x (by subst u; exact hx))
    all_goals subst u
    · exact I.xi
    · exact I.xd
    · exact I.xa
    · exact I.ad
    · exact I.al
    · exact I.nx
  | lease k ps p i h u =>
    rw [if_neg (by omega)] at hu
    have hpl := pTake_len p
    unfold pTake at p
    split at p
    · rename_i hp
      simp only [Option.some.injEq] at p
      obtain ⟨_, _, _, p1, p2, p3⟩ := hp
      have ni : ∀ x ∈ S.sess, x.address ≠ E.address := fun x hx he => by
        have := (I.xa x hx).2.2
        rw [he, p3] at this; simp at this
      refine ⟨by rw [hu]; exact I.nd, by subst u; exact I.ur, fun x hx => ?_, fun x hx => ?_, ?_, fun x hx => ?_, ?_, ?_, ?_⟩
      · rw [hu]
        subst u
        simp at hx
        rcases hx with hx | rfl
        · exact I.xu x hx
        · obtain ⟨j, hj⟩ := Option.isSome_iff_exists.1 h
          exact uAt_in hj
      · have := I.nx
        subst u
        simp at hx ⊢
        rcases hx with hx | rfl
        · have := I.xi x hx; omega
        · dsimp only; omega
      · subst u
        rw [List.map_append, List.nodup_append]
        refine ⟨I.xd, by simp, fun a ha b hb => ?_⟩
        obtain ⟨x, hx, rfl⟩ := List.mem_map.1 ha
        simp at hb
        have := (I.xi x hx).2
        omega
      · subst u
        simp at hx
        rcases hx with hx | rfl
        · obtain ⟨h1, h2, h3⟩ := I.xa x hx
          refine ⟨h1, by dsimp only; omega, ?_⟩
          dsimp only
          rw [← p, List.getD_eq_getElem?_getD, List.getElem?_set_ne (by have := ni x hx; omega), ← List.getD_eq_getElem?_getD]
          exact h3
        · refine ⟨p1, by dsimp only; omega, ?_⟩
          dsimp only
          rw [← p, List.getD_eq_getElem?_getD, List.getElem?_set_self (by omega)]
          rfl
      · subst u
        rw [List.map_append, List.nodup_append]
        refine ⟨I.ad, by simp, fun a ha b hb => ?_⟩
        obtain ⟨x, hx, rfl⟩ := List.mem_map.1 ha
        simp at hb
        have := ni x hx
        omega
      · subst u
        dsimp only
        rw [hpl]; exact I.al
      · have := I.nx
        subst u
        dsimp only; omega
    · simp at p
  | close k i hi ps p x a nn u =>
    rw [if_neg (by omega)] at hu
    have hpl := pFree_len p
    obtain ⟨hil, his⟩ := xAt_some hi
    have sub : List.Sublist T.sess S.sess := by rw [x]; exact List.eraseIdx_sublist ..
    have ea : E.a ≥ 0 := by
      simp only [evMay, Bool.and_eq_true, decide_eq_true_eq] at hm
      obtain ⟨⟨⟨⟨⟨⟨⟨_, _⟩, h3⟩, h4⟩, _⟩, _⟩, _⟩, _⟩ := hm
      have : E.a ∈ evParts E := by unfold evParts; simp [k]
      have := List.all_eq_true.1 h3 _ this
      simp [nMay] at this
      omega
    refine ⟨by rw [hu]; exact I.nd, fun v hv => ?_, fun x hx => ?_, fun x hx => ?_, I.xd.sublist (sub.map _), fun y hy => ?_, I.ad.sublist (sub.map _), ?_, ?_⟩
    · rcases u with u | ⟨j, hj, u⟩
      · rw [u] at hv; exact I.ur v hv
      · rw [u] at hv
        rcases List.mem_or_eq_of_mem_set hv with hv | rfl
        · exact I.ur v hv
        · have h2 := I.ur _ (getD_mem (uAt_lt hj))
          have := sum_le h2.2 ea
          dsimp only; omega
    · rw [hu]; exact I.xu x (sub.subset hx)
    · rw [nn]; exact I.xi x (sub.subset hx)
    · obtain ⟨h1, h2, h3⟩ := I.xa y (sub.subset hy)
      rw [a]
      refine ⟨h1, by omega, ?_⟩
      have hne : y.address ≠ (S.sess[i]).address := by
        intro he
        rw [x] at hy
        obtain ⟨m, hm, rfl⟩ := List.mem_iff_getElem.1 hy
        rw [List.getElem_eraseIdx] at he
        have nd := I.ad
        unfold List.Nodup at nd
        rw [List.pairwise_iff_getElem] at nd
        rw [List.length_eraseIdx] at hm
        split at hm
        · split at he
          · have := nd m i (by simp; omega) (by simp; omega) (by omega)
            simp at this; exact this he
          · have := nd i (m + 1) (by simp; omega) (by simp; omega) (by omega)
            simp at this; exact this he.symm
        · omega
      rw [ses_get hil] at p
      unfold pFree at p
      split at p
      · rename_i hp
        simp only [Option.some.injEq] at p
        rw [← p, List.getD_eq_getElem?_getD, List.getElem?_set_ne (by omega), ← List.getD_eq_getElem?_getD]
        exact h3
      · simp at p
    · rw [a, hpl]; exact I.al
    · rw [nn]; exact I.nx
  | turn k j hj v hv u =>
    rw [if_neg (by omega)] at hu
    refine ⟨by rw [hu]; exact I.nd, fun w hw => ?_, by rw [hu]; subst u; exact I.xu, by subst u; exact I.xi, by subst u; exact I.xd, by subst u; exact I.xa, by subst u; exact I.ad, by subst u; exact I.al, by subst u; exact I.nx⟩
    subst u
    rcases List.mem_or_eq_of_mem_set hw with hw | rfl
    · exact I.ur w hw
    · have h2 := I.ur _ (getD_mem (uAt_lt hj))
      rw [hv.1, hv.2]; exact h2
  | other k u x a nn =>
    rw [if_neg (by omega)] at hu
    exact ⟨by rw [hu]; exact I.nd, by rw [u]; exact I.ur, by rw [hu, x]; exact I.xu, by rw [x, nn]; exact I.xi, by rw [x]; exact I.xd, by rw [x, a]; exact I.xa, by rw [x]; exact I.ad, by rw [a]; exact I.al, by rw [nn]; exact I.nx⟩
end Go.AI

/- Audits: lines and traces together. -/
set_option linter.all false
namespace Go.AI
def trA (f : Int → List Ev) (E : Ev) (S _ : Sta) : Int → List Ev := fun u => if whoOf S E = u then f u ++ [E] else f u
abbrev Jn := ((Int → Ln) × Bool) × (Int → List Ev)
def jStep (C : Cfg) (s : Jn) (E : Ev) (S T : Sta) : Jn := (lnStep C s.1 E S T, trA s.2 E S T)
def jn0 : Jn := ((ln0, false), fun _ => [])
/-- What all is behind events. -/
def jAll (C : Cfg) (es : List Ev) : Option (Jn × Sta) := wAll C (jStep C) jn0 es
theorem jAll_lines (C : Cfg) (es : List Ev) : aLines C es = (jAll C es).map fun p => lnOut (lnOpens p.1.1.1 p.2.sess) p.2.users := by
  have h := wAll_hom C (jStep C) (lnStep C) (fun s => s.1) (fun _ _ _ _ => rfl) jn0 es
  unfold aLines
  rw [show ((ln0, false) : (Int → Ln) × Bool) = jn0.1 from rfl, h]
  show _ = (wAll C (jStep C) jn0 es).map _
  cases wAll C (jStep C) jn0 es <;> rfl
theorem jAll_ind {C : Cfg} (P : List Ev → Jn → Sta → Prop) (h0 : ∀ S, sNew C.addresses = some S → P [] jn0 S)
    (h1 : ∀ pre s S E T, jAll C pre = some (s, S) → SI C.addresses S → P pre s S → sDoes C S E = some T → Turn S E T → evMay E = true → P (pre ++ [E]) (jStep C s E S T) T) {es : List Ev} {s : Jn} {S : Sta} (h : jAll C es = some (s, S)) : SI C.addresses S ∧ P es s S :=
  wAll_ind (fun es s S => SI C.addresses S ∧ P es s S) (fun S hS => ⟨SI.new hS, h0 S hS⟩) (fun pre s S E T hj ⟨I, hp⟩ hd hm => ⟨I.turn hm (turn_cases hd hm), h1 pre s S E T hj I hp hd (turn_cases hd hm) hm⟩) es.length es rfl s S h
/-- Whose events are. -/
inductive Who (S : Sta) (E : Ev) : Prop
  | no (k : E.kind = 0 ∨ E.kind = 8 ∨ E.kind = 9) (w : whoOf S E = -1)
  | new (k : E.kind = 1) (w : whoOf S E = E.user) (h : E.user ∉ uids S) (g : 0 ≤ E.user)
  | old (k : E.kind = 2 ∨ E.kind = 3 ∨ E.kind = 4 ∨ E.kind = 5 ∨ E.kind = 7) (w : whoOf S E = E.user) (h : E.user ∈ uids S)
  | close (k : E.kind = 6) (h : whoOf S E ∈ uids S)
theorem SI.neg {n : Int} {S : Sta} (I : SI n S) {u : Int} (h : u ∈ uids S) : 0 ≤ u ∧ u < 8 := by
  obtain ⟨v, hv, rfl⟩ := List.mem_map.1 h
  exact (I.ur v hv).1
/-- A trace stands in the row, and begins with the user. -/
structure Rows25 (es : List Ev) (f : Int → List Ev) (S : Sta) : Prop where
  sub : ∀ u, (f u).Sublist es
  nil : ∀ u, u ∉ uids S → u ≠ -1 → f u = []
  hd : ∀ u ∈ uids S, ∃ E r, f u = E :: r ∧ E.kind = 1 ∧ E.user = u ∧ ∀ F ∈ r, F.kind ≠ 1
end Go.AI

/- Audits: the law's walk. -/
set_option linter.all false
namespace Go.AI
variable {A : Type} {R : Adts A}
def codO {α : Type} : Option α → Int
  | none => 2500
  | some _ => 0
theorem audit_Lines_u (hR : R.Ok) (C : Cfg) {a : AVal} {es : List Ev} {h : AHeap A} (ha : EvRd a es h) (hn : es.length ≤ 1048576) {K : AVal → AHeap A → Prop}
    (hk : ∀ x g, Own Ln.row 7 t_api_Line x ((aLines C es).getD []) g → (∀ b, x.blk = some b → h.length ≤ b) → Gr h g → K (.tup [x, .int .i64 (codO (aLines C es))]) g) : Tri Pr R n_audit_Lines [.agg C.row, a] h K := by
  refine audit_Lines_ok hR C ha hn (fun ho g k l => ?_) (fun o ho x g O B k l => ?_)
  · have := hk .nils g (by rw [ho]; exact Own.nil) (fun b hb => by simp [AVal.blk] at hb) ⟨k, l⟩
    rw [ho] at this; exact this
  · have := hk x g (by rw [ho]; exact O) B ⟨k, l⟩
    rw [ho] at this; exact this
theorem audit_Trace_u (hR : R.Ok) (C : Cfg) {a : AVal} {es : List Ev} {h : AHeap A} (ha : EvRd a es h) (hn : es.length ≤ 1048576) (user : Int) {K : AVal → AHeap A → Prop}
    (hk : ∀ x g, Own Ev.row 8 t_api_Event x ((aTrace C user es).getD []) g → (∀ b, x.blk = some b → h.length ≤ b) → Gr h g → K (.tup [x, .int .i64 (codO (aTrace C user es))]) g) : Tri Pr R n_audit_Trace [.agg C.row, .int .i64 user, a] h K := by
  refine audit_Trace_ok hR C ha hn user (fun ho g k l => ?_) (fun o ho x g O B k l => ?_)
  · have := hk .nils g (by rw [ho]; exact Own.nil) (fun b hb => by simp [AVal.blk] at hb) ⟨k, l⟩
    rw [ho] at this; exact this
  · have := hk x g (by rw [ho]; exact O) B ⟨k, l⟩
    rw [ho] at this; exact this
theorem ref20_Lines_u (hR : R.Ok) (C : Cfg) {a : AVal} {es : List Ev} {h : AHeap A} (ha : Rg Ev.row 8 a es h) (hn : es.length ≤ 1048576) {K : AVal → AHeap A → Prop}
    (hk : ∀ x g, Own Ln.row 7 t_api_Line x ((aLines C es).getD []) g → (∀ b, x.blk = some b → h.length ≤ b) → Gr h g → K (.tup [x, .int .i64 (codO (aLines C es))]) g) : Tri Pr R n_ref20_Lines [.agg C.row, a] h K := by
  refine ref20_Lines_ok hR C ha hn (fun ho g G => ?_) (fun o ho x g O B G => ?_)
  · have := hk .nils g (by rw [ho]; exact Own.nil) (fun b hb => by simp [AVal.blk] at hb) G
    rw [ho] at this; exact this
  · have := hk x g (by rw [ho]; exact O) B G
    rw [ho] at this; exact this
theorem ref20_Trace_u (hR : R.Ok) (C : Cfg) {a : AVal} {es : List Ev} {h : AHeap A} (ha : Rg Ev.row 8 a es h) (hn : es.length ≤ 1048576) (user : Int) {K : AVal → AHeap A → Prop}
    (hk : ∀ x g, Own Ev.row 8 t_api_Event x ((aTrace C user es).getD []) g → (∀ b, x.blk = some b → h.length ≤ b) → Gr h g → K (.tup [x, .int .i64 (codO (aTrace C user es))]) g) : Tri Pr R n_ref20_Trace [.agg C.row, .int .i64 user, a] h K := by
  refine ref20_Trace_ok hR C ha hn user (fun ho g G => ?_) (fun o ho x g O B G => ?_)
  · have := hk .nils g (by rw [ho]; exact Own.nil) (fun b hb => by simp [AVal.blk] at hb) G
    rw [ho] at this; exact this
  · have := hk x g (by rw [ho]; exact O) B G
    rw [ho] at this; exact this
theorem jAll_leM {C : Cfg} {es : List Ev} {s : Jn} {S : Sta} (h : jAll C es = some (s, S)) : StaLe S (16 + es.length) ∧ StaIn S :=
  (jAll_ind (fun es _ S => StaLe S (16 + es.length) ∧ StaIn S) (fun S hS => sNew_in hS) (fun pre s S E T _ _ hp hd _ hm => by
    have := sDoes_keeps hd hp.1 hp.2 (evIn hm)
    rw [List.length_append, List.length_singleton, ← Nat.add_assoc]
    exact this) h).2
/-- Not so many lines as events. -/
theorem lines_le (C : Cfg) (es : List Ev) (hn : es.length ≤ 1048576) : ((aLines C es).getD []).length ≤ 2000000 := by
  rw [jAll_lines]
  cases hj : jAll C es with
  | none => simp
  | some p =>
    obtain ⟨s, S⟩ := p
    have hle := (jAll_leM hj).1
    have := hle.u
    simp only [Option.map_some, Option.getD_some, lnOut, List.length_map]
    omega
theorem trace_le (C : Cfg) (user : Int) (es : List Ev) : ((aTrace C user es).getD []).length ≤ es.length := by
  unfold aTrace
  cases hw : wAll C (trStep user) [] es with
  | none => simp
  | some p =>
    obtain ⟨s, S⟩ := p
    have h := wAll_ind (fun l s _ => s.length ≤ l.length) (fun _ _ => Nat.le_refl _) (fun pre s S E T _ h _ _ => by
      show (trStep user s E S T).length ≤ _
      unfold trStep
      split
      · simp; omega
      · simp; omega) es.length es rfl s S hw
    simp only [Option.bind_some]
    split
    · exact h
    · simp
theorem Audits_ok (hR : R.Ok) (C : Cfg) (a : AVal) (es : List Ev) (user ad : Int) (ha : IsFz Ev.row a es) (hn : es.length ≤ 1048576) : Tri Pr R n_law25_Audits [.agg C.row, a, .int .i64 user, .int .i64 ad] [] fun u _ => u = .bool true := by
  have rc : Cfg.row C = [.int .i64 C.sectors, .int .i64 C.halves, .int .i64 C.sessions, .int .i64 C.addresses, .int .i64 C.fails, .int .i64 C.lockout, .int .i64 C.halfLife, .int .i64 C.idle, .int .i64 C.absolute, .int .i64 C.quarantine, .int .i64 C.ticketLife, .int .i64 C.keep] := rfl
  apply c_law25_Audits
  unfold p_law25_Audits
  simp -implicitDefEqProofs [rc]
  refine LendEvents_ok hR ha.evs hn ?_
  obtain ⟨g0, hg0⟩ : ∃ g0 : AHeap A, g0 = [AObj.cells t_api_Config C.row, .cells t_api_Event ((es ++ [evMk, evMk]).flatMap Ev.row)] := ⟨_, rfl⟩
  have c0 : g0[0]? = some (.cells t_api_Config C.row) := by rw [hg0]; rfl
  have q0 : g0[1]? = some (.cells t_api_Event ((es ++ [evMk, evMk]).flatMap Ev.row)) := by rw [hg0]; rfl
  have l0 : g0.length = 2 := by rw [hg0]; rfl
  rw [rc] at hg0
  simp only [List.cons_append, List.nil_append, List.length_cons, List.length_nil, Nat.zero_add]
  rw [← hg0]
  have cc : ∀ {g : AHeap A}, Gr g0 g → g[0]? = some (.cells t_api_Config [.int .i64 C.sectors, .int .i64 C.halves, .int .i64 C.sessions, .int .i64 C.addresses, .int .i64 C.fails, .int .i64 C.lockout, .int .i64 C.halfLife, .int .i64 C.idle, .int .i64 C.absolute, .int .i64 C.quarantine, .int .i64 C.ticketLife, .int .i64 C.keep]) := fun G => by rw [← rc]; exact G.get c0
  have oo : ∀ {g : AHeap A}, Gr g0 g → Own Ev.row 8 t_api_Event (.sl 1 0 es.length (es.length + 2) false) es g := fun G => Own.lent (G.get q0)
  obtain ⟨LL, hLL⟩ : ∃ LL, LL = (aLines C es).getD [] := ⟨_, rfl⟩
  obtain ⟨TT, hTT⟩ : ∃ TT, TT = (aTrace C user es).getD [] := ⟨_, rfl⟩
  have htr : TT.length ≤ 2000000 := by have := trace_le C user es; rw [← hTT] at this; omega
  have lLL : LL.length ≤ 2000000 := by rw [hLL]; exact lines_le C es hn
  have G0 := Gr.refl g0
  simp -implicitDefEqProofs [cc G0, AObj.read]
  rw [← rc]
  refine audit_Lines_u hR C (EvRd.own (oo G0)) hn fun x1 g1 O1 B1 G1 => ?_
  simp -implicitDefEqProofs [cc G1, AObj.read]
  rw [← rc]
  refine ref20_Lines_u hR C (Rg.fz evR ha g1) hn fun x2 g2 O2 B2 G2' => ?_
  have G2 := G1.trans G2'
  simp -implicitDefEqProofs [cc G2, AObj.read]
  rw [← rc]
  refine audit_Trace_u hR C (EvRd.own (oo G2)) hn user fun x3 g3 O3 B3 G3' => ?_
  have G3 := G2.trans G3'
  simp -implicitDefEqProofs [cc G3, AObj.read]
  rw [← rc]
  refine ref20_Trace_u hR C (Rg.fz evR ha g3) hn user fun x4 g4 O4 B4 G4' => ?_
  have G4 := G3.trans G4'
  simp -implicitDefEqProofs [cc G4, AObj.read]
  rw [← rc]
  refine audit_Holder_ok hR C (EvRd.own (oo G4)) hn ad fun g5 k5 l5 => ?_
  have G5' : Gr g4 g5 := ⟨k5, l5⟩
  have G5 := G4.trans G5'
  simp -implicitDefEqProofs [cc G5, AObj.read]
  rw [← rc]
  refine ref20_Holder_ok hR C (Rg.fz evR ha g5) hn ad fun g6 G6' => ?_
  have G6 := G5.trans G6'
  rw [← hLL] at O1 O2
  rw [← hTT] at O3 O4
  have P1 : Own Ln.row 7 t_api_Line x1 LL g6 := O1.gr (((G2'.trans G3').trans G4').trans (G5'.trans G6'))
  have P2 : Own Ln.row 7 t_api_Line x2 LL g6 := O2.gr ((G3'.trans G4').trans (G5'.trans G6'))
  have P3 : Own Ev.row 8 t_api_Event x3 TT g6 := O3.gr (G4'.trans (G5'.trans G6'))
  have P4 : Own Ev.row 8 t_api_Event x4 TT g6 := O4.gr (G5'.trans G6')
  simp -implicitDefEqProofs
  refine law0_SameLines_ok (P1.rd lnR) (P2.rd lnR) lLL ?_
  simp -implicitDefEqProofs
  refine law0_Num_ok ?_
  simp -implicitDefEqProofs
  refine SameEvents_ok hR (P3.rd evR).rd8 (P4.rd evR).rd8 (by omega) ?_
  simp -implicitDefEqProofs
  refine law0_Num_ok ?_
  simp -implicitDefEqProofs
  refine law0_Num_ok ?_
  simp -implicitDefEqProofs
  refine law0_SpoilLines_ok P1 lLL fun g7 k7 l7 => ?_
  have d13 : x1.blk ≠ none → x1.blk ≠ x3.blk := fun hx he => by
    cases hb : x1.blk with
    | none => exact hx hb
    | some b =>
      have := O1.blt hb
      have := B3 b (he ▸ hb)
      have := G2'.l
      omega
  have Q3 : Own Ev.row 8 t_api_Event x3 TT g7 := P3.move' fun b hb => k7 b fun h9 => d13 (by rw [h9]; simp) (by rw [h9, hb])
  refine law0_SpoilEventsO_ok Q3 htr fun g8 k8 l8 => ?_
  have q8 : g8[1]? = some (.cells t_api_Event ((es ++ [evMk, evMk]).flatMap Ev.row)) := by
    rw [k8 1 fun h9 => ?_, k7 1 fun h9 => ?_]
    · exact G6.get q0
    · have := B1 1 h9; omega
    · have := B3 1 h9; have := G2.l; omega
  refine KeptEvents_ok hR ha.evs hn q8 ?_
  simp -implicitDefEqProofs
  refine law25_awake_ok hR fun g9 k9 l9 => ?_
  simp -implicitDefEqProofs
end Go.AI
