/- What a disk's calls do, told by equations. -/
import Derived.Test.YtjnnihaofffkfaaMaJournalKeeps
import Derived.Test.YtjnnihaofffkfaaFns
import Derived.WalkKit
import Derived.LaidEql
import Derived.Stop.Asserts
import Derived.RowKitTokens
import Derived.Lib.IfaceEq
set_option linter.all false
namespace Go.AI
variable {A : Type} {R : Adts A}
theorem dOk_new {n : Int} (h : 1 ≤ n ∧ n ≤ 256) : dOk (List.replicate n.toNat zSec) [] := ⟨by simp; omega, fun s hs => by simp at hs; rw [hs.2]; rfl, by simp⟩
theorem dWrite_good {k : List Bs} {w : Ws} {x : Int} {s : Bs} (h : 0 ≤ x ∧ x < k.length ∧ s.length = 64) : dWrite k w false x s = (w ++ [(x, s)], 0) := by
  unfold dWrite; rw [if_neg (by simp), if_neg (by omega)]
theorem dWrite_bad {k : List Bs} {w : Ws} {x : Int} {s : Bs} (h : x < 0 ∨ (k.length : Int) ≤ x ∨ s.length ≠ 64) : dWrite k w false x s = (w, 800) := by
  unfold dWrite; rw [if_neg (by simp), if_pos h]
theorem dOk_write {k : List Bs} {w : Ws} {x : Int} {s : Bs} (h : dOk k w) (h2 : 0 ≤ x ∧ x < k.length ∧ s.length = 64) : dOk k (w ++ [(x, s)]) :=
  ⟨h.size, h.full, fun a ha => by rcases List.mem_append.1 ha with h1 | h1; exact h.wait a h1; simp at h1; subst h1; exact h2⟩
theorem dOk_any {k : List Bs} {w : Ws} {d : Bool} {x : Int} {s : Bs} (h : dOk k w) : dOk k (dWrite k w d x s).1 ∧ (dWrite k w d x s).1.length ≤ w.length + 1 := by
  unfold dWrite
  split
  · exact ⟨h, by simp⟩
  · split
    · exact ⟨h, by simp⟩
    · exact ⟨dOk_write h (by omega), by simp⟩
theorem dOk_put {k : List Bs} {w : Ws} (h : dOk k w) : dOk (dPut k w) [] := ⟨by rw [dPut_len]; exact h.size, dPut_full h, by simp⟩
theorem dOk_lost {k : List Bs} {w : Ws} {mask torn : Int} (h : dOk k w) (ht : 0 ≤ torn) : dOk (dLost mask torn k w) [] := ⟨by unfold dLost; rw [dCr_len]; exact h.size, dCr_full h ht _ (Nat.le_refl _), by simp⟩
section disk
variable {mk : List Bs → Ws → Bool → A}
theorem disk_Write_at (hR : R.Ok) (hB : HasDisk R mk) {k : List Bs} {w w' : Ws} {d : Bool} {x e : Int} {s : Bs} (hok : dOk k w) (hw : w.length ≤ 1000) (he : dWrite k w d x s = (w', e)) {h : AHeap A} {b : Nat} (hb : h[b]? = some (.adt (mk k w d))) {K : AVal → AHeap A → Prop}
    (hk : K (.int .i64 e) (h.set b (.adt (mk k w' d)))) : Tri Pr R n_disk_Disk_Write [.ptr b 0, .int .i64 x, .str s] h K := by
  refine disk_Write_ok hR hB hok hw x s hb ?_
  rw [he]; exact hk
theorem disk_Flush_at (hR : R.Ok) (hB : HasDisk R mk) {k k' : List Bs} {w : Ws} (hok : dOk k w) (hw : w.length ≤ 1000) (he : dPut k w = k') {h : AHeap A} {b : Nat} (hb : h[b]? = some (.adt (mk k w false))) {K : AVal → AHeap A → Prop}
    (hk : K (.int .i64 0) (h.set b (.adt (mk k' [] false)))) : Tri Pr R n_disk_Disk_Flush [.ptr b 0] h K := by
  refine disk_Flush_ok hR hB hok hw hb ?_
  rw [if_neg (by simp), he]; exact hk
theorem disk_Flush_down (hR : R.Ok) (hB : HasDisk R mk) {k : List Bs} {w : Ws} (hok : dOk k w) (hw : w.length ≤ 1000) {h : AHeap A} {b : Nat} (hb : h[b]? = some (.adt (mk k w true))) {K : AVal → AHeap A → Prop}
    (hk : K (.int .i64 801) h) : Tri Pr R n_disk_Disk_Flush [.ptr b 0] h K := by
  refine disk_Flush_ok hR hB hok hw hb ?_
  rw [if_pos rfl]; exact hk
theorem disk_Read_at (hR : R.Ok) (hB : HasDisk R mk) {k : List Bs} {w : Ws} {d : Bool} {x e : Int} {s : Bs} (hok : dOk k w) (hw : w.length ≤ 1000) (he : dRead k w d x = (s, e)) {h : AHeap A} {b : Nat} (hb : h[b]? = some (.adt (mk k w d))) {K : AVal → AHeap A → Prop}
    (hk : K (.tup [.str s, .int .i64 e]) h) : Tri Pr R n_disk_Disk_Read [.ptr b 0, .int .i64 x] h K := by
  refine disk_Read_ok hR hB hok hw x hb ?_
  rw [he]; exact hk
theorem disk_Crash_at (hR : R.Ok) (hB : HasDisk R mk) {k k' : List Bs} {w : Ws} {mask torn : Int} (hok : dOk k w) (hw : w.length ≤ 1000) (h0 : 0 ≤ mask ∧ 0 ≤ torn) (he : dLost mask torn k w = k') {h : AHeap A} {b : Nat} (hb : h[b]? = some (.adt (mk k w false))) {K : AVal → AHeap A → Prop}
    (hk : K (.int .i64 0) (h.set b (.adt (mk k' [] true)))) : Tri Pr R n_disk_Disk_Crash [.ptr b 0, .int .i64 mask, .int .i64 torn] h K := by
  refine disk_Crash_ok hR hB hok hw mask torn hb ?_
  rw [if_neg (by simp), if_neg (by omega), he]; exact hk
theorem disk_Crash_bad (hR : R.Ok) (hB : HasDisk R mk) {k : List Bs} {w : Ws} {mask torn : Int} (hok : dOk k w) (hw : w.length ≤ 1000) (h0 : mask < 0 ∨ torn < 0) {h : AHeap A} {b : Nat} (hb : h[b]? = some (.adt (mk k w false))) {K : AVal → AHeap A → Prop}
    (hk : K (.int .i64 800) h) : Tri Pr R n_disk_Disk_Crash [.ptr b 0, .int .i64 mask, .int .i64 torn] h K := by
  refine disk_Crash_ok hR hB hok hw mask torn hb ?_
  rw [if_neg (by simp), if_pos h0]; exact hk
theorem disk_Crash_down (hR : R.Ok) (hB : HasDisk R mk) {k : List Bs} {w : Ws} {mask torn : Int} (hok : dOk k w) (hw : w.length ≤ 1000) {h : AHeap A} {b : Nat} (hb : h[b]? = some (.adt (mk k w true))) {K : AVal → AHeap A → Prop}
    (hk : K (.int .i64 801) h) : Tri Pr R n_disk_Disk_Crash [.ptr b 0, .int .i64 mask, .int .i64 torn] h K := by
  refine disk_Crash_ok hR hB hok hw mask torn hb ?_
  rw [if_pos rfl]; exact hk
theorem disk_Restart_at (hR : R.Ok) (hB : HasDisk R mk) {k : List Bs} {w : Ws} {h : AHeap A} {b : Nat} (hb : h[b]? = some (.adt (mk k w true))) {K : AVal → AHeap A → Prop}
    (hk : K (.int .i64 0) (h.set b (.adt (mk k w false)))) : Tri Pr R n_disk_Disk_Restart [.ptr b 0] h K := by
  refine disk_Restart_ok hR hB hb ?_
  rw [if_pos rfl]; exact hk
theorem disk_Restart_up (hR : R.Ok) (hB : HasDisk R mk) {k : List Bs} {w : Ws} {h : AHeap A} {b : Nat} (hb : h[b]? = some (.adt (mk k w false))) {K : AVal → AHeap A → Prop}
    (hk : K (.int .i64 800) h) : Tri Pr R n_disk_Disk_Restart [.ptr b 0] h K := by
  refine disk_Restart_ok hR hB hb ?_
  rw [if_neg (by simp), set_same hb]; exact hk
theorem disk_New_at (hR : R.Ok) (hB : HasDisk R mk) {n : Int} {k : List Bs} (hn : 1 ≤ n ∧ n ≤ 256) (he : List.replicate n.toNat zSec = k) {h : AHeap A} {K : AVal → AHeap A → Prop}
    (hk : K (.tup [.ptr h.length 0, .int .i64 0]) (h ++ [.adt (mk k [] false)])) : Tri Pr R n_disk_New [.int .i64 n] h K := by
  refine disk_New_ok hR hB n ?_
  rw [if_pos hn, he]; exact hk
theorem disk_New_bad (hR : R.Ok) (hB : HasDisk R mk) {n : Int} (hn : ¬ (1 ≤ n ∧ n ≤ 256)) {h : AHeap A} {K : AVal → AHeap A → Prop}
    (hk : K (.tup [.nilp, .int .i64 800]) h) : Tri Pr R n_disk_New [.int .i64 n] h K := by
  refine disk_New_ok hR hB n ?_
  rw [if_neg hn]; exact hk
end disk
end Go.AI

/- Journals, plainly. -/
set_option linter.all false
namespace Go.AI
variable {A : Type} {R : Adts A}
/-- A journal: the boot's number, the last one's name, the events, is it over. -/
structure JS where
  boot : Int
  prev : Int
  es : List Ev
  over : Bool
deriving DecidableEq
/-- Records one behind the other: the terms, the sectors, the last one's name, were all made? -/
def jRecs (m boot : Int) : List Bs → Int → Int → List Ev → List Bs × List Bs × Int × Bool
  | ts, _, p, [] => (ts, [], p, true)
  | ts, q, p, e :: r =>
    match recPut m ts ⟨q + 1, boot, p, e⟩ with
    | (t, s, n, f) => if f = 0 then (match jRecs m boot t (q + 1) n r with | (t2, ss, p2, ok) => if ok = true then (t2, s :: ss, p2, true) else (t2, [], 0, false)) else (t, [], 0, false)
/-- Sectors one behind the other. -/
def jWs : Int → List Bs → Ws
  | _, [] => []
  | q, s :: r => (q, s) :: jWs (q + 1) r
/-- What a call of Append or Write lets wait. -/
def jPut (m : Int) (ts : List Bs) (J : JS) (size : Nat) (down : Bool) (es : List Ev) : List Bs × List Bs × Int × Int :=
  if J.over = true ∨ down = true then (ts, [], 0, 1102)
  else if es.all evMay = true then
    (if (size : Int) - 2 - J.es.length < es.length then (ts, [], 0, 1101)
     else match jRecs m J.boot ts J.es.length J.prev es with | (t, ss, p, ok) => if ok = true then (t, ss, p, 0) else (t, [], 0, 1101))
  else (ts, [], 0, 1100)
/-- What is found behind the last record. -/
def jLoad (ts : List Bs) (k : List Bs) : Nat → Int → List Ev → Int × List Ev
  | 0, p, es => (p, es)
  | n + 1, p, es =>
    if (2 + es.length : Nat) < k.length then
      (match recGet ts (k.getD (2 + es.length) []) (es.length + 1) p with | (r, name, e) => if e = 0 then jLoad ts k n name (es ++ [r.ev]) else (p, es))
    else (p, es)
/-- A journal is opened: the terms, the sectors, the journal or the error. -/
def jOpen (m : Int) (ts : List Bs) (k : List Bs) (w : Ws) (down : Bool) : List Bs × List Bs × Ws × (Int ⊕ JS) :=
  if down = true then (ts, k, w, .inl 1102)
  else if (k.length : Int) ≤ 2 then (ts, k, w, .inl 1100)
  else match sPick ts ((dPut k w).getD 0 []) ((dPut k w).getD 1 []) with
    | (boot, at_, _) => match sPut m ts (boot + 1) with
      | (t, s, e) => if e = 0 then
          (match jLoad t ((dPut k w).set at_.toNat s) k.length 0 [] with | (p, es) => (t, (dPut k w).set at_.toNat s, [], .inr ⟨boot + 1, p, es, false⟩))
        else (t, k, w, .inl 1101)
theorem jRecs_ok {m boot : Int} : ∀ (es : List Ev) {ts : List Bs} {q p : Int}, bOk m ts → bOk m (jRecs m boot ts q p es).1
  | [], _, _, _, h => h
  | e :: r, ts, q, p, h => by
    unfold jRecs
    obtain ⟨⟨t, s, n, f⟩, hx⟩ : ∃ x, recPut m ts ⟨q + 1, boot, p, e⟩ = x := ⟨_, rfl⟩
    have h1 := recPut_ok (r := ⟨q + 1, boot, p, e⟩) h
    rw [hx] at h1 ⊢
    dsimp only at h1 ⊢
    by_cases hf : f = 0
    · rw [if_pos hf]
      have h2 := jRecs_ok (boot := boot) r (q := q + 1) (p := n) h1
      obtain ⟨⟨t2, ss, p2, ok⟩, hy⟩ : ∃ x, jRecs m boot t (q + 1) n r = x := ⟨_, rfl⟩
      rw [hy] at h2 ⊢
      dsimp only at h2 ⊢
      split <;> exact h2
    · rw [if_neg hf]; exact h1
theorem jPut_ok {m : Int} {ts : List Bs} {J : JS} {size : Nat} {down : Bool} {es : List Ev} (h : bOk m ts) : bOk m (jPut m ts J size down es).1 := by
  unfold jPut
  split
  · exact h
  · split
    · split
      · exact h
      · have h2 := jRecs_ok (boot := J.boot) es (q := J.es.length) (p := J.prev) h
        obtain ⟨⟨t2, ss, p2, ok⟩, hy⟩ : ∃ x, jRecs m J.boot ts J.es.length J.prev es = x := ⟨_, rfl⟩
        rw [hy] at h2 ⊢
        dsimp only at h2 ⊢
        split <;> exact h2
    · exact h
/-- The sector of a record is as long as a sector. -/
theorem recPut_sec {m : Int} {ts t : List Bs} {r : Rec} {s : Bs} {n : Int} (h : recPut m ts r = (t, s, n, 0)) : s.length = 64 := by
  unfold recPut at h
  split at h
  · split at h
    · split at h
      · rename_i h3
        simp only [Prod.mk.injEq] at h
        rw [← h.2.1]
        exact pad_len h3
      · simp at h
    · simp at h
  · simp at h
theorem sPut_sec {m : Int} {ts t : List Bs} {boot : Int} {s : Bs} (h : sPut m ts boot = (t, s, 0)) : s.length = 64 := by
  unfold sPut at h
  split at h
  · split at h
    · simp only [Prod.mk.injEq] at h
      rw [← h.2.1]
      refine pad_len ?_
      have := nS_len boot
      have := nS_len (cMade m ts (supT boot)).2.1
      simp only [List.length_append]; omega
    · simp at h
  · simp at h
theorem jRecs_len {m boot : Int} (es : List Ev) : ∀ {ts t : List Bs} {q p p2 : Int} {ss : List Bs}, jRecs m boot ts q p es = (t, ss, p2, true) → ss.length = es.length ∧ ∀ s ∈ ss, s.length = 64 := by
  induction es with
  | nil =>
    intro ts t q p p2 ss h
    unfold jRecs at h
    have h2 := (Prod.mk.inj (Prod.mk.inj h).2).1
    rw [← h2]
    simp
  | cons e r ih =>
    intro ts t q p p2 ss h
    unfold jRecs at h
    obtain ⟨⟨t1, s, n, f⟩, hx⟩ : ∃ x, recPut m ts ⟨q + 1, boot, p, e⟩ = x := ⟨_, rfl⟩
    rw [hx] at h
    dsimp only at h
    by_cases hf : f = 0
    · subst hf
      rw [if_pos rfl] at h
      obtain ⟨⟨t2, ss2, p3, ok⟩, hy⟩ : ∃ x, jRecs m boot t1 (q + 1) n r = x := ⟨_, rfl⟩
      rw [hy] at h
      dsimp only at h
      cases ok with
      | false =>
        rw [if_neg (by simp)] at h
        exact absurd (Prod.mk.inj (Prod.mk.inj (Prod.mk.inj h).2).2).2 (by simp)
      | true =>
        rw [if_pos rfl] at h
        have h2 := (Prod.mk.inj (Prod.mk.inj h).2).1
        obtain ⟨h3, h4⟩ := ih hy
        rw [← h2]
        refine ⟨by simp [h3], ?_⟩
        simp only [List.mem_cons, forall_eq_or_imp]
        exact ⟨recPut_sec hx, h4⟩
    · rw [if_neg hf] at h
      exact absurd (Prod.mk.inj (Prod.mk.inj (Prod.mk.inj h).2).2).2 (by simp)
theorem jWs_len : ∀ (q : Int) (ss : List Bs), (jWs q ss).length = ss.length
  | _, [] => rfl
  | q, _ :: r => by simp [jWs, jWs_len (q + 1) r]
theorem jWs_snoc : ∀ (q : Int) (ss : List Bs) (s : Bs), jWs q (ss ++ [s]) = jWs q ss ++ [(q + ss.length, s)]
  | q, [], s => by simp [jWs]
  | q, a :: r, s => by
    simp only [List.cons_append, jWs, jWs_snoc (q + 1) r s, List.length_cons]
    congr 4
    omega
/-! The journal's object. -/
def jG (b d : Nat) (J : JS) : Grp A :=
  if J.es = [] then { e := t_journal_Journal, cs := [.g (.ptr b 0), .g (.ptr d 0), .g (.int .i64 J.boot), .g (.int .i64 J.prev), .g .nils, .g (.bool J.over)], subs := [] }
  else { e := t_journal_Journal, cs := [.g (.ptr b 0), .g (.ptr d 0), .g (.int .i64 J.boot), .g (.int .i64 J.prev), .sl 0 0 J.es.length J.es.length false, .g (.bool J.over)], subs := [.cells t_api_Event (J.es.flatMap Ev.row)] }
structure HasJrn (R : Adts A) (jm : Nat → Nat → JS → A) : Prop where
  lay : ∀ b d J g, R.lay (jm b d J) g ↔ g = jG b d J
  ren : ∀ τ b d J, R.ren τ (jm b d J) = jm (τ b) (τ d) J
theorem evs_ix (n : Nat) (l : List Ev) : ixs n (l.flatMap Ev.row) = true := by
  rw [ixs_all]
  simp only [List.all_flatMap, List.all_eq_true]
  intro x _
  simp [Ev.row, AVal.ix]
theorem evs_len (l : List Ev) : (l.flatMap Ev.row).length = l.length * 8 := by
  induction l with
  | nil => rfl
  | cons x r ih => simp only [List.flatMap_cons, List.length_append, ih, List.length_cons, Ev.row]; simp; omega
theorem jrn_ix {jm : Nat → Nat → JS → A} (hJ : HasJrn R jm) {b d n : Nat} (J : JS) (hb : b < n) (hd : d < n) : (AObj.adt (jm b d J)).ix R n := by
  intro g hg
  obtain rfl := (hJ.lay _ _ _ _).1 hg
  unfold jG
  split <;> simp [AVal.ix, evs_ix, hb, hd]
theorem jrn_ren {jm : Nat → Nat → JS → A} (hJ : HasJrn R jm) (b d : Nat) (J : JS) (τ : Nat → Nat) : (AObj.adt (jm b d J)).ren R τ = .adt (jm (τ b) (τ d) J) := by simp [AObj.ren, hJ.ren]
end Go.AI

/- errors.Is (printed by gen/is_gen.py after the kit's worked contracts). -/
set_option linter.all false
namespace Go.AI
open Go.RowKit Go.Extern.Stop Go.Stop Go.Extern Go.Proofs
theorem isTypeOf (v : Value) (w : World) : (Extern.ReflectliteType.typeOf #[.iface 33 v]).run Try.prog w = .ok (.iface 129 (.agg #[.pointer (some ⟨0, 33, none⟩)])) w := by kernel_rfl
def cmpFn : Array Value → Sem Value := Extern.ReflectliteType.method fun t => do Extern.Rtype.noPackHeld "Comparable" t; pure (.bool (← typeInfo t).comparable)
theorem isComparable (w : World) : (cmpFn #[.agg #[.pointer (some ⟨0, 33, none⟩)]]).run Try.prog w = .ok (.bool true) w := by kernel_rfl
theorem isMethodComparable (v : Value) (w : World) : (Go.method 302 129 v "Comparable").run Try.prog w = .ok (109, v) w := by kernel_rfl
theorem isComp : (Try.prog.info? 33).map (·.comparable) = some true := by kernel_rfl
theorem noIsE (v : Value) (xT : TypeId) (w : World) : (Instr.typeAssert (.iface 33 v) xT 131 true).run Try.prog w = .ok (.tuple #[.nilIface, .bool false]) w := run_typeAssert_lacksB Try.underlying131 (by kernel_rfl) (by kernel_rfl) v xT w
theorem noUnwrapE (v : Value) (xT : TypeId) (w : World) : (Instr.typeAssert (.iface 33 v) xT 134 true).run Try.prog w = .ok (.tuple #[.nilIface, .bool false]) w := run_typeAssert_lacksB Try.underlying134 (by kernel_rfl) (by kernel_rfl) v xT w
theorem noUnwrapsE (v : Value) (xT : TypeId) (w : World) : (Instr.typeAssert (.iface 33 v) xT 135 true).run Try.prog w = .ok (.tuple #[.nilIface, .bool false]) w := run_typeAssert_lacksB Try.underlying135 (by kernel_rfl) (by kernel_rfl) v xT w
set_option maxRecDepth 100000 in
theorem is_nil (b : Int) (w : World) :
    Calls Try.prog 37 #[.nilIface, .iface 33 (.int .i64 b)] w fun e w' => e = .returned (.bool false) ∧ w' = w := by
  have hn := run_eql_iface_nil_left (P := Try.prog) w 33 (.int .i64 b) Try.underlying78
  go_enter Try.func37, Try.ntmps37
  go_wp2
  go_ret
  exact ⟨rfl, rfl⟩
set_option maxRecDepth 100000 in
theorem is_errno (a b : Int) (w : World) :
    Calls Try.prog 37 #[.iface 33 (.int .i64 a), .iface 33 (.int .i64 b)] w fun e w' => e = .returned (.bool (a == b)) ∧ w' = w := by
  have h8 := @run_callFunc_extern Try.prog 50 _ Extern.ReflectliteType.typeOf Try.func50 (by kernel_rfl) (by kernel_rfl) (by kernel_rfl) (by kernel_rfl)
  have h32 := @run_callFunc_extern Try.prog 109 _ cmpFn Try.func109 (by kernel_rfl) (by kernel_rfl) (by kernel_rfl) (by kernel_rfl)
  have tT := isTypeOf
  have cT := isComparable
  have mR := isMethodComparable
  have nE := noIsE
  have uE := noUnwrapE
  have vE := noUnwrapsE
  by_cases hab : a = b
  · subst hab
    have heq := Go.Lib.run_eql_iface_int (P := Try.prog) w (k := .i64) a a Try.underlying78 isComp Try.underlying33
    simp only [beq_self_eq_true] at heq ⊢
    go_enter Try.func37, Try.ntmps37
    go_wp2
    refine wp_loop_rounds 1 ?_
    rw [rounds_succ]
    go_wp2
    go_ret
    exact ⟨rfl, rfl⟩
  · have heq := Go.Lib.run_eql_iface_int (P := Try.prog) w (k := .i64) a b Try.underlying78 isComp Try.underlying33
    have hb : (a == b) = false := by simpa using hab
    rw [hb] at heq ⊢
    go_enter Try.func37, Try.ntmps37
    go_wp2
    refine wp_loop_rounds 1 ?_
    rw [rounds_succ]
    go_wp2
    go_ret
    exact ⟨rfl, rfl⟩

theorem noIs_journal_place (v : Value) (xT : TypeId) (w : World) : (Instr.typeAssert (.iface 108 v) xT 131 true).run Try.prog w = .ok (.tuple #[.nilIface, .bool false]) w := run_typeAssert_lacksB Try.underlying131 (by kernel_rfl) (by kernel_rfl) v xT w
theorem hasUnwrap_journal_place (v : Value) (xT : TypeId) (w : World) : (Instr.typeAssert (.iface 108 v) xT 134 true).run Try.prog w = .ok (.tuple #[.iface 108 v, .bool true]) w := run_typeAssert_hasB Try.underlying134 (by kernel_rfl) v xT w
theorem methodUnwrap_journal_place (v : Value) (w : World) : (Go.method 302 108 v "Unwrap").run Try.prog w = .ok (105, v) w := by kernel_rfl

set_option maxRecDepth 100000 in
theorem is_journal_place (pb po : Nat) (a b : Int) (w : World) (h1 : w.cell? ⟨pb, po + 1, none⟩ = some (.iface 33 (.int .i64 a))) :
    Calls Try.prog 37 #[.iface 108 (.pointer (some ⟨pb, po, none⟩)), .iface 33 (.int .i64 b)] w fun e w' => e = .returned (.bool (a == b)) ∧ w' = w := by
  have h8 := @run_callFunc_extern Try.prog 50 _ Extern.ReflectliteType.typeOf Try.func50 (by kernel_rfl) (by kernel_rfl) (by kernel_rfl) (by kernel_rfl)
  have h32 := @run_callFunc_extern Try.prog 109 _ cmpFn Try.func109 (by kernel_rfl) (by kernel_rfl) (by kernel_rfl) (by kernel_rfl)
  have tT := isTypeOf
  have cT := isComparable
  have mR := isMethodComparable
  have nE := noIsE
  have uE := noUnwrapE
  have vE := noUnwrapsE
  have nW := noIs_journal_place
  have uW := hasUnwrap_journal_place
  have mU := methodUnwrap_journal_place
  have hty := run_eql_iface_types (P := Try.prog) 108 33 (.pointer (some ⟨pb, po, none⟩)) (.int .i64 b) Try.underlying78 (by decide) w
  by_cases hab : a = b
  · subst hab
    have heq := Go.Lib.run_eql_iface_int (P := Try.prog) w (k := .i64) a a Try.underlying78 isComp Try.underlying33
    simp only [beq_self_eq_true] at heq ⊢
    go_enter Try.func37, Try.ntmps37
    go_wp2
    refine wp_loop_rounds 2 ?_
    rw [rounds_succ]
    go_wp2
    rw [rounds_succ]
    go_wp2
    go_ret
    exact ⟨rfl, rfl⟩
  · have heq := Go.Lib.run_eql_iface_int (P := Try.prog) w (k := .i64) a b Try.underlying78 isComp Try.underlying33
    have hb : (a == b) = false := by simpa using hab
    rw [hb] at heq ⊢
    go_enter Try.func37, Try.ntmps37
    go_wp2
    refine wp_loop_rounds 2 ?_
    rw [rounds_succ]
    go_wp2
    rw [rounds_succ]
    go_wp2
    go_ret
    exact ⟨rfl, rfl⟩

section
variable {A : Type} {R : Adts A}
theorem two_VRs {ρ : Pl} {a b : AVal} {vs : List Value} (hv : VRs ρ [a, b] vs) (ha : a ≠ .any) (hb : b ≠ .any) (ha2 : ∀ l, a ≠ .tup l) (hb2 : ∀ l, b ≠ .tup l) : vs = [conc ρ a, conc ρ b] := by
  obtain ⟨hl, hg⟩ := hv
  obtain ⟨v0, h0, r0⟩ := hg 0 _ rfl
  obtain ⟨v1, h1, r1⟩ := hg 1 _ rfl
  have e0 := r0.eq ha ha2
  have e1 := r1.eq hb hb2
  match vs, hl with
  | [x, y], _ =>
    simp at h0 h1
    rw [h0, h1, e0, e1]
theorem Is_nil_ok (b : Int) {h : AHeap A} {K : AVal → AHeap A → Prop} (hk : K (.bool false) h) : Tri Pr R n_errors_Is [.nili, .iface t_api_Errno (.int .i64 b)] h K := by
  intro ρ ow w vs hr hv hb
  have := two_VRs hv (by simp) (by simp) (by simp) (by simp)
  subst this
  refine Calls.mono (is_nil b w) ?_
  rintro e w' ⟨rfl, rfl⟩
  exact ⟨.bool false, _, ρ, ow, h, rfl, hk, VR.of_eq ρ (.bool false), trivial, hr, Fr.refl _ _ _ _⟩
theorem Is_errno_ok (a b : Int) {h : AHeap A} {K : AVal → AHeap A → Prop} (hk : K (.bool (a == b)) h) : Tri Pr R n_errors_Is [.iface t_api_Errno (.int .i64 a), .iface t_api_Errno (.int .i64 b)] h K := by
  intro ρ ow w vs hr hv hb
  have := two_VRs hv (by simp) (by simp) (by simp) (by simp)
  subst this
  refine Calls.mono (is_errno a b w) ?_
  rintro e w' ⟨rfl, rfl⟩
  exact ⟨.bool (a == b), _, ρ, ow, h, rfl, hk, VR.of_eq ρ (.bool (a == b)), trivial, hr, Fr.refl _ _ _ _⟩
theorem Is_journal_place_ok (a b : Int) {h : AHeap A} {j : Nat} {t : TypeId} {cs : List AVal} (hj : h[j]? = some (.cells t cs)) (hc : cs[1]? = some (.iface t_api_Errno (.int .i64 a))) {K : AVal → AHeap A → Prop} (hk : K (.bool (a == b)) h) :
    Tri Pr R n_errors_Is [.iface t_p_journal_place (.ptr j 0), .iface t_api_Errno (.int .i64 b)] h K := by
  intro ρ ow w vs hr hv hb
  have := two_VRs hv (by simp) (by simp) (by simp) (by simp)
  subst this
  have hcell := cell_at hr (show cellsAt h j = some cs by simp [cellsAt, hj, AObj.read]) hc
  refine Calls.mono (is_journal_place (ρ j).blk ((ρ j).base + 0) a b w (by simpa [conc] using hcell)) ?_
  rintro e w' ⟨rfl, rfl⟩
  exact ⟨.bool (a == b), _, ρ, ow, h, rfl, hk, VR.of_eq ρ (.bool (a == b)), trivial, hr, Fr.refl _ _ _ _⟩
end
end Go.AI

/- Objects without pointers are picked out of a heap. -/
set_option linter.all false
namespace Go.AI
variable {A : Type} {R : Adts A} {P : Program}
def AObj.closed (R : Adts A) (o : AObj A) : Prop := (∀ m, o.ix R m) ∧ ∀ τ, o.ren R τ = o
theorem closed_cells {t : TypeId} {cs : List AVal} (h : ixs 0 cs = true) : AObj.closed R (.cells t cs : AObj A) :=
  ⟨fun m => ixs_mono (Nat.zero_le m) cs h, fun τ => by simp only [AObj.ren]; rw [rens_ix0 τ _ h]⟩
/-- The heap goes on with the objects that are named, in their order. -/
theorem Gives.selc (hR : R.Ok) {n : Nat} (js : List Nat) (os : AHeap A) (vs2 : List AVal) {vs : List AVal} {h : AHeap A} {K : List AVal → AHeap A → Prop} (hjs : js.Nodup) (hl : js.length = os.length) (hn : ∀ k, k < n → js[k]? = some k)
    (ho : ∀ k j : Nat, js[k]? = some j → h[j]? = os[k]?) (hc : ∀ o ∈ os, o.closed R) (hv : vs = rens (at_ js h.length) vs2) (hx : ixs os.length vs2 = true) (hno : n ≤ os.length) (hk : K vs2 os) : Gives P R n h vs K := by
  refine Gives.keep hR js (h2 := os) (vs2 := vs2) ⟨hl, hjs, fun k o' hk => ?_, fun o' ho' => (hc o' ho').1 _⟩ hv hx hn (Gives.done hno hk)
  have hk2 := (List.getElem?_eq_some_iff.1 hk).1
  refine ⟨js[k]'(by omega), List.getElem?_eq_getElem (by omega), ?_⟩
  rw [(hc o' (List.mem_of_getElem? hk)).2, ho k _ (List.getElem?_eq_getElem (by omega)), hk]
end Go.AI

/- Events and records that are handed in. -/
set_option linter.all false
namespace Go.AI
theorem len_s {α : Type} {l : List α} {n : Nat} (h : l.length = n + 1) : ∃ x r, l = x :: r ∧ r.length = n := by
  cases l with
  | nil => simp at h
  | cons x r => exact ⟨x, r, rfl, by simpa using h⟩
theorem ev_TR {P : Program} {n : Nat} {e i : TypeId} {f0 f1 f2 f3 f4 f5 f6 f7 : Field} {us : List AVal} (he : P.underlying e = some (.struct #[f0, f1, f2, f3, f4, f5, f6, f7])) (hi : P.underlying i = some (.int .i64)) (hc : P.cellsOf e = 8) (ci : P.cellsOf i = 1)
    (hf : (f0.type = i ∧ f0.offset = 0) ∧ (f1.type = i ∧ f1.offset = 1) ∧ (f2.type = i ∧ f2.offset = 2) ∧ (f3.type = i ∧ f3.offset = 3) ∧ (f4.type = i ∧ f4.offset = 4) ∧ (f5.type = i ∧ f5.offset = 5) ∧ (f6.type = i ∧ f6.offset = 6) ∧ (f7.type = i ∧ f7.offset = 7)) (h : TR P (n + 2) e us) : ∃ x : Ev, us = x.row := by
  obtain ⟨⟨t0, o0⟩, ⟨t1, o1⟩, ⟨t2, o2⟩, ⟨t3, o3⟩, ⟨t4, o4⟩, ⟨t5, o5⟩, ⟨t6, o6⟩, ⟨t7, o7⟩⟩ := hf
  obtain ⟨hr, h6⟩ := TR_struct he h
  rw [hc] at hr
  obtain ⟨r0, r1, r2, r3, r4, r5, r6, r7, rfl⟩ := len_8 hr
  have g0 := h6 0 f0 rfl
  have g1 := h6 1 f1 rfl
  have g2 := h6 2 f2 rfl
  have g3 := h6 3 f3 rfl
  have g4 := h6 4 f4 rfl
  have g5 := h6 5 f5 rfl
  have g6 := h6 6 f6 rfl
  have g7 := h6 7 f7 rfl
  rw [t0, o0, ci] at g0
  rw [t1, o1, ci] at g1
  rw [t2, o2, ci] at g2
  rw [t3, o3, ci] at g3
  rw [t4, o4, ci] at g4
  rw [t5, o5, ci] at g5
  rw [t6, o6, ci] at g6
  rw [t7, o7, ci] at g7
  obtain ⟨x0, e0, _⟩ := TR_int hi g0
  obtain ⟨x1, e1, _⟩ := TR_int hi g1
  obtain ⟨x2, e2, _⟩ := TR_int hi g2
  obtain ⟨x3, e3, _⟩ := TR_int hi g3
  obtain ⟨x4, e4, _⟩ := TR_int hi g4
  obtain ⟨x5, e5, _⟩ := TR_int hi g5
  obtain ⟨x6, e6, _⟩ := TR_int hi g6
  obtain ⟨x7, e7, _⟩ := TR_int hi g7
  simp at e0 e1 e2 e3 e4 e5 e6 e7
  subst e0 e1 e2 e3 e4 e5 e6 e7
  exact ⟨⟨x0, x1, x2, x3, x4, x5, x6, x7⟩, rfl⟩
theorem rec_TR {P : Program} {n : Nat} {t e i : TypeId} {f0 f1 f2 f3 f4 f5 f6 f7 g0 g1 g2 g3 : Field} {us : List AVal} (ht : P.underlying t = some (.struct #[g0, g1, g2, g3])) (he : P.underlying e = some (.struct #[f0, f1, f2, f3, f4, f5, f6, f7])) (hi : P.underlying i = some (.int .i64)) (hct : P.cellsOf t = 11) (hc : P.cellsOf e = 8) (ci : P.cellsOf i = 1)
    (hg : (g0.type = i ∧ g0.offset = 0) ∧ (g1.type = i ∧ g1.offset = 1) ∧ (g2.type = i ∧ g2.offset = 2) ∧ (g3.type = e ∧ g3.offset = 3))
    (hf : (f0.type = i ∧ f0.offset = 0) ∧ (f1.type = i ∧ f1.offset = 1) ∧ (f2.type = i ∧ f2.offset = 2) ∧ (f3.type = i ∧ f3.offset = 3) ∧ (f4.type = i ∧ f4.offset = 4) ∧ (f5.type = i ∧ f5.offset = 5) ∧ (f6.type = i ∧ f6.offset = 6) ∧ (f7.type = i ∧ f7.offset = 7)) (h : TR P (n + 3) t us) : ∃ x : Rec, us = x.row := by
  obtain ⟨⟨t0, o0⟩, ⟨t1, o1⟩, ⟨t2, o2⟩, ⟨t3, o3⟩⟩ := hg
  obtain ⟨hr, h6⟩ := TR_struct ht h
  rw [hct] at hr
  obtain ⟨r0, u1, rfl, hr1⟩ := len_s hr
  obtain ⟨r1, u2, rfl, hr2⟩ := len_s hr1
  obtain ⟨r2, u3, rfl, hr3⟩ := len_s hr2
  have k0 := h6 0 g0 rfl
  have k1 := h6 1 g1 rfl
  have k2 := h6 2 g2 rfl
  have k3 := h6 3 g3 rfl
  rw [t0, o0, ci] at k0
  rw [t1, o1, ci] at k1
  rw [t2, o2, ci] at k2
  rw [t3, o3, hc] at k3
  obtain ⟨x0, e0, _⟩ := TR_int hi k0
  obtain ⟨x1, e1, _⟩ := TR_int hi k1
  obtain ⟨x2, e2, _⟩ := TR_int hi k2
  obtain ⟨x, e3⟩ := ev_TR he hi hc ci hf k3
  simp at e0 e1 e2 e3
  subst e0 e1 e2
  rw [List.take_of_length_le (by omega)] at e3
  subst e3
  exact ⟨⟨x0, x1, x2, x⟩, rfl⟩
/-- A slice of structs that is handed in. -/
def IsRows {α : Type} (f : α → List AVal) (a : AVal) (l : List α) : Prop := (a = .nils ∧ l = []) ∨ ∃ b o cap, a = .lst b o l.length cap (l.flatMap f)
theorem rows_drop {α β : Type} {f : α → List β} {n : Nat} (hf : ∀ x, (f x).length = n) : ∀ (l : List α) (i : Nat) (h : i < l.length), (l.flatMap f).drop (i * n) = f l[i] ++ (l.drop (i + 1)).flatMap f
  | [], i, h => by simp at h
  | a :: r, 0, h => by simp
  | a :: r, i + 1, h => by
    have := rows_drop hf r i (by simpa using h)
    have e1 : (i + 1) * n = (f a).length + i * n := by rw [hf, Nat.succ_mul]; omega
    rw [e1, ← List.drop_drop, List.flatMap_cons, List.drop_left, this]
    simp
theorem IsRows.len {α : Type} {f : α → List AVal} {a : AVal} {l : List α} (h : IsRows f a l) (K : AVal → Prop) : lenP a K = K (.int .i64 l.length) := by
  rcases h with ⟨rfl, rfl⟩ | ⟨b, o, cap, rfl⟩ <;> simp
theorem IsRows.get {α : Type} {f : α → List AVal} {w : Nat} (hf : ∀ x, (f x).length = w) {a : AVal} {l : List α} (h : IsRows f a l) {n : Int} (h0 : 0 ≤ n) (h1 : n < l.length) : ∃ x b o cs, l[n.toNat]? = some x ∧ ∀ K, idxP w a (.int .i64 n) K = K (.fp b o (f x ++ cs)) := by
  rcases h with ⟨rfl, rfl⟩ | ⟨b, o, cap, rfl⟩
  · simp at h1; omega
  · have h2 : n.toNat < l.length := by omega
    refine ⟨l[n.toNat], b, o + n.toNat * w, (l.drop (n.toNat + 1)).flatMap f, List.getElem?_eq_getElem h2, fun K => ?_⟩
    rw [idxP_l K w b o l.length cap _ .i64 n h0 h1, rows_drop hf l n.toNat h2]
theorem rows_TR {P : Program} {n : Nat} {t e : TypeId} {α : Type} {f : α → List AVal} {us : List AVal} (hu : P.underlying t = some (.slice e)) (he : ∀ r, TR P n e r → ∃ x : α, r = f x) (h : TR P (n + 1) t us) : ∃ a l, us = [a] ∧ IsRows f a l := by
  rcases TR_slice hu h with rfl | ⟨b', o, len, cap, rows, rfl, h1, h2, h3, h4⟩
  · exact ⟨_, [], rfl, .inl ⟨rfl, rfl⟩⟩
  · have : ∃ l : List α, rows = l.map f := by
      clear h1 h2 h3 h
      induction rows with
      | nil => exact ⟨[], rfl⟩
      | cons r rs ih =>
        obtain ⟨l, rfl⟩ := ih fun r hr => h4 r (by simp [hr])
        obtain ⟨x, rfl⟩ := he _ (h4 r (by simp)).2
        exact ⟨x :: l, rfl⟩
    obtain ⟨l, rfl⟩ := this
    subst h3
    refine ⟨_, l, rfl, .inr ⟨b', o, cap, ?_⟩⟩
    rw [List.length_map, List.flatMap]
end Go.AI

/- Numbers are read. -/
set_option linter.all false
namespace Go.AI
variable {A : Type} {R : Adts A}
theorem shl8_or (x : Nat) (b : UInt8) (h : x < 4294967296) : bits .i64 (· ||| ·) (IntKind.i64.wrap ((x : Int) * 2 ^ (min 8 IntKind.i64.bits))) (b.toNat : Int) = ((x * 256 + b.toNat : Nat) : Int) := by
  have h1 : (2 : Int) ^ (min 8 IntKind.i64.bits) = 256 := rfl
  have hb : b.toNat < 256 := UInt8.toNat_lt b
  rw [h1, w64 (by omega)]
  have h2 : ((x : Int) * 256) = ((x * 256 : Nat) : Int) := by omega
  rw [h2, bits_or _ _ (by omega) (by omega)]
  have h3 : x * 256 ||| b.toNat = x * 256 + b.toNat := by
    have := Nat.two_pow_add_eq_or_of_lt (i := 8) (b := b.toNat) hb x
    rw [Nat.mul_comm x 256]
    exact this.symm
  rw [h3]
theorem bAcc_small {l : Bs0} (h : l.length ≤ 4) : bAcc l < 4294967296 := by
  have h1 := bAcc_lt l
  have h2 : 256 ^ l.length ≤ 256 ^ 4 := Nat.pow_le_pow_right (by omega) h
  omega
theorem bAcc_small3 {l : Bs0} (h : l.length ≤ 3) : bAcc l < 16777216 := by
  have h1 := bAcc_lt l
  have h2 : 256 ^ l.length ≤ 256 ^ 3 := Nat.pow_le_pow_right (by omega) h
  omega
theorem ref1_GetNum_ok (hR : R.Ok) (s : Bs0) (hs : s.length < 9000000000000000000) (at_ : Int) (ha : -9000000000000000000 ≤ at_ ∧ at_ < 9000000000000000000) {h : AHeap A} {K : AVal → AHeap A → Prop}
    (hk : K (.tup [.int .i64 (gNum s at_).1, .int .i64 (gNum s at_).2.1, .int .i64 (gNum s at_).2.2]) h) : Tri Pr R n_ref1_GetNum [.str s, .int .i64 at_] h K := by
  refine Tri.fn1 hR _ rfl rfl ?_ hk
  apply c_ref1_GetNum
  unfold p_ref1_GetNum
  obtain ⟨r, hr⟩ : ∃ r, gNum s at_ = r := ⟨_, rfl⟩
  rw [hr]
  unfold gNum at hr
  by_cases c1 : at_ < 0
  · rw [if_pos (.inl c1)] at hr; subst hr
    simp -implicitDefEqProofs [c1]; exact Ans.rfl' _
  by_cases c2 : (s.length : Int) < at_
  · rw [if_pos (.inr c2)] at hr; subst hr
    simp -implicitDefEqProofs [c1, c2]; exact Ans.rfl' _
  rw [if_neg (by omega)] at hr
  by_cases c3 : at_ = s.length
  · rw [if_pos c3] at hr; subst hr
    have c3' : (at_ == (s.length : Int)) = true := by simpa using c3
    simp -implicitDefEqProofs [c1, c2, c3']; exact Ans.rfl' _
  rw [if_neg c3] at hr
  have c3' : (at_ == (s.length : Int)) = false := by simpa using c3
  have a0 : 0 ≤ at_ := by omega
  have a1 : at_ < s.length := by omega
  have hlt : at_.toNat < s.length := by omega
  have hg : s.getD at_.toNat 0 = s[at_.toNat] := by simp [List.getD_eq_getElem?_getD, hlt]
  rw [hg] at hr
  obtain ⟨n, hn⟩ : ∃ n, (s[at_.toNat]).toNat = n := ⟨_, rfl⟩
  rw [hn] at hr
  have hn256 : n < 256 := by rw [← hn]; exact UInt8.toNat_lt _
  have e0 := w64 (n := (n : Int)) (by omega)
  dsimp only at hr
  by_cases c4 : 4 < n
  · rw [if_pos c4] at hr; subst hr
    have c4' : (4 : Int) < n := by omega
    simp -implicitDefEqProofs [c1, c2, c3', a0, a1, hlt, hn, e0, c4, c4']; exact Ans.rfl' _
  rw [if_neg c4] at hr
  have c4' : ¬ (4 : Int) < n := by omega
  have e1 := w64 (n := (s.length : Int) - at_) (by omega)
  have e2 := w64 (n := (s.length : Int) - at_ - 1) (by omega)
  by_cases c5 : s.length < at_.toNat + 1 + n
  · rw [if_pos c5] at hr; subst hr
    have c5' : (s.length : Int) - at_ - 1 < n := by omega
    simp -implicitDefEqProofs [c1, c2, c3', a0, a1, hlt, hn, e0, e1, e2, c4, c4', c5']; exact Ans.rfl' _
  rw [if_neg c5] at hr
  have c5' : ¬ (s.length : Int) - at_ - 1 < n := by omega
  simp -implicitDefEqProofs [c1, c2, c3', a0, a1, hlt, hn, e0, e1, e2, c4, c4', c5']
  obtain ⟨l, hl⟩ : ∃ l, (s.drop (at_.toNat + 1)).take n = l := ⟨_, rfl⟩
  rw [hl] at hr
  have hll : l.length = n := by rw [← hl]; simp; omega
  have hget : ∀ i (hi : i < n), s[at_.toNat + 1 + i]? = some (l[i]'(by omega)) := by
    intro i hi
    have : l[i]? = s[at_.toNat + 1 + i]? := by rw [← hl, List.getElem?_take, if_pos hi, List.getElem?_drop]
    rw [← this]; exact List.getElem?_eq_getElem _
  refine loopP_go (fun m y g => ∃ i : Nat, y = [.int .i64 (bAcc (l.take i) : Nat), .int .i64 ((i : Int) + 1)] ∧ g = [] ∧ i ≤ n ∧ m = n - i) n (Gives.done (by simp) ⟨0, rfl, rfl, by omega, rfl⟩) ?_
  rintro m y g ⟨i, rfl, rfl, hi, rfl⟩
  by_cases c6 : i < n
  · have c6' : (i : Int) + 1 ≤ n := by omega
    have e3 := w64 (n := at_ + ((i : Int) + 1)) (by omega)
    have e4 := w64 (n := (i : Int) + 1 + 1) (by omega)
    have f1 : 0 ≤ at_ + ((i : Int) + 1) := by omega
    have f2 : at_ + ((i : Int) + 1) < s.length := by omega
    have f3 : (at_ + ((i : Int) + 1)).toNat = at_.toNat + 1 + i := by omega
    have f4 := hget i c6
    have hsm := bAcc_small (l := l.take i) (by simp; omega)
    have f5 := shl8_or (bAcc (l.take i)) (l[i]'(by omega)) hsm
    have f6 : bAcc (l.take (i + 1)) = bAcc (l.take i) * 256 + (l[i]'(by omega)).toNat := by rw [← List.take_append_getElem (by omega : i < l.length), bAcc_snoc]
    have e5 := w64 (n := ((l[i]'(by omega)).toNat : Int)) (by have := UInt8.toNat_lt (l[i]'(by omega)); omega)
    simp -implicitDefEqProofs [c6, c6', e3, f1, f2, f3, f4, e4, e5]
    rw [f5, ← f6]
    exact Gives.done (by simp) ⟨n - (i + 1), by omega, i + 1, by simp, rfl, by omega, rfl⟩
  · obtain rfl : i = n := by omega
    have c6' : ¬ (i : Int) + 1 ≤ i := by omega
    have hti : l.take i = l := List.take_of_length_le (by omega)
    rw [hti]
    have hwh := nW_head (l := l) (by omega)
    rw [hll] at hwh
    have e6 := w64 (n := at_ + 1) (by omega)
    have e7 := w64 (n := at_ + i) (by omega)
    have e8 := w64 (n := at_ + i + 1) (by omega)
    have hsum : at_ + 1 + (i : Int) = at_ + i + 1 := by omega
    have hbig : (1073741823 < bAcc l) ↔ ((1073741823 : Int) < (bAcc l : Int)) := by omega
    have tail : ∀ (b : Bool), (b = true ↔ (0 < i ∧ l.getD 0 0 = 0)) → iteP (.bool b) (Ans (AVal.tup [.int .i64 r.1, .int .i64 r.2.1, .int .i64 r.2.2]) (AVal.tup [.int .i64 0, .int .i64 0, .int .i64 100])) (iteP (.bool (decide ((1073741823 : Int) < (bAcc l : Int)))) (Ans (AVal.tup [.int .i64 r.1, .int .i64 r.2.1, .int .i64 r.2.2]) (AVal.tup [.int .i64 0, .int .i64 0, .int .i64 100]))
        (Ans (AVal.tup [.int .i64 r.1, .int .i64 r.2.1, .int .i64 r.2.2]) (AVal.tup [.int .i64 (bAcc l : Nat), .int .i64 (at_ + i + 1), .int .i64 0]))) := by
      intro b hb
      cases b with
      | true =>
        have h1 : nW (bAcc l) ≠ i := fun h => (hwh.1 h) (hb.1 rfl)
        rw [if_pos (.inl h1)] at hr; subst hr
        exact Ans.rfl' _
      | false =>
        have h1 : nW (bAcc l) = i := hwh.2 (fun h => by simpa using hb.2 h)
        by_cases h2 : 1073741823 < bAcc l
        · rw [if_pos (.inr h2)] at hr; subst hr
          have h3 : decide ((1073741823 : Int) < (bAcc l : Int)) = true := by simpa using hbig.1 h2
          rw [h3]; exact Ans.rfl' _
        · rw [if_neg (by rintro (h | h); exact h h1; exact h2 h)] at hr; subst hr
          have h3 : decide ((1073741823 : Int) < (bAcc l : Int)) = false := by rw [decide_eq_false_iff_not]; omega
          rw [h3]
          show Ans _ _
          rw [hsum]; exact Ans.rfl' _
    simp -implicitDefEqProofs [c6']
    by_cases c7 : 0 < i
    · have f4 := hget 0 c7
      have f1 : 0 ≤ at_ + 1 := by omega
      have f2 : at_ + 1 < s.length := by omega
      have f3 : (at_ + 1).toNat = at_.toNat + 1 := by omega
      have f5 : s[at_.toNat + 1]? = some (l[0]'(by omega)) := f4
      have hl0 : l.getD 0 0 = l[0]'(by omega) := by simp [List.getD_eq_getElem?_getD, List.getElem?_eq_getElem (show 0 < l.length by omega)]
      have ht := tail (((l[0]'(by omega)).toNat : Int) == 0) (by
        rw [hl0]
        constructor
        · intro h; refine ⟨c7, UInt8.toNat_inj.1 ?_⟩; simp at h; simpa using h
        · rintro ⟨_, h⟩; rw [h]; rfl)
      simp -implicitDefEqProofs [c7, e6, f1, f2, f3, f5, e7, e8]
      cases hc : (((l[0]'(by omega)).toNat : Int) == 0) with
      | true => rw [hc] at ht; simp -implicitDefEqProofs; exact ht
      | false => rw [hc] at ht; simp -implicitDefEqProofs; exact ht
    · have ht := tail false (by simp [c7])
      simp -implicitDefEqProofs [c7, e7, e8]
      exact ht
end Go.AI

/- The program reads numbers. -/
set_option linter.all false
namespace Go.AI
variable {A : Type} {R : Adts A}
def faultO (a e : Int) : AObj A := .cells t_field_Fault [.int .i64 a, .iface t_api_Errno (.int .i64 e)]
theorem faultO_low {m : Nat} (a e : Int) : AObj.low R m (faultO a e : AObj A) := low_cells rfl
theorem field_num_ok (hR : R.Ok) (s : Bs0) (hs : s.length < 9000000000000000000) (at_ : Int) (ha : -9000000000000000000 ≤ at_ ∧ at_ < 9000000000000000000) {h : AHeap A} {K : AVal → AHeap A → Prop}
    (hk : if (gNum s at_).2.2 = 0 then K (.tup [.int .i64 (gNum s at_).1, .int .i64 (gNum s at_).2.1, .nili]) h else ∀ a e, K (.tup [.int .i64 0, .int .i64 0, .iface t_p_field_Fault (.ptr h.length 0)]) (h ++ [faultO a e])) : Tri Pr R n_field_num [.str s, .int .i64 at_] h K := by
  have bad : ∀ (a e : Int), (gNum s at_).2.2 ≠ 0 → (Tri Pr R n_field_num [.str s, .int .i64 at_] [] fun u g => Gives Pr R 0 g [u] fun vs h => ∃ v, vs = [v] ∧ v = .tup [.int .i64 0, .int .i64 0, .iface t_p_field_Fault (.ptr 0 0)] ∧ h = [faultO a e]) → Tri Pr R n_field_num [.str s, .int .i64 at_] h K := by
    intro a e he t
    rw [if_neg he] at hk
    refine Tri.make hR rfl (v0 := .tup [.int .i64 0, .int .i64 0, .iface t_p_field_Fault (.ptr 0 0)]) (h0 := [faultO a e]) (Tri.post t) ?_
    simpa [AVal.ren, rens, AObj.ren, faultO] using hk a e
  have hG : ∀ r, gNum s at_ = r → (gNum s at_).2.2 = r.2.2 := fun r h => by rw [h]
  obtain ⟨r, hr⟩ : ∃ r, gNum s at_ = r := ⟨_, rfl⟩
  rw [hr] at hk bad
  unfold gNum at hr
  by_cases c1 : at_ < 0
  · rw [if_pos (.inl c1)] at hr; subst hr
    refine bad at_ 100 (by simp) ?_
    apply c_field_num
    unfold p_field_num
    simp -implicitDefEqProofs [c1, mkiP]
    exact Gives.done (by simp) ⟨_, rfl, rfl, rfl⟩
  by_cases c2 : (s.length : Int) < at_
  · rw [if_pos (.inr c2)] at hr; subst hr
    refine bad at_ 100 (by simp) ?_
    apply c_field_num
    unfold p_field_num
    simp -implicitDefEqProofs [c1, c2, mkiP]
    exact Gives.done (by simp) ⟨_, rfl, rfl, rfl⟩
  rw [if_neg (by omega)] at hr
  by_cases c3 : at_ = s.length
  · rw [if_pos c3] at hr; subst hr
    have c3' : (at_ == (s.length : Int)) = true := by simpa using c3
    refine bad at_ 101 (by simp) ?_
    apply c_field_num
    unfold p_field_num
    simp -implicitDefEqProofs [c1, c2, c3', mkiP]
    exact Gives.done (by simp) ⟨_, rfl, rfl, rfl⟩
  rw [if_neg c3] at hr
  have c3' : (at_ == (s.length : Int)) = false := by simpa using c3
  have a0 : 0 ≤ at_ := by omega
  have a1 : at_ < s.length := by omega
  have hlt : at_.toNat < s.length := by omega
  have hg : s.getD at_.toNat 0 = s[at_.toNat] := by simp [List.getD_eq_getElem?_getD, hlt]
  rw [hg] at hr
  obtain ⟨n, hn⟩ : ∃ n, (s[at_.toNat]).toNat = n := ⟨_, rfl⟩
  rw [hn] at hr
  have hn256 : n < 256 := by rw [← hn]; exact UInt8.toNat_lt _
  have e0 := w64 (n := (n : Int)) (by omega)
  have e1 := w64 (n := at_ + 1) (by omega)
  have a2 : 0 ≤ at_ + 1 := by omega
  have a3 : at_ + 1 ≤ s.length := by omega
  have a4 : (at_ + 1).toNat = at_.toNat + 1 := by omega
  dsimp only at hr
  by_cases c4 : 4 < n
  · rw [if_pos c4] at hr; subst hr
    have c4' : (4 : Int) < n := by omega
    refine bad at_ 100 (by simp) ?_
    apply c_field_num
    unfold p_field_num
    simp -implicitDefEqProofs [c1, c2, c3', a0, a1, a2, a3, a4, hlt, hn, e0, e1, c4, c4', mkiP]
    exact Gives.done (by simp) ⟨_, rfl, rfl, rfl⟩
  rw [if_neg c4] at hr
  have c4' : ¬ (4 : Int) < n := by omega
  by_cases c5 : s.length < at_.toNat + 1 + n
  · rw [if_pos c5] at hr; subst hr
    have c5' : s.length - (at_.toNat + 1) < n := by omega
    refine bad (at_ + 1) 101 (by simp) ?_
    apply c_field_num
    unfold p_field_num
    simp -implicitDefEqProofs [c1, c2, c3', a0, a1, a2, a3, a4, hlt, hn, e0, e1, c4, c4', c5', mkiP]
    exact Gives.done (by simp) ⟨_, rfl, rfl, rfl⟩
  rw [if_neg c5] at hr
  have c5' : ¬ s.length - (at_.toNat + 1) < n := by omega
  have c5'' : n ≤ s.length - (at_.toNat + 1) := by omega
  obtain ⟨l, hl⟩ : ∃ l, (s.drop (at_.toNat + 1)).take n = l := ⟨_, rfl⟩
  rw [hl] at hr
  have hll : l.length = n := by rw [← hl]; simp; omega
  have hsm := bAcc_small (l := l) (by omega)
  have e2 := w64 (n := at_ + 1 + n) (by omega)
  -- the walk to the loop's end
  have walk : ∀ (Q : AVal → AHeap A → Prop), (if nW (bAcc l) ≠ n ∨ 1073741823 < bAcc l then Q (.tup [.int .i64 0, .int .i64 0, .iface t_p_field_Fault (.ptr 1 0)]) [.cells t_uint8 (l.map fun b => .int .u8 b.toNat), faultO (at_ + 1) 100]
      else Q (.tup [.int .i64 (bAcc l : Nat), .int .i64 (at_ + 1 + n), .nili]) [.cells t_uint8 (l.map fun b => .int .u8 b.toNat)]) → Tri Pr R n_field_num [.str s, .int .i64 at_] [] Q := by
    intro Q hQ
    apply c_field_num
    unfold p_field_num
    simp -implicitDefEqProofs [c1, c2, c3', a0, a1, a2, a3, a4, hlt, hn, e0, e1, c4, c4', c5', c5'', hl, hll]
    simp -implicitDefEqProofs [s2bP, hll]
    refine loopP_go (fun m y g => ∃ i : Nat, y = [.int .i64 (bAcc (l.take i) : Nat), .int .i64 i] ∧ g = [.cells t_uint8 (l.map fun b => .int .u8 b.toNat)] ∧ i ≤ n ∧ m = n - i) n (Gives.done (by simp) ⟨0, rfl, rfl, by omega, rfl⟩) ?_
    rintro m y g ⟨i, rfl, rfl, hi, rfl⟩
    by_cases c6 : i < n
    · have c6' : (i : Int) < n := by omega
      have c6l : i < l.length := by omega
      have e4 := w64 (n := (i : Int) + 1) (by omega)
      have hsi := bAcc_small (l := l.take i) (by simp; omega)
      have f5 := shl8_or (bAcc (l.take i)) l[i] hsi
      have f6 : bAcc (l.take (i + 1)) = bAcc (l.take i) * 256 + l[i].toNat := by rw [← List.take_append_getElem c6l, bAcc_snoc]
      have e5 := w64 (n := (l[i].toNat : Int)) (by have := UInt8.toNat_lt l[i]; omega)
      simp -implicitDefEqProofs [c6, c6', c6l, e4, e5]
      rw [f5, ← f6]
      exact Gives.done (by simp) ⟨n - (i + 1), by omega, i + 1, by simp, rfl, by omega, rfl⟩
    · obtain rfl : i = n := by omega
      have hti : l.take i = l := List.take_of_length_le (by omega)
      rw [hti]
      simp -implicitDefEqProofs
      refine field_width_ok hR _ (by omega) (by omega) ?_
      by_cases h1 : nW (bAcc l) = i
      · have h1' : (nW (bAcc l) != (i : Int)) = false := by simp [h1]
        by_cases h2 : 1073741823 < bAcc l
        · rw [if_pos (.inr h2)] at hQ
          have h2' : (1073741823 : Int) < (bAcc l : Int) := by omega
          simp -implicitDefEqProofs [h1', h2', mkiP, e1]
          exact hQ
        · rw [if_neg (by rintro (h | h); exact h h1; exact h2 h)] at hQ
          have h2' : ¬ (1073741823 : Int) < (bAcc l : Int) := by omega
          simp -implicitDefEqProofs [h1', h2', e1, e2]
          exact hQ
      · rw [if_pos (.inl h1)] at hQ
        have h1' : (nW (bAcc l) != (i : Int)) = true := by simp [h1]
        simp -implicitDefEqProofs [h1', mkiP, e1]
        exact hQ
  by_cases c7 : nW (bAcc l) ≠ n ∨ 1073741823 < bAcc l
  · rw [if_pos c7] at hr; subst hr
    refine bad (at_ + 1) 100 (by simp) (walk _ ?_)
    rw [if_pos c7]
    refine Gives.pick hR [] [.cells t_uint8 (l.map fun b => .int .u8 b.toNat)] (faultO (at_ + 1) 100) _ [.tup [.int .i64 0, .int .i64 0, .iface t_p_field_Fault (.ptr 0 0)]] rfl (by simp) (by simp) ⟨rfl, fun _ => rfl⟩ (by simp [rens, AVal.ren]) rfl ?_
    exact ⟨_, rfl, rfl, rfl⟩
  · rw [if_neg c7] at hr; subst hr
    simp only [if_true] at hk
    refine Tri.fn1 hR _ rfl rfl (walk _ ?_) hk
    rw [if_neg c7]
    exact Ans.rfl' _
end Go.AI

/- Readers. -/
set_option linter.all false
namespace Go.AI
variable {A : Type} {R : Adts A}
def fRead (s : Bs0) (at_ : Int) (e : AVal) : AObj A := .cells t_field_Reader [.str s, .int .i64 at_, e]
def rRead (s : Bs0) (at_ : Int) (bad : Bool) : AObj A := .cells t_bastionref1_Reader [.str s, .int .i64 at_, .bool bad]
@[simp] theorem fRead_read (s : Bs0) (a : Int) (e : AVal) : (fRead s a e : AObj A).read = some [.str s, .int .i64 a, e] := rfl
@[simp] theorem rRead_read (s : Bs0) (a : Int) (b : Bool) : (rRead s a b : AObj A).read = some [.str s, .int .i64 a, .bool b] := rfl
theorem fReader_ok (hR : R.Ok) (s : Bs0) (hs : s.length < 9000000000000000000) (at_ : Int) (ha : -9000000000000000000 ≤ at_ ∧ at_ < 9000000000000000000) {o : AObj A} {r : AHeap A} {K : AVal → AHeap A → Prop}
    (hk : if (gNum s at_).2.2 = 0 then K (.int .i64 (gNum s at_).1) (o :: fRead s (gNum s at_).2.1 .nili :: r) else ∀ a e, K (.int .i64 0) (o :: fRead s 0 (.iface t_p_field_Fault (.ptr (r.length + 2) 0)) :: (r ++ [faultO a e]))) :
    Tri Pr R n_field_Reader_Num [.ptr 1 0] (o :: fRead s at_ .nili :: r) K := by
  apply c_field_Reader_Num
  unfold p_field_Reader_Num
  simp -implicitDefEqProofs [fRead]
  refine field_num_ok hR s hs at_ ha ?_
  by_cases h : (gNum s at_).2.2 = 0
  · rw [if_pos h] at hk ⊢
    simp -implicitDefEqProofs
    exact hk
  · rw [if_neg h] at hk ⊢
    intro a e
    simp -implicitDefEqProofs
    simpa [fRead] using hk a e
theorem fReader_bad (hR : R.Ok) (s : Bs0) (at_ : Int) (t : TypeId) (v : AVal) {o : AObj A} {r : AHeap A} {K : AVal → AHeap A → Prop}
    (hk : K (.int .i64 0) (o :: fRead s at_ (.iface t v) :: r)) : Tri Pr R n_field_Reader_Num [.ptr 1 0] (o :: fRead s at_ (.iface t v) :: r) K := by
  apply c_field_Reader_Num
  unfold p_field_Reader_Num
  simp -implicitDefEqProofs [fRead]
  exact hk
theorem rReader_ok (hR : R.Ok) (s : Bs0) (hs : s.length < 9000000000000000000) (at_ : Int) (ha : -9000000000000000000 ≤ at_ ∧ at_ < 9000000000000000000) (bad : Bool) {o : AObj A} {r : AHeap A} {K : AVal → AHeap A → Prop}
    (hk : if bad = false ∧ (gNum s at_).2.2 = 0 then K (.int .i64 (gNum s at_).1) (o :: rRead s (gNum s at_).2.1 false :: r) else K (.int .i64 0) (o :: rRead s at_ true :: r)) :
    Tri Pr R n_ref1_Reader_Num [.ptr 1 0] (o :: rRead s at_ bad :: r) K := by
  apply c_ref1_Reader_Num
  unfold p_ref1_Reader_Num
  simp -implicitDefEqProofs [rRead]
  refine ref1_GetNum_ok hR s hs at_ ha ?_
  simp -implicitDefEqProofs
  cases bad with
  | true =>
    simp at hk
    simp -implicitDefEqProofs
    exact hk
  | false =>
    by_cases h : (gNum s at_).2.2 = 0
    · simp [h] at hk
      simp -implicitDefEqProofs [h]
      exact hk
    · simp [h] at hk
      have h' : ((gNum s at_).2.2 != 0) = true := by simpa using h
      simp -implicitDefEqProofs [h']
      exact hk
end Go.AI

/- The boot's sectors. -/
set_option linter.all false
namespace Go.AI
variable {A : Type} {R : Adts A}
theorem z_readn {n : Nat} {K : AVal → Prop} {h : AHeap A} {b : Nat} {ex : Bool} {t : TypeId} {cs : List AVal} (hb : h[b]? = some (.cells t cs)) (hc : cs = (List.replicate n [AVal.int .u8 0]).flatten) (hk : K (.str (List.replicate n 0))) : b2sP (.sl b 0 n n ex) h K := by
  subst hc
  have e : (List.replicate n [AVal.int .u8 0]).flatten = List.replicate n (.int .u8 0) := zCells_eq n
  rw [e] at hb
  unfold b2sP
  dsimp only
  simp only [cellsAt, hb, Option.bind_some, AObj.read]
  rw [if_pos (by simp)]
  simp only [List.drop_zero]
  rw [List.take_of_length_le (by simp), zCells_bytes]
  exact hk
theorem record_Fill_ok (hR : R.Ok) (s : Bs) (hs : s.length ≤ 64) {h : AHeap A} {K : AVal → AHeap A → Prop} (hk : K (.tup [.str (pad s), .bool true]) h) : Tri Pr R n_record_Fill [.str s] h K := by
  refine Tri.fn1 hR _ rfl rfl ?_ hk
  apply c_record_Fill
  unfold p_record_Fill
  have h1 : ¬ (64 : Int) < s.length := by omega
  have e1 := w64 (n := 64 - (s.length : Int)) (by omega)
  have h9 : (0 : Int) ≤ 64 - s.length ∧ 64 - (s.length : Int) ≤ 140737488355328 := by omega
  simp -implicitDefEqProofs [h1, e1]
  refine mkz_ok h9 ?_
  have e2 : (64 - (s.length : Int)).toNat = 64 - s.length := by omega
  have h2 : s.length + (64 - s.length) < 9223372036854775808 := by omega
  simp -implicitDefEqProofs [e2, h2]
  exact Ans.of (by simp [pad])
theorem super_may_ok (x : Int) {h : AHeap A} {K : AVal → AHeap A → Prop} (hk : K (.bool (bootMay x)) h) : Tri Pr R n_super_may [.int .i64 x] h K := by
  apply c_super_may
  unfold p_super_may
  by_cases h1 : 1 ≤ x
  · by_cases h2 : x ≤ 1023
    · simp [bootMay, h1, h2] at hk; simp -implicitDefEqProofs [h1, h2]; exact hk
    · simp [bootMay, h1, h2] at hk; simp -implicitDefEqProofs [h1, h2]; exact hk
  · simp [bootMay, h1] at hk; simp -implicitDefEqProofs [h1]; exact hk
theorem book_own (hR : R.Ok) {mk : Int → List Bs → A} (hB : HasBook R mk) {m : Int} {ts ts' : List Bs} {f : FuncId} {us : List AVal} (hus : us.all (AVal.ix 0) = true) {v : AVal} (hv : v.ix 0 = true)
    (t : Tri Pr R f (.ptr 0 0 :: us) [.adt (mk m ts)] fun u g => u = v ∧ ∃ r, g = .adt (mk m ts') :: r)
    {h : AHeap A} {b : Nat} (hb : h[b]? = some (.adt (mk m ts))) {K : AVal → AHeap A → Prop} (hk : K v (h.set b (.adt (mk m ts')))) : Tri Pr R f (.ptr b 0 :: us) h K := by
  have hus' : ixs 0 us = true := by rw [ixs_all]; exact hus
  refine Tri.own hR (as2 := .ptr 0 0 :: us) (Q := fun u o => u = v ∧ o = .adt (mk m ts')) ?_ (book_ix hB _ _ _) ?_ (book_ren hB _ _) ?_ hb ?_ ?_
  · simp [ixs, AVal.ix, ixs_mono (Nat.zero_le 1) us hus']
  · rintro _ _ ⟨rfl, rfl⟩; exact ⟨hv, book_ren hB _ _⟩
  · refine Tri.post (t.mono ?_)
    rintro _ _ ⟨rfl, r, rfl⟩
    exact Gives.cut hR (m := 1) (by simp) (by simp) (by simp [ixs, ix_mono (Nat.zero_le 1) _ hv]) (by simp; exact ⟨book_ix hB _ _ _, fun τ _ => book_ren hB _ _ _⟩) ⟨_, rfl, _, ⟨rfl, rfl⟩, rfl⟩
  · simp only [rens, AVal.ren]
    rw [rens_ix0 _ _ hus']; simp
  · rintro _ _ ⟨rfl, rfl⟩; exact hk
def BoolJ (c : Bool) (o : AObj A) (vs : List AVal) (g : AHeap A) : Prop := vs = [.bool c] ∧ ∃ r, g = o :: r
section
variable {mk : Int → List Bs → A}
theorem super_Put_ok (hR : R.Ok) (hB : HasBook R mk) {m : Int} {ts : List Bs} (hok : bOk m ts) (boot : Int) {h : AHeap A} {b : Nat} (hb : h[b]? = some (.adt (mk m ts))) {K : AVal → AHeap A → Prop}
    (hk : K (.tup [.str (sPut m ts boot).2.1, .int .i64 (sPut m ts boot).2.2]) (h.set b (.adt (mk m (sPut m ts boot).1)))) : Tri Pr R n_super_Put [.ptr b 0, .int .i64 boot] h K := by
  apply c_super_Put
  unfold p_super_Put
  simp -implicitDefEqProofs
  refine super_may_ok boot ?_
  cases hm : bootMay boot with
  | false =>
    simp [sPut, hm, set_same hb] at hk
    simp -implicitDefEqProofs; exact hk
  | true =>
    simp only [sPut, hm, if_true] at hk
    simp -implicitDefEqProofs
    refine field_Num_any hR boot ?_
    have hl := nS_len boot
    have h4 : 5 + (nS boot).length < 9223372036854775808 := by omega
    simp -implicitDefEqProofs [h4]
    refine craft_Hash_ok hR hB hok _ (by simp; omega) hb ?_
    have hc : 72 :: 115 :: 117 :: 112 :: 101 :: 114 :: nS boot = supT boot := rfl
    rw [hc]
    by_cases h5 : (cMade m ts (supT boot)).2.2 = 0
    · simp only [h5, if_true] at hk
      simp -implicitDefEqProofs [h5]
      refine field_Num_any hR _ ?_
      have hl2 := nS_len (cMade m ts (supT boot)).2.1
      have h6 : (nS boot).length + (nS (cMade m ts (supT boot)).2.1).length < 9223372036854775808 := by omega
      simp -implicitDefEqProofs [h6]
      refine record_Fill_ok hR _ (by simp; omega) ?_
      simp -implicitDefEqProofs
      exact hk
    · simp only [h5, if_false] at hk
      have h6 : ((cMade m ts (supT boot)).2.2 != 0) = true := by simpa using h5
      simp -implicitDefEqProofs [h6]; exact hk
theorem super_Get_ok (hR : R.Ok) (hB : HasBook R mk) {m : Int} {ts : List Bs} (s : Bs) (hs : s.length < 8000000000000000000) {h : AHeap A} {b : Nat} (hb : h[b]? = some (.adt (mk m ts))) {K : AVal → AHeap A → Prop}
    (hk : K (.tup [.int .i64 (sGet ts s).1, .int .i64 (sGet ts s).2]) h) : Tri Pr R n_super_Get [.ptr b 0, .str s] h K := by
  refine book_own hR hB (ts' := ts) rfl rfl ?_ hb (by rw [set_same hb]; exact hk)
  apply c_super_Get
  unfold p_super_Get
  obtain ⟨r, hr⟩ : ∃ r, sGet ts s = r := ⟨_, rfl⟩
  rw [hr]
  unfold sGet at hr
  simp -implicitDefEqProofs
  have hf : (.cells t_field_Reader [.str s, .int .i64 0, .nili] : AObj A) = fRead s 0 .nili := rfl
  rw [hf]
  refine fReader_ok hR s (by omega) 0 (by omega) ?_
  obtain ⟨x, t1, e1, hg1⟩ : ∃ x t1 e1, gNum s 0 = (x, t1, e1) := ⟨_, _, _, rfl⟩
  rw [hg1] at hr ⊢
  dsimp only at hr ⊢
  by_cases c1 : e1 = 0
  · subst c1
    obtain ⟨q1, q2, q3, q4, q5⟩ := gNum_enc hg1
    rw [if_neg (by simp)] at hr
    rw [if_pos rfl]
    simp -implicitDefEqProofs
    refine fReader_ok hR s (by omega) t1 (by omega) ?_
    obtain ⟨y, t2, e2, hg2⟩ : ∃ y t2 e2, gNum s t1 = (y, t2, e2) := ⟨_, _, _, rfl⟩
    rw [hg2] at hr ⊢
    dsimp only at hr ⊢
    by_cases c2 : e2 = 0
    · subst c2
      obtain ⟨p1, p2, p3, p4, p5⟩ := gNum_enc hg2
      rw [if_neg (by simp)] at hr
      rw [if_pos rfl]
      refine joinP_go ?_
      by_cases c3 : s.length = 64
      · by_cases c4 : bootMay x = true
        · have hx := bootMay_num c4
          have ht : s.take t1.toNat = nS x := by simpa [nS, hx] using q5
          have hl := nS_len x
          have h4 : 5 + (nS x).length < 9223372036854775808 := by omega
          have hc : 72 :: 115 :: 117 :: 112 :: 101 :: 114 :: nS x = supT x := rfl
          have f1 : 0 ≤ t1 := by omega
          have f2 : 0 ≤ t2 := by omega
          have f3 : t2 ≤ 64 := by omega
          have f4 : t1 ≤ 64 := by omega
          have e5 := w64 (n := 64 - t2) (by omega)
          simp -implicitDefEqProofs [c3]
          refine super_may_ok x ?_
          simp -implicitDefEqProofs [c4, f1, f4, c3, ht, h4]
          refine craft_IsHash_ok hR hB _ (by simp; omega) y rfl ?_
          rw [hc]
          cases c5 : cIs ts (supT x) y with
          | false =>
            rw [if_pos (.inr (.inr (.inl c5)))] at hr; subst hr
            simp -implicitDefEqProofs
          | true =>
            obtain ⟨n, hn⟩ : ∃ n : Nat, (64 - t2).toNat = n := ⟨_, rfl⟩
            have hn2 : 64 - t2.toNat = n := by omega
            rw [hn2] at hr
            have f5 : 64 - t2 ≤ 140737488355328 := by omega
            simp -implicitDefEqProofs [c3, f2, f3, e5, mkslP, f5, hn]
            refine z_readn (by rfl) (zCells_eq n).symm ?_
            by_cases c6 : s.drop t2.toNat = List.replicate n 0
            · rw [if_neg (by rintro (h | h | h | h); exact h c3; rw [c4] at h; simp at h; rw [c5] at h; simp at h; exact h c6)] at hr; subst hr
              simp -implicitDefEqProofs [c6]
            · rw [if_pos (.inr (.inr (.inr c6)))] at hr; subst hr
              have c6' : (s.drop t2.toNat != List.replicate n 0) = true := by simpa using c6
              simp -implicitDefEqProofs [c6']
        · have c4' : bootMay x = false := by simpa using c4
          rw [if_pos (.inr (.inl c4'))] at hr; subst hr
          simp -implicitDefEqProofs [c3]
          refine super_may_ok x ?_
          simp -implicitDefEqProofs [c4']
      · rw [if_pos (.inl c3)] at hr; subst hr
        have c3' : ((s.length : Int) != 64) = true := by simp; omega
        simp -implicitDefEqProofs [c3']
    · rw [if_pos c2] at hr; subst hr
      rw [if_neg c2]
      intro a e
      simp -implicitDefEqProofs
      refine joinP_go ?_
      simp -implicitDefEqProofs
  · rw [if_pos c1] at hr; subst hr
    rw [if_neg c1]
    intro a e
    simp -implicitDefEqProofs
    refine fReader_bad hR s 0 _ _ ?_
    simp -implicitDefEqProofs
    refine joinP_go ?_
    simp -implicitDefEqProofs
end
end Go.AI

/- The boot's sectors: which one counts; the document's. -/
set_option linter.all false
namespace Go.AI
variable {A : Type} {R : Adts A}
theorem super_Put_nil (hR : R.Ok) (x : Int) {h : AHeap A} {K : AVal → AHeap A → Prop} (hk : K (.tup [.str [], .int .i64 1]) h) : Tri Pr R n_super_Put [.nilp, .int .i64 x] h K := by
  apply c_super_Put
  unfold p_super_Put
  simp -implicitDefEqProofs; exact hk
theorem super_Get_nil (hR : R.Ok) (s : Bs) {h : AHeap A} {K : AVal → AHeap A → Prop} (hk : K (.tup [.int .i64 0, .int .i64 1]) h) : Tri Pr R n_super_Get [.nilp, .str s] h K := by
  apply c_super_Get
  unfold p_super_Get
  simp -implicitDefEqProofs; exact hk
theorem super_Pick_nil (hR : R.Ok) (s t : Bs) {h : AHeap A} {K : AVal → AHeap A → Prop} (hk : K (.tup [.int .i64 0, .int .i64 0, .int .i64 1]) h) : Tri Pr R n_super_Pick [.nilp, .str s, .str t] h K := by
  apply c_super_Pick
  unfold p_super_Pick
  simp -implicitDefEqProofs; exact hk
section
variable {mk : Int → List Bs → A}
theorem super_Pick_ok (hR : R.Ok) (hB : HasBook R mk) {m : Int} {ts : List Bs} (s t : Bs) (hs : s.length < 8000000000000000000) (ht : t.length < 8000000000000000000) {h : AHeap A} {b : Nat} (hb : h[b]? = some (.adt (mk m ts))) {K : AVal → AHeap A → Prop}
    (hk : K (.tup [.int .i64 (sPick ts s t).1, .int .i64 (sPick ts s t).2.1, .int .i64 (sPick ts s t).2.2]) h) : Tri Pr R n_super_Pick [.ptr b 0, .str s, .str t] h K := by
  apply c_super_Pick
  unfold p_super_Pick
  simp -implicitDefEqProofs
  refine super_Get_ok hR hB s hs hb ?_
  simp -implicitDefEqProofs
  refine super_Get_ok hR hB t ht hb ?_
  unfold sPick at hk
  obtain ⟨x, e, hx⟩ : ∃ x e, sGet ts s = (x, e) := ⟨_, _, rfl⟩
  obtain ⟨y, f, hy⟩ : ∃ x e, sGet ts t = (x, e) := ⟨_, _, rfl⟩
  rw [hx, hy] at hk
  rw [hx, hy]
  dsimp only at hk ⊢
  by_cases c1 : e = 0
  · subst c1
    rw [if_neg (by simp)] at hk
    by_cases c2 : y ≤ x
    · rw [if_pos ⟨rfl, c2⟩] at hk
      simp -implicitDefEqProofs [c2]; exact hk
    · rw [if_neg (by simp [c2])] at hk
      simp -implicitDefEqProofs [c2]; exact hk
  · have c1' : (e != 0) = true := by simpa using c1
    have c1'' : (e == 0) = false := by simpa using c1
    by_cases c3 : f = 0
    · subst c3
      rw [if_neg (by simp), if_neg (by simp [c1])] at hk
      simp -implicitDefEqProofs [c1', c1'']; exact hk
    · have c3' : (f != 0) = true := by simpa using c3
      rw [if_pos ⟨c1, c3⟩] at hk
      simp -implicitDefEqProofs [c1', c3']; exact hk
end
section
variable {mk : Int → List Bs → A}
end
end Go.AI

/- Events: may one be (printed by gen/event_gen.py)? -/
set_option linter.all false
namespace Go.AI
variable {A : Type} {R : Adts A}
theorem shEv (e f : Ev) : shEq (Sh.st [(0, 1, Sh.i), (1, 1, Sh.i), (2, 1, Sh.i), (3, 1, Sh.i), (4, 1, Sh.i), (5, 1, Sh.i), (6, 1, Sh.i), (7, 1, Sh.i)]) e.row f.row = some (decide (e = f)) := by
  obtain ⟨k, u, s, ad, a, b, c, t⟩ := e
  obtain ⟨k2, u2, s2, ad2, a2, b2, c2, t2⟩ := f
  simp [Ev.row, shEq, shEqs]
  rfl
theorem event_May_0 (hR : R.Ok) (u s ad a b c t : Int) {h : AHeap A} {K : AVal → AHeap A → Prop} (hk : K (.bool (evMay ⟨0, u, s, ad, a, b, c, t⟩)) h) : Tri Pr R n_event_May [.agg (Ev.row ⟨0, u, s, ad, a, b, c, t⟩)] h K := by
  refine Tri.fn1 hR _ rfl rfl ?_ hk
  apply c_event_May
  unfold p_event_May
  simp -implicitDefEqProofs [Ev.row]
  apply c_event_parts
  unfold p_event_parts
  simp -implicitDefEqProofs [appP, appV, srcOf, cellsAt]
  repeat (first | refine joinP_go ?_ | simp -implicitDefEqProofs [appP, appV, srcOf, cellsAt])
  refine loopP_unr 5 ?_
  rw [unr]
  simp -implicitDefEqProofs
  refine field_NumMay_ok _ ?_
  cases h0 : nMay t with
  | false => simp -implicitDefEqProofs; exact Ans.of (by simp [evMay, evParts, h0])
  | true =>
    simp -implicitDefEqProofs
    refine Gives.done (by simp) ?_
    rw [unr]
    simp -implicitDefEqProofs
    refine joinP_go ?_
    by_cases c1 : u < 8
    · by_cases c2 : ad < 16
      · by_cases c3 : t ≤ 1048575
        · by_cases c4 : c ≤ 1048576
          · simp -implicitDefEqProofs [c1, c2, c3, c4]
            apply c_event_plain
            unfold p_event_plain
            simp -implicitDefEqProofs
            apply c_event_parts
            unfold p_event_parts
            simp -implicitDefEqProofs [appP, appV, srcOf, cellsAt]
            repeat (first | refine joinP_go ?_ | simp -implicitDefEqProofs [appP, appV, srcOf, cellsAt])
            apply c_event_parts
            unfold p_event_parts
            simp -implicitDefEqProofs [appP, appV, srcOf, cellsAt]
            repeat (first | refine joinP_go ?_ | simp -implicitDefEqProofs [appP, appV, srcOf, cellsAt])
            refine loopP_unr 5 ?_
            rw [unr]
            simp -implicitDefEqProofs
            refine Gives.done (by simp) ?_
            rw [unr]
            simp -implicitDefEqProofs
            have he := shEv ⟨0, u, s, ad, a, b, c, t⟩ ⟨0, 0, 0, 0, 0, 0, 0, t⟩
            simp only [Ev.row] at he
            simp -implicitDefEqProofs [he]
            exact Ans.of (by simp [evMay, evPlain, evOf, evParts, ev0, c1, c2, c3, c4, h0])
          · simp -implicitDefEqProofs [c1, c2, c3, c4]; exact Ans.of (by simp [evMay, c4])
        · simp -implicitDefEqProofs [c1, c2, c3]; exact Ans.of (by simp [evMay, c3])
      · simp -implicitDefEqProofs [c1, c2]; exact Ans.of (by simp [evMay, c2])
    · simp -implicitDefEqProofs [c1]; exact Ans.of (by simp [evMay, c1])
theorem event_May_1 (hR : R.Ok) (u s ad a b c t : Int) {h : AHeap A} {K : AVal → AHeap A → Prop} (hk : K (.bool (evMay ⟨1, u, s, ad, a, b, c, t⟩)) h) : Tri Pr R n_event_May [.agg (Ev.row ⟨1, u, s, ad, a, b, c, t⟩)] h K := by
  refine Tri.fn1 hR _ rfl rfl ?_ hk
  apply c_event_May
  unfold p_event_May
  simp -implicitDefEqProofs [Ev.row]
  apply c_event_parts
  unfold p_event_parts
  simp -implicitDefEqProofs [appP, appV, srcOf, cellsAt]
  repeat (first | refine joinP_go ?_ | simp -implicitDefEqProofs [appP, appV, srcOf, cellsAt])
  refine loopP_unr 5 ?_
  rw [unr]
  simp -implicitDefEqProofs
  refine field_NumMay_ok _ ?_
  cases h0 : nMay u with
  | false => simp -implicitDefEqProofs; exact Ans.of (by simp [evMay, evParts, h0])
  | true =>
    simp -implicitDefEqProofs
    refine Gives.done (by simp) ?_
    rw [unr]
    simp -implicitDefEqProofs
    refine field_NumMay_ok _ ?_
    cases h1 : nMay a with
    | false => simp -implicitDefEqProofs; exact Ans.of (by simp [evMay, evParts, h0, h1])
    | true =>
      simp -implicitDefEqProofs
      refine Gives.done (by simp) ?_
      rw [unr]
      simp -implicitDefEqProofs
      refine field_NumMay_ok _ ?_
      cases h2 : nMay b with
      | false => simp -implicitDefEqProofs; exact Ans.of (by simp [evMay, evParts, h0, h1, h2])
      | true =>
        simp -implicitDefEqProofs
        refine Gives.done (by simp) ?_
        rw [unr]
        simp -implicitDefEqProofs
        refine field_NumMay_ok _ ?_
        cases h3 : nMay c with
        | false => simp -implicitDefEqProofs; exact Ans.of (by simp [evMay, evParts, h0, h1, h2, h3])
        | true =>
          simp -implicitDefEqProofs
          refine Gives.done (by simp) ?_
          rw [unr]
          simp -implicitDefEqProofs
          refine joinP_go ?_
          by_cases c1 : u < 8
          · by_cases c2 : ad < 16
            · by_cases c3 : t ≤ 1048575
              · by_cases c4 : c ≤ 1048576
                · simp -implicitDefEqProofs [c1, c2, c3, c4]
                  apply c_event_plain
                  unfold p_event_plain
                  simp -implicitDefEqProofs
                  apply c_event_parts
                  unfold p_event_parts
                  simp -implicitDefEqProofs [appP, appV, srcOf, cellsAt]
                  repeat (first | refine joinP_go ?_ | simp -implicitDefEqProofs [appP, appV, srcOf, cellsAt])
                  apply c_event_parts
                  unfold p_event_parts
                  simp -implicitDefEqProofs [appP, appV, srcOf, cellsAt]
                  repeat (first | refine joinP_go ?_ | simp -implicitDefEqProofs [appP, appV, srcOf, cellsAt])
                  refine loopP_unr 5 ?_
                  rw [unr]
                  simp -implicitDefEqProofs
                  refine Gives.done (by simp) ?_
                  rw [unr]
                  simp -implicitDefEqProofs
                  refine Gives.done (by simp) ?_
                  rw [unr]
                  simp -implicitDefEqProofs
                  refine Gives.done (by simp) ?_
                  rw [unr]
                  simp -implicitDefEqProofs
                  refine Gives.done (by simp) ?_
                  rw [unr]
                  simp -implicitDefEqProofs
                  have he := shEv ⟨1, u, s, ad, a, b, c, t⟩ ⟨1, u, 0, 0, a, b, c, 0⟩
                  simp only [Ev.row] at he
                  simp -implicitDefEqProofs [he]
                  exact Ans.of (by simp [evMay, evPlain, evOf, evParts, ev0, c1, c2, c3, c4, h0, h1, h2, h3])
                · simp -implicitDefEqProofs [c1, c2, c3, c4]; exact Ans.of (by simp [evMay, c4])
              · simp -implicitDefEqProofs [c1, c2, c3]; exact Ans.of (by simp [evMay, c3])
            · simp -implicitDefEqProofs [c1, c2]; exact Ans.of (by simp [evMay, c2])
          · simp -implicitDefEqProofs [c1]; exact Ans.of (by simp [evMay, c1])
theorem event_May_2 (hR : R.Ok) (u s ad a b c t : Int) {h : AHeap A} {K : AVal → AHeap A → Prop} (hk : K (.bool (evMay ⟨2, u, s, ad, a, b, c, t⟩)) h) : Tri Pr R n_event_May [.agg (Ev.row ⟨2, u, s, ad, a, b, c, t⟩)] h K := by
  refine Tri.fn1 hR _ rfl rfl ?_ hk
  apply c_event_May
  unfold p_event_May
  simp -implicitDefEqProofs [Ev.row]
  apply c_event_parts
  unfold p_event_parts
  simp -implicitDefEqProofs [appP, appV, srcOf, cellsAt]
  repeat (first | refine joinP_go ?_ | simp -implicitDefEqProofs [appP, appV, srcOf, cellsAt])
  refine loopP_unr 5 ?_
  rw [unr]
  simp -implicitDefEqProofs
  refine field_NumMay_ok _ ?_
  cases h0 : nMay u with
  | false => simp -implicitDefEqProofs; exact Ans.of (by simp [evMay, evParts, h0])
  | true =>
    simp -implicitDefEqProofs
    refine Gives.done (by simp) ?_
    rw [unr]
    simp -implicitDefEqProofs
    refine field_NumMay_ok _ ?_
    cases h1 : nMay t with
    | false => simp -implicitDefEqProofs; exact Ans.of (by simp [evMay, evParts, h0, h1])
    | true =>
      simp -implicitDefEqProofs
      refine Gives.done (by simp) ?_
      rw [unr]
      simp -implicitDefEqProofs
      refine joinP_go ?_
      by_cases c1 : u < 8
      · by_cases c2 : ad < 16
        · by_cases c3 : t ≤ 1048575
          · by_cases c4 : c ≤ 1048576
            · simp -implicitDefEqProofs [c1, c2, c3, c4]
              apply c_event_plain
              unfold p_event_plain
              simp -implicitDefEqProofs
              apply c_event_parts
              unfold p_event_parts
              simp -implicitDefEqProofs [appP, appV, srcOf, cellsAt]
              repeat (first | refine joinP_go ?_ | simp -implicitDefEqProofs [appP, appV, srcOf, cellsAt])
              apply c_event_parts
              unfold p_event_parts
              simp -implicitDefEqProofs [appP, appV, srcOf, cellsAt]
              repeat (first | refine joinP_go ?_ | simp -implicitDefEqProofs [appP, appV, srcOf, cellsAt])
              refine loopP_unr 5 ?_
              rw [unr]
              simp -implicitDefEqProofs
              refine Gives.done (by simp) ?_
              rw [unr]
              simp -implicitDefEqProofs
              refine Gives.done (by simp) ?_
              rw [unr]
              simp -implicitDefEqProofs
              have he := shEv ⟨2, u, s, ad, a, b, c, t⟩ ⟨2, u, 0, 0, 0, 0, 0, t⟩
              simp only [Ev.row] at he
              simp -implicitDefEqProofs [he]
              exact Ans.of (by simp [evMay, evPlain, evOf, evParts, ev0, c1, c2, c3, c4, h0, h1])
            · simp -implicitDefEqProofs [c1, c2, c3, c4]; exact Ans.of (by simp [evMay, c4])
          · simp -implicitDefEqProofs [c1, c2, c3]; exact Ans.of (by simp [evMay, c3])
        · simp -implicitDefEqProofs [c1, c2]; exact Ans.of (by simp [evMay, c2])
      · simp -implicitDefEqProofs [c1]; exact Ans.of (by simp [evMay, c1])
theorem event_May_3 (hR : R.Ok) (u s ad a b c t : Int) {h : AHeap A} {K : AVal → AHeap A → Prop} (hk : K (.bool (evMay ⟨3, u, s, ad, a, b, c, t⟩)) h) : Tri Pr R n_event_May [.agg (Ev.row ⟨3, u, s, ad, a, b, c, t⟩)] h K := by
  refine Tri.fn1 hR _ rfl rfl ?_ hk
  apply c_event_May
  unfold p_event_May
  simp -implicitDefEqProofs [Ev.row]
  apply c_event_parts
  unfold p_event_parts
  simp -implicitDefEqProofs [appP, appV, srcOf, cellsAt]
  repeat (first | refine joinP_go ?_ | simp -implicitDefEqProofs [appP, appV, srcOf, cellsAt])
  refine loopP_unr 5 ?_
  rw [unr]
  simp -implicitDefEqProofs
  refine field_NumMay_ok _ ?_
  cases h0 : nMay u with
  | false => simp -implicitDefEqProofs; exact Ans.of (by simp [evMay, evParts, h0])
  | true =>
    simp -implicitDefEqProofs
    refine Gives.done (by simp) ?_
    rw [unr]
    simp -implicitDefEqProofs
    refine field_NumMay_ok _ ?_
    cases h1 : nMay a with
    | false => simp -implicitDefEqProofs; exact Ans.of (by simp [evMay, evParts, h0, h1])
    | true =>
      simp -implicitDefEqProofs
      refine Gives.done (by simp) ?_
      rw [unr]
      simp -implicitDefEqProofs
      refine joinP_go ?_
      by_cases c1 : u < 8
      · by_cases c2 : ad < 16
        · by_cases c3 : t ≤ 1048575
          · by_cases c4 : c ≤ 1048576
            · simp -implicitDefEqProofs [c1, c2, c3, c4]
              apply c_event_plain
              unfold p_event_plain
              simp -implicitDefEqProofs
              apply c_event_parts
              unfold p_event_parts
              simp -implicitDefEqProofs [appP, appV, srcOf, cellsAt]
              repeat (first | refine joinP_go ?_ | simp -implicitDefEqProofs [appP, appV, srcOf, cellsAt])
              apply c_event_parts
              unfold p_event_parts
              simp -implicitDefEqProofs [appP, appV, srcOf, cellsAt]
              repeat (first | refine joinP_go ?_ | simp -implicitDefEqProofs [appP, appV, srcOf, cellsAt])
              refine loopP_unr 5 ?_
              rw [unr]
              simp -implicitDefEqProofs
              refine Gives.done (by simp) ?_
              rw [unr]
              simp -implicitDefEqProofs
              refine Gives.done (by simp) ?_
              rw [unr]
              simp -implicitDefEqProofs
              have he := shEv ⟨3, u, s, ad, a, b, c, t⟩ ⟨3, u, 0, 0, a, 0, 0, 0⟩
              simp only [Ev.row] at he
              simp -implicitDefEqProofs [he]
              exact Ans.of (by simp [evMay, evPlain, evOf, evParts, ev0, c1, c2, c3, c4, h0, h1])
            · simp -implicitDefEqProofs [c1, c2, c3, c4]; exact Ans.of (by simp [evMay, c4])
          · simp -implicitDefEqProofs [c1, c2, c3]; exact Ans.of (by simp [evMay, c3])
        · simp -implicitDefEqProofs [c1, c2]; exact Ans.of (by simp [evMay, c2])
      · simp -implicitDefEqProofs [c1]; exact Ans.of (by simp [evMay, c1])
theorem event_May_4 (hR : R.Ok) (u s ad a b c t : Int) {h : AHeap A} {K : AVal → AHeap A → Prop} (hk : K (.bool (evMay ⟨4, u, s, ad, a, b, c, t⟩)) h) : Tri Pr R n_event_May [.agg (Ev.row ⟨4, u, s, ad, a, b, c, t⟩)] h K := by
  refine Tri.fn1 hR _ rfl rfl ?_ hk
  apply c_event_May
  unfold p_event_May
  simp -implicitDefEqProofs [Ev.row]
  apply c_event_parts
  unfold p_event_parts
  simp -implicitDefEqProofs [appP, appV, srcOf, cellsAt]
  repeat (first | refine joinP_go ?_ | simp -implicitDefEqProofs [appP, appV, srcOf, cellsAt])
  refine loopP_unr 5 ?_
  rw [unr]
  simp -implicitDefEqProofs
  refine field_NumMay_ok _ ?_
  cases h0 : nMay u with
  | false => simp -implicitDefEqProofs; exact Ans.of (by simp [evMay, evParts, h0])
  | true =>
    simp -implicitDefEqProofs
    refine Gives.done (by simp) ?_
    rw [unr]
    simp -implicitDefEqProofs
    refine joinP_go ?_
    by_cases c1 : u < 8
    · by_cases c2 : ad < 16
      · by_cases c3 : t ≤ 1048575
        · by_cases c4 : c ≤ 1048576
          · simp -implicitDefEqProofs [c1, c2, c3, c4]
            apply c_event_plain
            unfold p_event_plain
            simp -implicitDefEqProofs
            apply c_event_parts
            unfold p_event_parts
            simp -implicitDefEqProofs [appP, appV, srcOf, cellsAt]
            repeat (first | refine joinP_go ?_ | simp -implicitDefEqProofs [appP, appV, srcOf, cellsAt])
            apply c_event_parts
            unfold p_event_parts
            simp -implicitDefEqProofs [appP, appV, srcOf, cellsAt]
            repeat (first | refine joinP_go ?_ | simp -implicitDefEqProofs [appP, appV, srcOf, cellsAt])
            refine loopP_unr 5 ?_
            rw [unr]
            simp -implicitDefEqProofs
            refine Gives.done (by simp) ?_
            rw [unr]
            simp -implicitDefEqProofs
            have he := shEv ⟨4, u, s, ad, a, b, c, t⟩ ⟨4, u, 0, 0, 0, 0, 0, 0⟩
            simp only [Ev.row] at he
            simp -implicitDefEqProofs [he]
            exact Ans.of (by simp [evMay, evPlain, evOf, evParts, ev0, c1, c2, c3, c4, h0])
          · simp -implicitDefEqProofs [c1, c2, c3, c4]; exact Ans.of (by simp [evMay, c4])
        · simp -implicitDefEqProofs [c1, c2, c3]; exact Ans.of (by simp [evMay, c3])
      · simp -implicitDefEqProofs [c1, c2]; exact Ans.of (by simp [evMay, c2])
    · simp -implicitDefEqProofs [c1]; exact Ans.of (by simp [evMay, c1])
theorem event_May_5 (hR : R.Ok) (u s ad a b c t : Int) {h : AHeap A} {K : AVal → AHeap A → Prop} (hk : K (.bool (evMay ⟨5, u, s, ad, a, b, c, t⟩)) h) : Tri Pr R n_event_May [.agg (Ev.row ⟨5, u, s, ad, a, b, c, t⟩)] h K := by
  refine Tri.fn1 hR _ rfl rfl ?_ hk
  apply c_event_May
  unfold p_event_May
  simp -implicitDefEqProofs [Ev.row]
  apply c_event_parts
  unfold p_event_parts
  simp -implicitDefEqProofs [appP, appV, srcOf, cellsAt]
  repeat (first | refine joinP_go ?_ | simp -implicitDefEqProofs [appP, appV, srcOf, cellsAt])
  refine loopP_unr 5 ?_
  rw [unr]
  simp -implicitDefEqProofs
  refine field_NumMay_ok _ ?_
  cases h0 : nMay s with
  | false => simp -implicitDefEqProofs; exact Ans.of (by simp [evMay, evParts, h0])
  | true =>
    simp -implicitDefEqProofs
    refine Gives.done (by simp) ?_
    rw [unr]
    simp -implicitDefEqProofs
    refine field_NumMay_ok _ ?_
    cases h1 : nMay u with
    | false => simp -implicitDefEqProofs; exact Ans.of (by simp [evMay, evParts, h0, h1])
    | true =>
      simp -implicitDefEqProofs
      refine Gives.done (by simp) ?_
      rw [unr]
      simp -implicitDefEqProofs
      refine field_NumMay_ok _ ?_
      cases h2 : nMay ad with
      | false => simp -implicitDefEqProofs; exact Ans.of (by simp [evMay, evParts, h0, h1, h2])
      | true =>
        simp -implicitDefEqProofs
        refine Gives.done (by simp) ?_
        rw [unr]
        simp -implicitDefEqProofs
        refine field_NumMay_ok _ ?_
        cases h3 : nMay t with
        | false => simp -implicitDefEqProofs; exact Ans.of (by simp [evMay, evParts, h0, h1, h2, h3])
        | true =>
          simp -implicitDefEqProofs
          refine Gives.done (by simp) ?_
          rw [unr]
          simp -implicitDefEqProofs
          refine joinP_go ?_
          by_cases c1 : u < 8
          · by_cases c2 : ad < 16
            · by_cases c3 : t ≤ 1048575
              · by_cases c4 : c ≤ 1048576
                · simp -implicitDefEqProofs [c1, c2, c3, c4]
                  apply c_event_plain
                  unfold p_event_plain
                  simp -implicitDefEqProofs
                  apply c_event_parts
                  unfold p_event_parts
                  simp -implicitDefEqProofs [appP, appV, srcOf, cellsAt]
                  repeat (first | refine joinP_go ?_ | simp -implicitDefEqProofs [appP, appV, srcOf, cellsAt])
                  apply c_event_parts
                  unfold p_event_parts
                  simp -implicitDefEqProofs [appP, appV, srcOf, cellsAt]
                  repeat (first | refine joinP_go ?_ | simp -implicitDefEqProofs [appP, appV, srcOf, cellsAt])
                  refine loopP_unr 5 ?_
                  rw [unr]
                  simp -implicitDefEqProofs
                  refine Gives.done (by simp) ?_
                  rw [unr]
                  simp -implicitDefEqProofs
                  refine Gives.done (by simp) ?_
                  rw [unr]
                  simp -implicitDefEqProofs
                  refine Gives.done (by simp) ?_
                  rw [unr]
                  simp -implicitDefEqProofs
                  refine Gives.done (by simp) ?_
                  rw [unr]
                  simp -implicitDefEqProofs
                  have he := shEv ⟨5, u, s, ad, a, b, c, t⟩ ⟨5, u, s, ad, 0, 0, 0, t⟩
                  simp only [Ev.row] at he
                  simp -implicitDefEqProofs [he]
                  exact Ans.of (by simp [evMay, evPlain, evOf, evParts, ev0, c1, c2, c3, c4, h0, h1, h2, h3])
                · simp -implicitDefEqProofs [c1, c2, c3, c4]; exact Ans.of (by simp [evMay, c4])
              · simp -implicitDefEqProofs [c1, c2, c3]; exact Ans.of (by simp [evMay, c3])
            · simp -implicitDefEqProofs [c1, c2]; exact Ans.of (by simp [evMay, c2])
          · simp -implicitDefEqProofs [c1]; exact Ans.of (by simp [evMay, c1])
theorem event_May_6 (hR : R.Ok) (u s ad a b c t : Int) {h : AHeap A} {K : AVal → AHeap A → Prop} (hk : K (.bool (evMay ⟨6, u, s, ad, a, b, c, t⟩)) h) : Tri Pr R n_event_May [.agg (Ev.row ⟨6, u, s, ad, a, b, c, t⟩)] h K := by
  refine Tri.fn1 hR _ rfl rfl ?_ hk
  apply c_event_May
  unfold p_event_May
  by_cases c0 : 4 < b
  · simp -implicitDefEqProofs [Ev.row, c0]; exact Ans.of (by simp [evMay, c0])
  · simp -implicitDefEqProofs [Ev.row, c0]
    apply c_event_parts
    unfold p_event_parts
    simp -implicitDefEqProofs [appP, appV, srcOf, cellsAt]
    repeat (first | refine joinP_go ?_ | simp -implicitDefEqProofs [appP, appV, srcOf, cellsAt])
    refine loopP_unr 5 ?_
    rw [unr]
    simp -implicitDefEqProofs
    refine field_NumMay_ok _ ?_
    cases h0 : nMay s with
    | false => simp -implicitDefEqProofs; exact Ans.of (by simp [evMay, evParts, h0])
    | true =>
      simp -implicitDefEqProofs
      refine Gives.done (by simp) ?_
      rw [unr]
      simp -implicitDefEqProofs
      refine field_NumMay_ok _ ?_
      cases h1 : nMay a with
      | false => simp -implicitDefEqProofs; exact Ans.of (by simp [evMay, evParts, h0, h1])
      | true =>
        simp -implicitDefEqProofs
        refine Gives.done (by simp) ?_
        rw [unr]
        simp -implicitDefEqProofs
        refine field_NumMay_ok _ ?_
        cases h2 : nMay b with
        | false => simp -implicitDefEqProofs; exact Ans.of (by simp [evMay, evParts, h0, h1, h2])
        | true =>
          simp -implicitDefEqProofs
          refine Gives.done (by simp) ?_
          rw [unr]
          simp -implicitDefEqProofs
          refine field_NumMay_ok _ ?_
          cases h3 : nMay t with
          | false => simp -implicitDefEqProofs; exact Ans.of (by simp [evMay, evParts, h0, h1, h2, h3])
          | true =>
            simp -implicitDefEqProofs
            refine Gives.done (by simp) ?_
            rw [unr]
            simp -implicitDefEqProofs
            refine joinP_go ?_
            by_cases c1 : u < 8
            · by_cases c2 : ad < 16
              · by_cases c3 : t ≤ 1048575
                · by_cases c4 : c ≤ 1048576
                  · simp -implicitDefEqProofs [c1, c2, c3, c4]
                    apply c_event_plain
                    unfold p_event_plain
                    simp -implicitDefEqProofs
                    apply c_event_parts
                    unfold p_event_parts
                    simp -implicitDefEqProofs [appP, appV, srcOf, cellsAt]
                    repeat (first | refine joinP_go ?_ | simp -implicitDefEqProofs [appP, appV, srcOf, cellsAt])
                    apply c_event_parts
                    unfold p_event_parts
                    simp -implicitDefEqProofs [appP, appV, srcOf, cellsAt]
                    repeat (first | refine joinP_go ?_ | simp -implicitDefEqProofs [appP, appV, srcOf, cellsAt])
                    refine loopP_unr 5 ?_
                    rw [unr]
                    simp -implicitDefEqProofs
                    refine Gives.done (by simp) ?_
                    rw [unr]
                    simp -implicitDefEqProofs
                    refine Gives.done (by simp) ?_
                    rw [unr]
                    simp -implicitDefEqProofs
                    refine Gives.done (by simp) ?_
                    rw [unr]
                    simp -implicitDefEqProofs
                    refine Gives.done (by simp) ?_
                    rw [unr]
                    simp -implicitDefEqProofs
                    have he := shEv ⟨6, u, s, ad, a, b, c, t⟩ ⟨6, 0, s, 0, a, b, 0, t⟩
                    simp only [Ev.row] at he
                    simp -implicitDefEqProofs [he]
                    exact Ans.of (by simp [evMay, evPlain, evOf, evParts, ev0, c1, c2, c3, c4, h0, h1, h2, h3, c0])
                  · simp -implicitDefEqProofs [c1, c2, c3, c4]; exact Ans.of (by simp [evMay, c4])
                · simp -implicitDefEqProofs [c1, c2, c3]; exact Ans.of (by simp [evMay, c3])
              · simp -implicitDefEqProofs [c1, c2]; exact Ans.of (by simp [evMay, c2])
            · simp -implicitDefEqProofs [c1]; exact Ans.of (by simp [evMay, c1])
theorem event_May_7 (hR : R.Ok) (u s ad a b c t : Int) {h : AHeap A} {K : AVal → AHeap A → Prop} (hk : K (.bool (evMay ⟨7, u, s, ad, a, b, c, t⟩)) h) : Tri Pr R n_event_May [.agg (Ev.row ⟨7, u, s, ad, a, b, c, t⟩)] h K := by
  refine Tri.fn1 hR _ rfl rfl ?_ hk
  apply c_event_May
  unfold p_event_May
  simp -implicitDefEqProofs [Ev.row]
  apply c_event_parts
  unfold p_event_parts
  simp -implicitDefEqProofs [appP, appV, srcOf, cellsAt]
  repeat (first | refine joinP_go ?_ | simp -implicitDefEqProofs [appP, appV, srcOf, cellsAt])
  refine loopP_unr 5 ?_
  rw [unr]
  simp -implicitDefEqProofs
  refine field_NumMay_ok _ ?_
  cases h0 : nMay u with
  | false => simp -implicitDefEqProofs; exact Ans.of (by simp [evMay, evParts, h0])
  | true =>
    simp -implicitDefEqProofs
    refine Gives.done (by simp) ?_
    rw [unr]
    simp -implicitDefEqProofs
    refine joinP_go ?_
    by_cases c1 : u < 8
    · by_cases c2 : ad < 16
      · by_cases c3 : t ≤ 1048575
        · by_cases c4 : c ≤ 1048576
          · simp -implicitDefEqProofs [c1, c2, c3, c4]
            apply c_event_plain
            unfold p_event_plain
            simp -implicitDefEqProofs
            apply c_event_parts
            unfold p_event_parts
            simp -implicitDefEqProofs [appP, appV, srcOf, cellsAt]
            repeat (first | refine joinP_go ?_ | simp -implicitDefEqProofs [appP, appV, srcOf, cellsAt])
            apply c_event_parts
            unfold p_event_parts
            simp -implicitDefEqProofs [appP, appV, srcOf, cellsAt]
            repeat (first | refine joinP_go ?_ | simp -implicitDefEqProofs [appP, appV, srcOf, cellsAt])
            refine loopP_unr 5 ?_
            rw [unr]
            simp -implicitDefEqProofs
            refine Gives.done (by simp) ?_
            rw [unr]
            simp -implicitDefEqProofs
            have he := shEv ⟨7, u, s, ad, a, b, c, t⟩ ⟨7, u, 0, 0, 0, 0, 0, 0⟩
            simp only [Ev.row] at he
            simp -implicitDefEqProofs [he]
            exact Ans.of (by simp [evMay, evPlain, evOf, evParts, ev0, c1, c2, c3, c4, h0])
          · simp -implicitDefEqProofs [c1, c2, c3, c4]; exact Ans.of (by simp [evMay, c4])
        · simp -implicitDefEqProofs [c1, c2, c3]; exact Ans.of (by simp [evMay, c3])
      · simp -implicitDefEqProofs [c1, c2]; exact Ans.of (by simp [evMay, c2])
    · simp -implicitDefEqProofs [c1]; exact Ans.of (by simp [evMay, c1])
theorem event_May_8 (hR : R.Ok) (u s ad a b c t : Int) {h : AHeap A} {K : AVal → AHeap A → Prop} (hk : K (.bool (evMay ⟨8, u, s, ad, a, b, c, t⟩)) h) : Tri Pr R n_event_May [.agg (Ev.row ⟨8, u, s, ad, a, b, c, t⟩)] h K := by
  refine Tri.fn1 hR _ rfl rfl ?_ hk
  apply c_event_May
  unfold p_event_May
  simp -implicitDefEqProofs [Ev.row]
  apply c_event_parts
  unfold p_event_parts
  simp -implicitDefEqProofs [appP, appV, srcOf, cellsAt]
  repeat (first | refine joinP_go ?_ | simp -implicitDefEqProofs [appP, appV, srcOf, cellsAt])
  refine loopP_unr 5 ?_
  rw [unr]
  simp -implicitDefEqProofs
  refine joinP_go ?_
  by_cases c1 : u < 8
  · by_cases c2 : ad < 16
    · by_cases c3 : t ≤ 1048575
      · by_cases c4 : c ≤ 1048576
        · simp -implicitDefEqProofs [c1, c2, c3, c4]
          apply c_event_plain
          unfold p_event_plain
          simp -implicitDefEqProofs
          apply c_event_parts
          unfold p_event_parts
          simp -implicitDefEqProofs [appP, appV, srcOf, cellsAt]
          repeat (first | refine joinP_go ?_ | simp -implicitDefEqProofs [appP, appV, srcOf, cellsAt])
          apply c_event_parts
          unfold p_event_parts
          simp -implicitDefEqProofs [appP, appV, srcOf, cellsAt]
          repeat (first | refine joinP_go ?_ | simp -implicitDefEqProofs [appP, appV, srcOf, cellsAt])
          refine loopP_unr 5 ?_
          rw [unr]
          simp -implicitDefEqProofs
          have he := shEv ⟨8, u, s, ad, a, b, c, t⟩ ⟨8, 0, 0, 0, 0, 0, 0, 0⟩
          simp only [Ev.row] at he
          simp -implicitDefEqProofs [he]
          exact Ans.of (by simp [evMay, evPlain, evOf, evParts, ev0, c1, c2, c3, c4])
        · simp -implicitDefEqProofs [c1, c2, c3, c4]; exact Ans.of (by simp [evMay, c4])
      · simp -implicitDefEqProofs [c1, c2, c3]; exact Ans.of (by simp [evMay, c3])
    · simp -implicitDefEqProofs [c1, c2]; exact Ans.of (by simp [evMay, c2])
  · simp -implicitDefEqProofs [c1]; exact Ans.of (by simp [evMay, c1])
theorem event_May_9 (hR : R.Ok) (u s ad a b c t : Int) {h : AHeap A} {K : AVal → AHeap A → Prop} (hk : K (.bool (evMay ⟨9, u, s, ad, a, b, c, t⟩)) h) : Tri Pr R n_event_May [.agg (Ev.row ⟨9, u, s, ad, a, b, c, t⟩)] h K := by
  refine Tri.fn1 hR _ rfl rfl ?_ hk
  apply c_event_May
  unfold p_event_May
  simp -implicitDefEqProofs [Ev.row]
  apply c_event_parts
  unfold p_event_parts
  simp -implicitDefEqProofs [appP, appV, srcOf, cellsAt]
  repeat (first | refine joinP_go ?_ | simp -implicitDefEqProofs [appP, appV, srcOf, cellsAt])
  refine loopP_unr 5 ?_
  rw [unr]
  simp -implicitDefEqProofs
  refine field_NumMay_ok _ ?_
  cases h0 : nMay s with
  | false => simp -implicitDefEqProofs; exact Ans.of (by simp [evMay, evParts, h0])
  | true =>
    simp -implicitDefEqProofs
    refine Gives.done (by simp) ?_
    rw [unr]
    simp -implicitDefEqProofs
    refine joinP_go ?_
    by_cases c1 : u < 8
    · by_cases c2 : ad < 16
      · by_cases c3 : t ≤ 1048575
        · by_cases c4 : c ≤ 1048576
          · simp -implicitDefEqProofs [c1, c2, c3, c4]
            apply c_event_plain
            unfold p_event_plain
            simp -implicitDefEqProofs
            apply c_event_parts
            unfold p_event_parts
            simp -implicitDefEqProofs [appP, appV, srcOf, cellsAt]
            repeat (first | refine joinP_go ?_ | simp -implicitDefEqProofs [appP, appV, srcOf, cellsAt])
            apply c_event_parts
            unfold p_event_parts
            simp -implicitDefEqProofs [appP, appV, srcOf, cellsAt]
            repeat (first | refine joinP_go ?_ | simp -implicitDefEqProofs [appP, appV, srcOf, cellsAt])
            refine loopP_unr 5 ?_
            rw [unr]
            simp -implicitDefEqProofs
            refine Gives.done (by simp) ?_
            rw [unr]
            simp -implicitDefEqProofs
            have he := shEv ⟨9, u, s, ad, a, b, c, t⟩ ⟨9, 0, s, 0, 0, 0, 0, 0⟩
            simp only [Ev.row] at he
            simp -implicitDefEqProofs [he]
            exact Ans.of (by simp [evMay, evPlain, evOf, evParts, ev0, c1, c2, c3, c4, h0])
          · simp -implicitDefEqProofs [c1, c2, c3, c4]; exact Ans.of (by simp [evMay, c4])
        · simp -implicitDefEqProofs [c1, c2, c3]; exact Ans.of (by simp [evMay, c3])
      · simp -implicitDefEqProofs [c1, c2]; exact Ans.of (by simp [evMay, c2])
    · simp -implicitDefEqProofs [c1]; exact Ans.of (by simp [evMay, c1])
theorem event_May_ok (hR : R.Ok) (e : Ev) {h : AHeap A} {K : AVal → AHeap A → Prop} (hk : K (.bool (evMay e)) h) : Tri Pr R n_event_May [.agg e.row] h K := by
  obtain ⟨k, u, s, ad, a, b, c, t⟩ := e
  by_cases h0 : k < 0
  · refine Tri.fn1 hR _ rfl rfl ?_ hk
    apply c_event_May
    unfold p_event_May
    simp -implicitDefEqProofs [Ev.row, h0]; exact Ans.of (by simp [evMay]; omega)
  by_cases h1 : 9 < k
  · refine Tri.fn1 hR _ rfl rfl ?_ hk
    apply c_event_May
    unfold p_event_May
    simp -implicitDefEqProofs [Ev.row, h0, h1]; exact Ans.of (by simp [evMay]; omega)
  have hc : k = 0 ∨ k = 1 ∨ k = 2 ∨ k = 3 ∨ k = 4 ∨ k = 5 ∨ k = 6 ∨ k = 7 ∨ k = 8 ∨ k = 9 := by omega
  rcases hc with rfl | rfl | rfl | rfl | rfl | rfl | rfl | rfl | rfl | rfl
  · exact event_May_0 hR u s ad a b c t hk
  · exact event_May_1 hR u s ad a b c t hk
  · exact event_May_2 hR u s ad a b c t hk
  · exact event_May_3 hR u s ad a b c t hk
  · exact event_May_4 hR u s ad a b c t hk
  · exact event_May_5 hR u s ad a b c t hk
  · exact event_May_6 hR u s ad a b c t hk
  · exact event_May_7 hR u s ad a b c t hk
  · exact event_May_8 hR u s ad a b c t hk
  · exact event_May_9 hR u s ad a b c t hk
end Go.AI

/- Events are written, are read (printed by gen/event_gen2.py). -/
set_option linter.all false
namespace Go.AI
variable {A : Type} {R : Adts A}
theorem event_Put_0 (hR : R.Ok) (u s ad a b c t : Int) (hm : evMay ⟨0, u, s, ad, a, b, c, t⟩ = true) {h : AHeap A} {K : AVal → AHeap A → Prop} (hk : K (.tup [.str (evPut ⟨0, u, s, ad, a, b, c, t⟩), .int .i64 0]) h) : Tri Pr R n_event_Put [.agg (Ev.row ⟨0, u, s, ad, a, b, c, t⟩)] h K := by
  refine Tri.fn1 hR _ rfl rfl ?_ hk
  apply c_event_Put
  unfold p_event_Put
  simp -implicitDefEqProofs [Ev.row]
  refine event_May_ok hR ⟨0, u, s, ad, a, b, c, t⟩ ?_
  rw [hm]
  have l0 := nS_len 0
  have l1 := nS_len t
  have g1 : (nS 0).length + (nS t).length < 9223372036854775808 := by omega
  simp -implicitDefEqProofs
  refine field_Num_any hR _ ?_
  simp -implicitDefEqProofs
  apply c_event_parts
  unfold p_event_parts
  simp -implicitDefEqProofs [appP, appV, srcOf, cellsAt]
  repeat (first | refine joinP_go ?_ | simp -implicitDefEqProofs [appP, appV, srcOf, cellsAt])
  refine loopP_unr 5 ?_
  rw [unr]
  simp -implicitDefEqProofs
  refine field_Num_any hR _ ?_
  simp -implicitDefEqProofs [g1]
  refine Gives.done (by simp) ?_
  rw [unr]
  simp -implicitDefEqProofs
  exact Ans.of (by simp [evPut, nAll, evParts])
theorem event_Put_1 (hR : R.Ok) (u s ad a b c t : Int) (hm : evMay ⟨1, u, s, ad, a, b, c, t⟩ = true) {h : AHeap A} {K : AVal → AHeap A → Prop} (hk : K (.tup [.str (evPut ⟨1, u, s, ad, a, b, c, t⟩), .int .i64 0]) h) : Tri Pr R n_event_Put [.agg (Ev.row ⟨1, u, s, ad, a, b, c, t⟩)] h K := by
  refine Tri.fn1 hR _ rfl rfl ?_ hk
  apply c_event_Put
  unfold p_event_Put
  simp -implicitDefEqProofs [Ev.row]
  refine event_May_ok hR ⟨1, u, s, ad, a, b, c, t⟩ ?_
  rw [hm]
  have l0 := nS_len 1
  have l1 := nS_len u
  have l2 := nS_len a
  have l3 := nS_len b
  have l4 := nS_len c
  have g1 : (nS 1).length + (nS u).length < 9223372036854775808 := by omega
  have g2 : (nS 1).length + (nS u).length + (nS a).length < 9223372036854775808 := by omega
  have g3 : (nS 1).length + ((nS u).length + (nS a).length) + (nS b).length < 9223372036854775808 := by omega
  have g4 : (nS 1).length + ((nS u).length + ((nS a).length + (nS b).length)) + (nS c).length < 9223372036854775808 := by omega
  simp -implicitDefEqProofs
  refine field_Num_any hR _ ?_
  simp -implicitDefEqProofs
  apply c_event_parts
  unfold p_event_parts
  simp -implicitDefEqProofs [appP, appV, srcOf, cellsAt]
  repeat (first | refine joinP_go ?_ | simp -implicitDefEqProofs [appP, appV, srcOf, cellsAt])
  refine loopP_unr 5 ?_
  rw [unr]
  simp -implicitDefEqProofs
  refine field_Num_any hR _ ?_
  simp -implicitDefEqProofs [g1]
  refine Gives.done (by simp) ?_
  rw [unr]
  simp -implicitDefEqProofs
  refine field_Num_any hR _ ?_
  simp -implicitDefEqProofs [g2]
  refine Gives.done (by simp) ?_
  rw [unr]
  simp -implicitDefEqProofs
  refine field_Num_any hR _ ?_
  simp -implicitDefEqProofs [g3]
  refine Gives.done (by simp) ?_
  rw [unr]
  simp -implicitDefEqProofs
  refine field_Num_any hR _ ?_
  simp -implicitDefEqProofs [g4]
  refine Gives.done (by simp) ?_
  rw [unr]
  simp -implicitDefEqProofs
  exact Ans.of (by simp [evPut, nAll, evParts])
theorem event_Put_2 (hR : R.Ok) (u s ad a b c t : Int) (hm : evMay ⟨2, u, s, ad, a, b, c, t⟩ = true) {h : AHeap A} {K : AVal → AHeap A → Prop} (hk : K (.tup [.str (evPut ⟨2, u, s, ad, a, b, c, t⟩), .int .i64 0]) h) : Tri Pr R n_event_Put [.agg (Ev.row ⟨2, u, s, ad, a, b, c, t⟩)] h K := by
  refine Tri.fn1 hR _ rfl rfl ?_ hk
  apply c_event_Put
  unfold p_event_Put
  simp -implicitDefEqProofs [Ev.row]
  refine event_May_ok hR ⟨2, u, s, ad, a, b, c, t⟩ ?_
  rw [hm]
  have l0 := nS_len 2
  have l1 := nS_len u
  have l2 := nS_len t
  have g1 : (nS 2).length + (nS u).length < 9223372036854775808 := by omega
  have g2 : (nS 2).length + (nS u).length + (nS t).length < 9223372036854775808 := by omega
  simp -implicitDefEqProofs
  refine field_Num_any hR _ ?_
  simp -implicitDefEqProofs
  apply c_event_parts
  unfold p_event_parts
  simp -implicitDefEqProofs [appP, appV, srcOf, cellsAt]
  repeat (first | refine joinP_go ?_ | simp -implicitDefEqProofs [appP, appV, srcOf, cellsAt])
  refine loopP_unr 5 ?_
  rw [unr]
  simp -implicitDefEqProofs
  refine field_Num_any hR _ ?_
  simp -implicitDefEqProofs [g1]
  refine Gives.done (by simp) ?_
  rw [unr]
  simp -implicitDefEqProofs
  refine field_Num_any hR _ ?_
  simp -implicitDefEqProofs [g2]
  refine Gives.done (by simp) ?_
  rw [unr]
  simp -implicitDefEqProofs
  exact Ans.of (by simp [evPut, nAll, evParts])
theorem event_Put_3 (hR : R.Ok) (u s ad a b c t : Int) (hm : evMay ⟨3, u, s, ad, a, b, c, t⟩ = true) {h : AHeap A} {K : AVal → AHeap A → Prop} (hk : K (.tup [.str (evPut ⟨3, u, s, ad, a, b, c, t⟩), .int .i64 0]) h) : Tri Pr R n_event_Put [.agg (Ev.row ⟨3, u, s, ad, a, b, c, t⟩)] h K := by
  refine Tri.fn1 hR _ rfl rfl ?_ hk
  apply c_event_Put
  unfold p_event_Put
  simp -implicitDefEqProofs [Ev.row]
  refine event_May_ok hR ⟨3, u, s, ad, a, b, c, t⟩ ?_
  rw [hm]
  have l0 := nS_len 3
  have l1 := nS_len u
  have l2 := nS_len a
  have g1 : (nS 3).length + (nS u).length < 9223372036854775808 := by omega
  have g2 : (nS 3).length + (nS u).length + (nS a).length < 9223372036854775808 := by omega
  simp -implicitDefEqProofs
  refine field_Num_any hR _ ?_
  simp -implicitDefEqProofs
  apply c_event_parts
  unfold p_event_parts
  simp -implicitDefEqProofs [appP, appV, srcOf, cellsAt]
  repeat (first | refine joinP_go ?_ | simp -implicitDefEqProofs [appP, appV, srcOf, cellsAt])
  refine loopP_unr 5 ?_
  rw [unr]
  simp -implicitDefEqProofs
  refine field_Num_any hR _ ?_
  simp -implicitDefEqProofs [g1]
  refine Gives.done (by simp) ?_
  rw [unr]
  simp -implicitDefEqProofs
  refine field_Num_any hR _ ?_
  simp -implicitDefEqProofs [g2]
  refine Gives.done (by simp) ?_
  rw [unr]
  simp -implicitDefEqProofs
  exact Ans.of (by simp [evPut, nAll, evParts])
theorem event_Put_4 (hR : R.Ok) (u s ad a b c t : Int) (hm : evMay ⟨4, u, s, ad, a, b, c, t⟩ = true) {h : AHeap A} {K : AVal → AHeap A → Prop} (hk : K (.tup [.str (evPut ⟨4, u, s, ad, a, b, c, t⟩), .int .i64 0]) h) : Tri Pr R n_event_Put [.agg (Ev.row ⟨4, u, s, ad, a, b, c, t⟩)] h K := by
  refine Tri.fn1 hR _ rfl rfl ?_ hk
  apply c_event_Put
  unfold p_event_Put
  simp -implicitDefEqProofs [Ev.row]
  refine event_May_ok hR ⟨4, u, s, ad, a, b, c, t⟩ ?_
  rw [hm]
  have l0 := nS_len 4
  have l1 := nS_len u
  have g1 : (nS 4).length + (nS u).length < 9223372036854775808 := by omega
  simp -implicitDefEqProofs
  refine field_Num_any hR _ ?_
  simp -implicitDefEqProofs
  apply c_event_parts
  unfold p_event_parts
  simp -implicitDefEqProofs [appP, appV, srcOf, cellsAt]
  repeat (first | refine joinP_go ?_ | simp -implicitDefEqProofs [appP, appV, srcOf, cellsAt])
  refine loopP_unr 5 ?_
  rw [unr]
  simp -implicitDefEqProofs
  refine field_Num_any hR _ ?_
  simp -implicitDefEqProofs [g1]
  refine Gives.done (by simp) ?_
  rw [unr]
  simp -implicitDefEqProofs
  exact Ans.of (by simp [evPut, nAll, evParts])
theorem event_Put_5 (hR : R.Ok) (u s ad a b c t : Int) (hm : evMay ⟨5, u, s, ad, a, b, c, t⟩ = true) {h : AHeap A} {K : AVal → AHeap A → Prop} (hk : K (.tup [.str (evPut ⟨5, u, s, ad, a, b, c, t⟩), .int .i64 0]) h) : Tri Pr R n_event_Put [.agg (Ev.row ⟨5, u, s, ad, a, b, c, t⟩)] h K := by
  refine Tri.fn1 hR _ rfl rfl ?_ hk
  apply c_event_Put
  unfold p_event_Put
  simp -implicitDefEqProofs [Ev.row]
  refine event_May_ok hR ⟨5, u, s, ad, a, b, c, t⟩ ?_
  rw [hm]
  have l0 := nS_len 5
  have l1 := nS_len s
  have l2 := nS_len u
  have l3 := nS_len ad
  have l4 := nS_len t
  have g1 : (nS 5).length + (nS s).length < 9223372036854775808 := by omega
  have g2 : (nS 5).length + (nS s).length + (nS u).length < 9223372036854775808 := by omega
  have g3 : (nS 5).length + ((nS s).length + (nS u).length) + (nS ad).length < 9223372036854775808 := by omega
  have g4 : (nS 5).length + ((nS s).length + ((nS u).length + (nS ad).length)) + (nS t).length < 9223372036854775808 := by omega
  simp -implicitDefEqProofs
  refine field_Num_any hR _ ?_
  simp -implicitDefEqProofs
  apply c_event_parts
  unfold p_event_parts
  simp -implicitDefEqProofs [appP, appV, srcOf, cellsAt]
  repeat (first | refine joinP_go ?_ | simp -implicitDefEqProofs [appP, appV, srcOf, cellsAt])
  refine loopP_unr 5 ?_
  rw [unr]
  simp -implicitDefEqProofs
  refine field_Num_any hR _ ?_
  simp -implicitDefEqProofs [g1]
  refine Gives.done (by simp) ?_
  rw [unr]
  simp -implicitDefEqProofs
  refine field_Num_any hR _ ?_
  simp -implicitDefEqProofs [g2]
  refine Gives.done (by simp) ?_
  rw [unr]
  simp -implicitDefEqProofs
  refine field_Num_any hR _ ?_
  simp -implicitDefEqProofs [g3]
  refine Gives.done (by simp) ?_
  rw [unr]
  simp -implicitDefEqProofs
  refine field_Num_any hR _ ?_
  simp -implicitDefEqProofs [g4]
  refine Gives.done (by simp) ?_
  rw [unr]
  simp -implicitDefEqProofs
  exact Ans.of (by simp [evPut, nAll, evParts])
theorem event_Put_6 (hR : R.Ok) (u s ad a b c t : Int) (hm : evMay ⟨6, u, s, ad, a, b, c, t⟩ = true) {h : AHeap A} {K : AVal → AHeap A → Prop} (hk : K (.tup [.str (evPut ⟨6, u, s, ad, a, b, c, t⟩), .int .i64 0]) h) : Tri Pr R n_event_Put [.agg (Ev.row ⟨6, u, s, ad, a, b, c, t⟩)] h K := by
  refine Tri.fn1 hR _ rfl rfl ?_ hk
  apply c_event_Put
  unfold p_event_Put
  simp -implicitDefEqProofs [Ev.row]
  refine event_May_ok hR ⟨6, u, s, ad, a, b, c, t⟩ ?_
  rw [hm]
  have l0 := nS_len 6
  have l1 := nS_len s
  have l2 := nS_len a
  have l3 := nS_len b
  have l4 := nS_len t
  have g1 : (nS 6).length + (nS s).length < 9223372036854775808 := by omega
  have g2 : (nS 6).length + (nS s).length + (nS a).length < 9223372036854775808 := by omega
  have g3 : (nS 6).length + ((nS s).length + (nS a).length) + (nS b).length < 9223372036854775808 := by omega
  have g4 : (nS 6).length + ((nS s).length + ((nS a).length + (nS b).length)) + (nS t).length < 9223372036854775808 := by omega
  simp -implicitDefEqProofs
  refine field_Num_any hR _ ?_
  simp -implicitDefEqProofs
  apply c_event_parts
  unfold p_event_parts
  simp -implicitDefEqProofs [appP, appV, srcOf, cellsAt]
  repeat (first | refine joinP_go ?_ | simp -implicitDefEqProofs [appP, appV, srcOf, cellsAt])
  refine loopP_unr 5 ?_
  rw [unr]
  simp -implicitDefEqProofs
  refine field_Num_any hR _ ?_
  simp -implicitDefEqProofs [g1]
  refine Gives.done (by simp) ?_
  rw [unr]
  simp -implicitDefEqProofs
  refine field_Num_any hR _ ?_
  simp -implicitDefEqProofs [g2]
  refine Gives.done (by simp) ?_
  rw [unr]
  simp -implicitDefEqProofs
  refine field_Num_any hR _ ?_
  simp -implicitDefEqProofs [g3]
  refine Gives.done (by simp) ?_
  rw [unr]
  simp -implicitDefEqProofs
  refine field_Num_any hR _ ?_
  simp -implicitDefEqProofs [g4]
  refine Gives.done (by simp) ?_
  rw [unr]
  simp -implicitDefEqProofs
  exact Ans.of (by simp [evPut, nAll, evParts])
theorem event_Put_7 (hR : R.Ok) (u s ad a b c t : Int) (hm : evMay ⟨7, u, s, ad, a, b, c, t⟩ = true) {h : AHeap A} {K : AVal → AHeap A → Prop} (hk : K (.tup [.str (evPut ⟨7, u, s, ad, a, b, c, t⟩), .int .i64 0]) h) : Tri Pr R n_event_Put [.agg (Ev.row ⟨7, u, s, ad, a, b, c, t⟩)] h K := by
  refine Tri.fn1 hR _ rfl rfl ?_ hk
  apply c_event_Put
  unfold p_event_Put
  simp -implicitDefEqProofs [Ev.row]
  refine event_May_ok hR ⟨7, u, s, ad, a, b, c, t⟩ ?_
  rw [hm]
  have l0 := nS_len 7
  have l1 := nS_len u
  have g1 : (nS 7).length + (nS u).length < 9223372036854775808 := by omega
  simp -implicitDefEqProofs
  refine field_Num_any hR _ ?_
  simp -implicitDefEqProofs
  apply c_event_parts
  unfold p_event_parts
  simp -implicitDefEqProofs [appP, appV, srcOf, cellsAt]
  repeat (first | refine joinP_go ?_ | simp -implicitDefEqProofs [appP, appV, srcOf, cellsAt])
  refine loopP_unr 5 ?_
  rw [unr]
  simp -implicitDefEqProofs
  refine field_Num_any hR _ ?_
  simp -implicitDefEqProofs [g1]
  refine Gives.done (by simp) ?_
  rw [unr]
  simp -implicitDefEqProofs
  exact Ans.of (by simp [evPut, nAll, evParts])
theorem event_Put_8 (hR : R.Ok) (u s ad a b c t : Int) (hm : evMay ⟨8, u, s, ad, a, b, c, t⟩ = true) {h : AHeap A} {K : AVal → AHeap A → Prop} (hk : K (.tup [.str (evPut ⟨8, u, s, ad, a, b, c, t⟩), .int .i64 0]) h) : Tri Pr R n_event_Put [.agg (Ev.row ⟨8, u, s, ad, a, b, c, t⟩)] h K := by
  refine Tri.fn1 hR _ rfl rfl ?_ hk
  apply c_event_Put
  unfold p_event_Put
  simp -implicitDefEqProofs [Ev.row]
  refine event_May_ok hR ⟨8, u, s, ad, a, b, c, t⟩ ?_
  rw [hm]
  have l0 := nS_len 8
  simp -implicitDefEqProofs
  refine field_Num_any hR _ ?_
  simp -implicitDefEqProofs
  apply c_event_parts
  unfold p_event_parts
  simp -implicitDefEqProofs [appP, appV, srcOf, cellsAt]
  repeat (first | refine joinP_go ?_ | simp -implicitDefEqProofs [appP, appV, srcOf, cellsAt])
  refine loopP_unr 5 ?_
  rw [unr]
  simp -implicitDefEqProofs
  exact Ans.of (by simp [evPut, nAll, evParts])
theorem event_Put_9 (hR : R.Ok) (u s ad a b c t : Int) (hm : evMay ⟨9, u, s, ad, a, b, c, t⟩ = true) {h : AHeap A} {K : AVal → AHeap A → Prop} (hk : K (.tup [.str (evPut ⟨9, u, s, ad, a, b, c, t⟩), .int .i64 0]) h) : Tri Pr R n_event_Put [.agg (Ev.row ⟨9, u, s, ad, a, b, c, t⟩)] h K := by
  refine Tri.fn1 hR _ rfl rfl ?_ hk
  apply c_event_Put
  unfold p_event_Put
  simp -implicitDefEqProofs [Ev.row]
  refine event_May_ok hR ⟨9, u, s, ad, a, b, c, t⟩ ?_
  rw [hm]
  have l0 := nS_len 9
  have l1 := nS_len s
  have g1 : (nS 9).length + (nS s).length < 9223372036854775808 := by omega
  simp -implicitDefEqProofs
  refine field_Num_any hR _ ?_
  simp -implicitDefEqProofs
  apply c_event_parts
  unfold p_event_parts
  simp -implicitDefEqProofs [appP, appV, srcOf, cellsAt]
  repeat (first | refine joinP_go ?_ | simp -implicitDefEqProofs [appP, appV, srcOf, cellsAt])
  refine loopP_unr 5 ?_
  rw [unr]
  simp -implicitDefEqProofs
  refine field_Num_any hR _ ?_
  simp -implicitDefEqProofs [g1]
  refine Gives.done (by simp) ?_
  rw [unr]
  simp -implicitDefEqProofs
  exact Ans.of (by simp [evPut, nAll, evParts])
theorem event_Put_ok (hR : R.Ok) (e : Ev) {h : AHeap A} {K : AVal → AHeap A → Prop} (hk : if evMay e = true then K (.tup [.str (evPut e), .int .i64 0]) h else K (.tup [.str [], .int .i64 700]) h) : Tri Pr R n_event_Put [.agg e.row] h K := by
  cases hm : evMay e with
  | false =>
    rw [hm] at hk
    simp at hk
    refine Tri.fn1 hR _ rfl rfl ?_ hk
    obtain ⟨k, u, s, ad, a, b, c, t⟩ := e
    apply c_event_Put
    unfold p_event_Put
    simp -implicitDefEqProofs [Ev.row]
    refine event_May_ok hR ⟨k, u, s, ad, a, b, c, t⟩ ?_
    rw [hm]
    simp -implicitDefEqProofs
    exact Ans.rfl' _
  | true =>
    rw [if_pos hm] at hk
    have hc := evMay_kind hm
    obtain ⟨k, u, s, ad, a, b, c, t⟩ := e
    simp only at hc
    have hc2 : k = 0 ∨ k = 1 ∨ k = 2 ∨ k = 3 ∨ k = 4 ∨ k = 5 ∨ k = 6 ∨ k = 7 ∨ k = 8 ∨ k = 9 := by omega
    rcases hc2 with rfl | rfl | rfl | rfl | rfl | rfl | rfl | rfl | rfl | rfl
    · exact event_Put_0 hR u s ad a b c t hm hk
    · exact event_Put_1 hR u s ad a b c t hm hk
    · exact event_Put_2 hR u s ad a b c t hm hk
    · exact event_Put_3 hR u s ad a b c t hm hk
    · exact event_Put_4 hR u s ad a b c t hm hk
    · exact event_Put_5 hR u s ad a b c t hm hk
    · exact event_Put_6 hR u s ad a b c t hm hk
    · exact event_Put_7 hR u s ad a b c t hm hk
    · exact event_Put_8 hR u s ad a b c t hm hk
    · exact event_Put_9 hR u s ad a b c t hm hk
/-- What reading an event tells. -/
def evTup (o : Option Ev) : AVal := match o with | some e => .tup [.agg e.row, .int .i64 0] | none => .tup [.agg ev0.row, .int .i64 700]
theorem evTup_ix (o : Option Ev) : (evTup o).ix 0 = true := by cases o <;> rfl
theorem event_Get_0 (hR : R.Ok) (s : Bs0) (hs : s.length < 8000000000000000000) (t0 : Int) (hg : gNum s 0 = (0, t0, 0)) {h : AHeap A} {K : AVal → AHeap A → Prop} (hk : K (evTup (evGet s)) h) : Tri Pr R n_event_Get [.str s] h K := by
  refine Tri.fn1 hR _ (evTup_ix _) rfl ?_ hk
  have q := gNum_enc hg
  apply c_event_Get
  unfold p_event_Get
  simp -implicitDefEqProofs
  have hf : (.cells t_field_Reader [.str s, .int .i64 0, .nili] : AObj A) = fRead s 0 .nili := rfl
  rw [hf]
  refine fReader_ok hR s (by omega) 0 (by omega) ?_
  rw [hg]
  dsimp only
  rw [if_pos rfl]
  simp -implicitDefEqProofs
  apply c_event_parts
  unfold p_event_parts
  simp -implicitDefEqProofs [appP, appV, srcOf, cellsAt]
  repeat (first | refine joinP_go ?_ | simp -implicitDefEqProofs [appP, appV, srcOf, cellsAt])
  refine loopP_unr 5 ?_
  rw [unr]
  simp -implicitDefEqProofs
  refine fReader_ok hR s (by omega) t0 (by omega) ?_
  obtain ⟨x0, t1, e0, hg0⟩ : ∃ x t e, gNum s t0 = (x, t, e) := ⟨_, _, _, rfl⟩
  rw [hg0]
  dsimp only
  by_cases he0 : e0 = 0
  · subst he0
    have q0 := gNum_enc hg0
    rw [if_pos rfl]
    simp -implicitDefEqProofs
    refine Gives.done (by simp) ?_
    rw [unr]
    simp -implicitDefEqProofs
    apply c_field_Reader_Done
    unfold p_field_Reader_Done
    simp -implicitDefEqProofs
    refine joinP_go ?_
    by_cases hl : t1 = s.length
    · have hl' : (t1 == (s.length : Int)) = true := by simpa using hl
      simp -implicitDefEqProofs [hl']
      refine event_May_ok hR ⟨0, 0, 0, 0, 0, 0, 0, x0⟩ ?_
      have hev : evGet s = if evMay ⟨0, 0, 0, 0, 0, 0, 0, x0⟩ = true then some ⟨0, 0, 0, 0, 0, 0, 0, x0⟩ else none := by simp [evGet, rNums, evCount, evOf, ev0, hg, hg0, hl]
      cases hm : evMay ⟨0, 0, 0, 0, 0, 0, 0, x0⟩ with
      | true => rw [hm] at hev; simp at hev; simp -implicitDefEqProofs; rw [hev]; exact Ans.rfl' _
      | false => rw [hm] at hev; simp at hev; simp -implicitDefEqProofs; rw [hev]; exact Ans.rfl' _
    · have hl' : (t1 == (s.length : Int)) = false := by simpa using hl
      have hev : evGet s = none := by simp [evGet, rNums, evCount, hg, hg0, hl]
      rw [hev]
      simp -implicitDefEqProofs [hl']
      exact Ans.rfl' _
  · rw [if_neg he0]
    intro fa fe
    simp -implicitDefEqProofs
    refine Gives.done (by simp) ?_
    rw [unr]
    simp -implicitDefEqProofs
    apply c_field_Reader_Done
    unfold p_field_Reader_Done
    simp -implicitDefEqProofs
    refine joinP_go ?_
    simp -implicitDefEqProofs
    have hev : evGet s = none := by simp [evGet, rNums, evCount, hg, hg0, he0]
    rw [hev]
    exact Ans.rfl' _
theorem event_Get_1 (hR : R.Ok) (s : Bs0) (hs : s.length < 8000000000000000000) (t0 : Int) (hg : gNum s 0 = (1, t0, 0)) {h : AHeap A} {K : AVal → AHeap A → Prop} (hk : K (evTup (evGet s)) h) : Tri Pr R n_event_Get [.str s] h K := by
  refine Tri.fn1 hR _ (evTup_ix _) rfl ?_ hk
  have q := gNum_enc hg
  apply c_event_Get
  unfold p_event_Get
  simp -implicitDefEqProofs
  have hf : (.cells t_field_Reader [.str s, .int .i64 0, .nili] : AObj A) = fRead s 0 .nili := rfl
  rw [hf]
  refine fReader_ok hR s (by omega) 0 (by omega) ?_
  rw [hg]
  dsimp only
  rw [if_pos rfl]
  simp -implicitDefEqProofs
  apply c_event_parts
  unfold p_event_parts
  simp -implicitDefEqProofs [appP, appV, srcOf, cellsAt]
  repeat (first | refine joinP_go ?_ | simp -implicitDefEqProofs [appP, appV, srcOf, cellsAt])
  refine loopP_unr 5 ?_
  rw [unr]
  simp -implicitDefEqProofs
  refine fReader_ok hR s (by omega) t0 (by omega) ?_
  obtain ⟨x0, t1, e0, hg0⟩ : ∃ x t e, gNum s t0 = (x, t, e) := ⟨_, _, _, rfl⟩
  rw [hg0]
  dsimp only
  by_cases he0 : e0 = 0
  · subst he0
    have q0 := gNum_enc hg0
    rw [if_pos rfl]
    simp -implicitDefEqProofs
    refine Gives.done (by simp) ?_
    rw [unr]
    simp -implicitDefEqProofs
    refine fReader_ok hR s (by omega) t1 (by omega) ?_
    obtain ⟨x1, t2, e1, hg1⟩ : ∃ x t e, gNum s t1 = (x, t, e) := ⟨_, _, _, rfl⟩
    rw [hg1]
    dsimp only
    by_cases he1 : e1 = 0
    · subst he1
      have q1 := gNum_enc hg1
      rw [if_pos rfl]
      simp -implicitDefEqProofs
      refine Gives.done (by simp) ?_
      rw [unr]
      simp -implicitDefEqProofs
      refine fReader_ok hR s (by omega) t2 (by omega) ?_
      obtain ⟨x2, t3, e2, hg2⟩ : ∃ x t e, gNum s t2 = (x, t, e) := ⟨_, _, _, rfl⟩
      rw [hg2]
      dsimp only
      by_cases he2 : e2 = 0
      · subst he2
        have q2 := gNum_enc hg2
        rw [if_pos rfl]
        simp -implicitDefEqProofs
        refine Gives.done (by simp) ?_
        rw [unr]
        simp -implicitDefEqProofs
        refine fReader_ok hR s (by omega) t3 (by omega) ?_
        obtain ⟨x3, t4, e3, hg3⟩ : ∃ x t e, gNum s t3 = (x, t, e) := ⟨_, _, _, rfl⟩
        rw [hg3]
        dsimp only
        by_cases he3 : e3 = 0
        · subst he3
          have q3 := gNum_enc hg3
          rw [if_pos rfl]
          simp -implicitDefEqProofs
          refine Gives.done (by simp) ?_
          rw [unr]
          simp -implicitDefEqProofs
          apply c_field_Reader_Done
          unfold p_field_Reader_Done
          simp -implicitDefEqProofs
          refine joinP_go ?_
          by_cases hl : t4 = s.length
          · have hl' : (t4 == (s.length : Int)) = true := by simpa using hl
            simp -implicitDefEqProofs [hl']
            refine event_May_ok hR ⟨1, x0, 0, 0, x1, x2, x3, 0⟩ ?_
            have hev : evGet s = if evMay ⟨1, x0, 0, 0, x1, x2, x3, 0⟩ = true then some ⟨1, x0, 0, 0, x1, x2, x3, 0⟩ else none := by simp [evGet, rNums, evCount, evOf, ev0, hg, hg0, hg1, hg2, hg3, hl]
            cases hm : evMay ⟨1, x0, 0, 0, x1, x2, x3, 0⟩ with
            | true => rw [hm] at hev; simp at hev; simp -implicitDefEqProofs; rw [hev]; exact Ans.rfl' _
            | false => rw [hm] at hev; simp at hev; simp -implicitDefEqProofs; rw [hev]; exact Ans.rfl' _
          · have hl' : (t4 == (s.length : Int)) = false := by simpa using hl
            have hev : evGet s = none := by simp [evGet, rNums, evCount, hg, hg0, hg1, hg2, hg3, hl]
            rw [hev]
            simp -implicitDefEqProofs [hl']
            exact Ans.rfl' _
        · rw [if_neg he3]
          intro fa fe
          simp -implicitDefEqProofs
          refine Gives.done (by simp) ?_
          rw [unr]
          simp -implicitDefEqProofs
          apply c_field_Reader_Done
          unfold p_field_Reader_Done
          simp -implicitDefEqProofs
          refine joinP_go ?_
          simp -implicitDefEqProofs
          have hev : evGet s = none := by simp [evGet, rNums, evCount, hg, hg0, hg1, hg2, hg3, he3]
          rw [hev]
          exact Ans.rfl' _
      · rw [if_neg he2]
        intro fa fe
        simp -implicitDefEqProofs
        refine Gives.done (by simp) ?_
        rw [unr]
        simp -implicitDefEqProofs
        refine fReader_bad hR s 0 _ _ ?_
        simp -implicitDefEqProofs
        refine Gives.done (by simp) ?_
        rw [unr]
        simp -implicitDefEqProofs
        apply c_field_Reader_Done
        unfold p_field_Reader_Done
        simp -implicitDefEqProofs
        refine joinP_go ?_
        simp -implicitDefEqProofs
        have hev : evGet s = none := by simp [evGet, rNums, evCount, hg, hg0, hg1, hg2, he2]
        rw [hev]
        exact Ans.rfl' _
    · rw [if_neg he1]
      intro fa fe
      simp -implicitDefEqProofs
      refine Gives.done (by simp) ?_
      rw [unr]
      simp -implicitDefEqProofs
      refine fReader_bad hR s 0 _ _ ?_
      simp -implicitDefEqProofs
      refine Gives.done (by simp) ?_
      rw [unr]
      simp -implicitDefEqProofs
      refine fReader_bad hR s 0 _ _ ?_
      simp -implicitDefEqProofs
      refine Gives.done (by simp) ?_
      rw [unr]
      simp -implicitDefEqProofs
      apply c_field_Reader_Done
      unfold p_field_Reader_Done
      simp -implicitDefEqProofs
      refine joinP_go ?_
      simp -implicitDefEqProofs
      have hev : evGet s = none := by simp [evGet, rNums, evCount, hg, hg0, hg1, he1]
      rw [hev]
      exact Ans.rfl' _
  · rw [if_neg he0]
    intro fa fe
    simp -implicitDefEqProofs
    refine Gives.done (by simp) ?_
    rw [unr]
    simp -implicitDefEqProofs
    refine fReader_bad hR s 0 _ _ ?_
    simp -implicitDefEqProofs
    refine Gives.done (by simp) ?_
    rw [unr]
    simp -implicitDefEqProofs
    refine fReader_bad hR s 0 _ _ ?_
    simp -implicitDefEqProofs
    refine Gives.done (by simp) ?_
    rw [unr]
    simp -implicitDefEqProofs
    refine fReader_bad hR s 0 _ _ ?_
    simp -implicitDefEqProofs
    refine Gives.done (by simp) ?_
    rw [unr]
    simp -implicitDefEqProofs
    apply c_field_Reader_Done
    unfold p_field_Reader_Done
    simp -implicitDefEqProofs
    refine joinP_go ?_
    simp -implicitDefEqProofs
    have hev : evGet s = none := by simp [evGet, rNums, evCount, hg, hg0, he0]
    rw [hev]
    exact Ans.rfl' _
theorem event_Get_2 (hR : R.Ok) (s : Bs0) (hs : s.length < 8000000000000000000) (t0 : Int) (hg : gNum s 0 = (2, t0, 0)) {h : AHeap A} {K : AVal → AHeap A → Prop} (hk : K (evTup (evGet s)) h) : Tri Pr R n_event_Get [.str s] h K := by
  refine Tri.fn1 hR _ (evTup_ix _) rfl ?_ hk
  have q := gNum_enc hg
  apply c_event_Get
  unfold p_event_Get
  simp -implicitDefEqProofs
  have hf : (.cells t_field_Reader [.str s, .int .i64 0, .nili] : AObj A) = fRead s 0 .nili := rfl
  rw [hf]
  refine fReader_ok hR s (by omega) 0 (by omega) ?_
  rw [hg]
  dsimp only
  rw [if_pos rfl]
  simp -implicitDefEqProofs
  apply c_event_parts
  unfold p_event_parts
  simp -implicitDefEqProofs [appP, appV, srcOf, cellsAt]
  repeat (first | refine joinP_go ?_ | simp -implicitDefEqProofs [appP, appV, srcOf, cellsAt])
  refine loopP_unr 5 ?_
  rw [unr]
  simp -implicitDefEqProofs
  refine fReader_ok hR s (by omega) t0 (by omega) ?_
  obtain ⟨x0, t1, e0, hg0⟩ : ∃ x t e, gNum s t0 = (x, t, e) := ⟨_, _, _, rfl⟩
  rw [hg0]
  dsimp only
  by_cases he0 : e0 = 0
  · subst he0
    have q0 := gNum_enc hg0
    rw [if_pos rfl]
    simp -implicitDefEqProofs
    refine Gives.done (by simp) ?_
    rw [unr]
    simp -implicitDefEqProofs
    refine fReader_ok hR s (by omega) t1 (by omega) ?_
    obtain ⟨x1, t2, e1, hg1⟩ : ∃ x t e, gNum s t1 = (x, t, e) := ⟨_, _, _, rfl⟩
    rw [hg1]
    dsimp only
    by_cases he1 : e1 = 0
    · subst he1
      have q1 := gNum_enc hg1
      rw [if_pos rfl]
      simp -implicitDefEqProofs
      refine Gives.done (by simp) ?_
      rw [unr]
      simp -implicitDefEqProofs
      apply c_field_Reader_Done
      unfold p_field_Reader_Done
      simp -implicitDefEqProofs
      refine joinP_go ?_
      by_cases hl : t2 = s.length
      · have hl' : (t2 == (s.length : Int)) = true := by simpa using hl
        simp -implicitDefEqProofs [hl']
        refine event_May_ok hR ⟨2, x0, 0, 0, 0, 0, 0, x1⟩ ?_
        have hev : evGet s = if evMay ⟨2, x0, 0, 0, 0, 0, 0, x1⟩ = true then some ⟨2, x0, 0, 0, 0, 0, 0, x1⟩ else none := by simp [evGet, rNums, evCount, evOf, ev0, hg, hg0, hg1, hl]
        cases hm : evMay ⟨2, x0, 0, 0, 0, 0, 0, x1⟩ with
        | true => rw [hm] at hev; simp at hev; simp -implicitDefEqProofs; rw [hev]; exact Ans.rfl' _
        | false => rw [hm] at hev; simp at hev; simp -implicitDefEqProofs; rw [hev]; exact Ans.rfl' _
      · have hl' : (t2 == (s.length : Int)) = false := by simpa using hl
        have hev : evGet s = none := by simp [evGet, rNums, evCount, hg, hg0, hg1, hl]
        rw [hev]
        simp -implicitDefEqProofs [hl']
        exact Ans.rfl' _
    · rw [if_neg he1]
      intro fa fe
      simp -implicitDefEqProofs
      refine Gives.done (by simp) ?_
      rw [unr]
      simp -implicitDefEqProofs
      apply c_field_Reader_Done
      unfold p_field_Reader_Done
      simp -implicitDefEqProofs
      refine joinP_go ?_
      simp -implicitDefEqProofs
      have hev : evGet s = none := by simp [evGet, rNums, evCount, hg, hg0, hg1, he1]
      rw [hev]
      exact Ans.rfl' _
  · rw [if_neg he0]
    intro fa fe
    simp -implicitDefEqProofs
    refine Gives.done (by simp) ?_
    rw [unr]
    simp -implicitDefEqProofs
    refine fReader_bad hR s 0 _ _ ?_
    simp -implicitDefEqProofs
    refine Gives.done (by simp) ?_
    rw [unr]
    simp -implicitDefEqProofs
    apply c_field_Reader_Done
    unfold p_field_Reader_Done
    simp -implicitDefEqProofs
    refine joinP_go ?_
    simp -implicitDefEqProofs
    have hev : evGet s = none := by simp [evGet, rNums, evCount, hg, hg0, he0]
    rw [hev]
    exact Ans.rfl' _
theorem event_Get_3 (hR : R.Ok) (s : Bs0) (hs : s.length < 8000000000000000000) (t0 : Int) (hg : gNum s 0 = (3, t0, 0)) {h : AHeap A} {K : AVal → AHeap A → Prop} (hk : K (evTup (evGet s)) h) : Tri Pr R n_event_Get [.str s] h K := by
  refine Tri.fn1 hR _ (evTup_ix _) rfl ?_ hk
  have q := gNum_enc hg
  apply c_event_Get
  unfold p_event_Get
  simp -implicitDefEqProofs
  have hf : (.cells t_field_Reader [.str s, .int .i64 0, .nili] : AObj A) = fRead s 0 .nili := rfl
  rw [hf]
  refine fReader_ok hR s (by omega) 0 (by omega) ?_
  rw [hg]
  dsimp only
  rw [if_pos rfl]
  simp -implicitDefEqProofs
  apply c_event_parts
  unfold p_event_parts
  simp -implicitDefEqProofs [appP, appV, srcOf, cellsAt]
  repeat (first | refine joinP_go ?_ | simp -implicitDefEqProofs [appP, appV, srcOf, cellsAt])
  refine loopP_unr 5 ?_
  rw [unr]
  simp -implicitDefEqProofs
  refine fReader_ok hR s (by omega) t0 (by omega) ?_
  obtain ⟨x0, t1, e0, hg0⟩ : ∃ x t e, gNum s t0 = (x, t, e) := ⟨_, _, _, rfl⟩
  rw [hg0]
  dsimp only
  by_cases he0 : e0 = 0
  · subst he0
    have q0 := gNum_enc hg0
    rw [if_pos rfl]
    simp -implicitDefEqProofs
    refine Gives.done (by simp) ?_
    rw [unr]
    simp -implicitDefEqProofs
    refine fReader_ok hR s (by omega) t1 (by omega) ?_
    obtain ⟨x1, t2, e1, hg1⟩ : ∃ x t e, gNum s t1 = (x, t, e) := ⟨_, _, _, rfl⟩
    rw [hg1]
    dsimp only
    by_cases he1 : e1 = 0
    · subst he1
      have q1 := gNum_enc hg1
      rw [if_pos rfl]
      simp -implicitDefEqProofs
      refine Gives.done (by simp) ?_
      rw [unr]
      simp -implicitDefEqProofs
      apply c_field_Reader_Done
      unfold p_field_Reader_Done
      simp -implicitDefEqProofs
      refine joinP_go ?_
      by_cases hl : t2 = s.length
      · have hl' : (t2 == (s.length : Int)) = true := by simpa using hl
        simp -implicitDefEqProofs [hl']
        refine event_May_ok hR ⟨3, x0, 0, 0, x1, 0, 0, 0⟩ ?_
        have hev : evGet s = if evMay ⟨3, x0, 0, 0, x1, 0, 0, 0⟩ = true then some ⟨3, x0, 0, 0, x1, 0, 0, 0⟩ else none := by simp [evGet, rNums, evCount, evOf, ev0, hg, hg0, hg1, hl]
        cases hm : evMay ⟨3, x0, 0, 0, x1, 0, 0, 0⟩ with
        | true => rw [hm] at hev; simp at hev; simp -implicitDefEqProofs; rw [hev]; exact Ans.rfl' _
        | false => rw [hm] at hev; simp at hev; simp -implicitDefEqProofs; rw [hev]; exact Ans.rfl' _
      · have hl' : (t2 == (s.length : Int)) = false := by simpa using hl
        have hev : evGet s = none := by simp [evGet, rNums, evCount, hg, hg0, hg1, hl]
        rw [hev]
        simp -implicitDefEqProofs [hl']
        exact Ans.rfl' _
    · rw [if_neg he1]
      intro fa fe
      simp -implicitDefEqProofs
      refine Gives.done (by simp) ?_
      rw [unr]
      simp -implicitDefEqProofs
      apply c_field_Reader_Done
      unfold p_field_Reader_Done
      simp -implicitDefEqProofs
      refine joinP_go ?_
      simp -implicitDefEqProofs
      have hev : evGet s = none := by simp [evGet, rNums, evCount, hg, hg0, hg1, he1]
      rw [hev]
      exact Ans.rfl' _
  · rw [if_neg he0]
    intro fa fe
    simp -implicitDefEqProofs
    refine Gives.done (by simp) ?_
    rw [unr]
    simp -implicitDefEqProofs
    refine fReader_bad hR s 0 _ _ ?_
    simp -implicitDefEqProofs
    refine Gives.done (by simp) ?_
    rw [unr]
    simp -implicitDefEqProofs
    apply c_field_Reader_Done
    unfold p_field_Reader_Done
    simp -implicitDefEqProofs
    refine joinP_go ?_
    simp -implicitDefEqProofs
    have hev : evGet s = none := by simp [evGet, rNums, evCount, hg, hg0, he0]
    rw [hev]
    exact Ans.rfl' _
theorem event_Get_4 (hR : R.Ok) (s : Bs0) (hs : s.length < 8000000000000000000) (t0 : Int) (hg : gNum s 0 = (4, t0, 0)) {h : AHeap A} {K : AVal → AHeap A → Prop} (hk : K (evTup (evGet s)) h) : Tri Pr R n_event_Get [.str s] h K := by
  refine Tri.fn1 hR _ (evTup_ix _) rfl ?_ hk
  have q := gNum_enc hg
  apply c_event_Get
  unfold p_event_Get
  simp -implicitDefEqProofs
  have hf : (.cells t_field_Reader [.str s, .int .i64 0, .nili] : AObj A) = fRead s 0 .nili := rfl
  rw [hf]
  refine fReader_ok hR s (by omega) 0 (by omega) ?_
  rw [hg]
  dsimp only
  rw [if_pos rfl]
  simp -implicitDefEqProofs
  apply c_event_parts
  unfold p_event_parts
  simp -implicitDefEqProofs [appP, appV, srcOf, cellsAt]
  repeat (first | refine joinP_go ?_ | simp -implicitDefEqProofs [appP, appV, srcOf, cellsAt])
  refine loopP_unr 5 ?_
  rw [unr]
  simp -implicitDefEqProofs
  refine fReader_ok hR s (by omega) t0 (by omega) ?_
  obtain ⟨x0, t1, e0, hg0⟩ : ∃ x t e, gNum s t0 = (x, t, e) := ⟨_, _, _, rfl⟩
  rw [hg0]
  dsimp only
  by_cases he0 : e0 = 0
  · subst he0
    have q0 := gNum_enc hg0
    rw [if_pos rfl]
    simp -implicitDefEqProofs
    refine Gives.done (by simp) ?_
    rw [unr]
    simp -implicitDefEqProofs
    apply c_field_Reader_Done
    unfold p_field_Reader_Done
    simp -implicitDefEqProofs
    refine joinP_go ?_
    by_cases hl : t1 = s.length
    · have hl' : (t1 == (s.length : Int)) = true := by simpa using hl
      simp -implicitDefEqProofs [hl']
      refine event_May_ok hR ⟨4, x0, 0, 0, 0, 0, 0, 0⟩ ?_
      have hev : evGet s = if evMay ⟨4, x0, 0, 0, 0, 0, 0, 0⟩ = true then some ⟨4, x0, 0, 0, 0, 0, 0, 0⟩ else none := by simp [evGet, rNums, evCount, evOf, ev0, hg, hg0, hl]
      cases hm : evMay ⟨4, x0, 0, 0, 0, 0, 0, 0⟩ with
      | true => rw [hm] at hev; simp at hev; simp -implicitDefEqProofs; rw [hev]; exact Ans.rfl' _
      | false => rw [hm] at hev; simp at hev; simp -implicitDefEqProofs; rw [hev]; exact Ans.rfl' _
    · have hl' : (t1 == (s.length : Int)) = false := by simpa using hl
      have hev : evGet s = none := by simp [evGet, rNums, evCount, hg, hg0, hl]
      rw [hev]
      simp -implicitDefEqProofs [hl']
      exact Ans.rfl' _
  · rw [if_neg he0]
    intro fa fe
    simp -implicitDefEqProofs
    refine Gives.done (by simp) ?_
    rw [unr]
    simp -implicitDefEqProofs
    apply c_field_Reader_Done
    unfold p_field_Reader_Done
    simp -implicitDefEqProofs
    refine joinP_go ?_
    simp -implicitDefEqProofs
    have hev : evGet s = none := by simp [evGet, rNums, evCount, hg, hg0, he0]
    rw [hev]
    exact Ans.rfl' _
theorem event_Get_5 (hR : R.Ok) (s : Bs0) (hs : s.length < 8000000000000000000) (t0 : Int) (hg : gNum s 0 = (5, t0, 0)) {h : AHeap A} {K : AVal → AHeap A → Prop} (hk : K (evTup (evGet s)) h) : Tri Pr R n_event_Get [.str s] h K := by
  refine Tri.fn1 hR _ (evTup_ix _) rfl ?_ hk
  have q := gNum_enc hg
  apply c_event_Get
  unfold p_event_Get
  simp -implicitDefEqProofs
  have hf : (.cells t_field_Reader [.str s, .int .i64 0, .nili] : AObj A) = fRead s 0 .nili := rfl
  rw [hf]
  refine fReader_ok hR s (by omega) 0 (by omega) ?_
  rw [hg]
  dsimp only
  rw [if_pos rfl]
  simp -implicitDefEqProofs
  apply c_event_parts
  unfold p_event_parts
  simp -implicitDefEqProofs [appP, appV, srcOf, cellsAt]
  repeat (first | refine joinP_go ?_ | simp -implicitDefEqProofs [appP, appV, srcOf, cellsAt])
  refine loopP_unr 5 ?_
  rw [unr]
  simp -implicitDefEqProofs
  refine fReader_ok hR s (by omega) t0 (by omega) ?_
  obtain ⟨x0, t1, e0, hg0⟩ : ∃ x t e, gNum s t0 = (x, t, e) := ⟨_, _, _, rfl⟩
  rw [hg0]
  dsimp only
  by_cases he0 : e0 = 0
  · subst he0
    have q0 := gNum_enc hg0
    rw [if_pos rfl]
    simp -implicitDefEqProofs
    refine Gives.done (by simp) ?_
    rw [unr]
    simp -implicitDefEqProofs
    refine fReader_ok hR s (by omega) t1 (by omega) ?_
    obtain ⟨x1, t2, e1, hg1⟩ : ∃ x t e, gNum s t1 = (x, t, e) := ⟨_, _, _, rfl⟩
    rw [hg1]
    dsimp only
    by_cases he1 : e1 = 0
    · subst he1
      have q1 := gNum_enc hg1
      rw [if_pos rfl]
      simp -implicitDefEqProofs
      refine Gives.done (by simp) ?_
      rw [unr]
      simp -implicitDefEqProofs
      refine fReader_ok hR s (by omega) t2 (by omega) ?_
      obtain ⟨x2, t3, e2, hg2⟩ : ∃ x t e, gNum s t2 = (x, t, e) := ⟨_, _, _, rfl⟩
      rw [hg2]
      dsimp only
      by_cases he2 : e2 = 0
      · subst he2
        have q2 := gNum_enc hg2
        rw [if_pos rfl]
        simp -implicitDefEqProofs
        refine Gives.done (by simp) ?_
        rw [unr]
        simp -implicitDefEqProofs
        refine fReader_ok hR s (by omega) t3 (by omega) ?_
        obtain ⟨x3, t4, e3, hg3⟩ : ∃ x t e, gNum s t3 = (x, t, e) := ⟨_, _, _, rfl⟩
        rw [hg3]
        dsimp only
        by_cases he3 : e3 = 0
        · subst he3
          have q3 := gNum_enc hg3
          rw [if_pos rfl]
          simp -implicitDefEqProofs
          refine Gives.done (by simp) ?_
          rw [unr]
          simp -implicitDefEqProofs
          apply c_field_Reader_Done
          unfold p_field_Reader_Done
          simp -implicitDefEqProofs
          refine joinP_go ?_
          by_cases hl : t4 = s.length
          · have hl' : (t4 == (s.length : Int)) = true := by simpa using hl
            simp -implicitDefEqProofs [hl']
            refine event_May_ok hR ⟨5, x1, x0, x2, 0, 0, 0, x3⟩ ?_
            have hev : evGet s = if evMay ⟨5, x1, x0, x2, 0, 0, 0, x3⟩ = true then some ⟨5, x1, x0, x2, 0, 0, 0, x3⟩ else none := by simp [evGet, rNums, evCount, evOf, ev0, hg, hg0, hg1, hg2, hg3, hl]
            cases hm : evMay ⟨5, x1, x0, x2, 0, 0, 0, x3⟩ with
            | true => rw [hm] at hev; simp at hev; simp -implicitDefEqProofs; rw [hev]; exact Ans.rfl' _
            | false => rw [hm] at hev; simp at hev; simp -implicitDefEqProofs; rw [hev]; exact Ans.rfl' _
          · have hl' : (t4 == (s.length : Int)) = false := by simpa using hl
            have hev : evGet s = none := by simp [evGet, rNums, evCount, hg, hg0, hg1, hg2, hg3, hl]
            rw [hev]
            simp -implicitDefEqProofs [hl']
            exact Ans.rfl' _
        · rw [if_neg he3]
          intro fa fe
          simp -implicitDefEqProofs
          refine Gives.done (by simp) ?_
          rw [unr]
          simp -implicitDefEqProofs
          apply c_field_Reader_Done
          unfold p_field_Reader_Done
          simp -implicitDefEqProofs
          refine joinP_go ?_
          simp -implicitDefEqProofs
          have hev : evGet s = none := by simp [evGet, rNums, evCount, hg, hg0, hg1, hg2, hg3, he3]
          rw [hev]
          exact Ans.rfl' _
      · rw [if_neg he2]
        intro fa fe
        simp -implicitDefEqProofs
        refine Gives.done (by simp) ?_
        rw [unr]
        simp -implicitDefEqProofs
        refine fReader_bad hR s 0 _ _ ?_
        simp -implicitDefEqProofs
        refine Gives.done (by simp) ?_
        rw [unr]
        simp -implicitDefEqProofs
        apply c_field_Reader_Done
        unfold p_field_Reader_Done
        simp -implicitDefEqProofs
        refine joinP_go ?_
        simp -implicitDefEqProofs
        have hev : evGet s = none := by simp [evGet, rNums, evCount, hg, hg0, hg1, hg2, he2]
        rw [hev]
        exact Ans.rfl' _
    · rw [if_neg he1]
      intro fa fe
      simp -implicitDefEqProofs
      refine Gives.done (by simp) ?_
      rw [unr]
      simp -implicitDefEqProofs
      refine fReader_bad hR s 0 _ _ ?_
      simp -implicitDefEqProofs
      refine Gives.done (by simp) ?_
      rw [unr]
      simp -implicitDefEqProofs
      refine fReader_bad hR s 0 _ _ ?_
      simp -implicitDefEqProofs
      refine Gives.done (by simp) ?_
      rw [unr]
      simp -implicitDefEqProofs
      apply c_field_Reader_Done
      unfold p_field_Reader_Done
      simp -implicitDefEqProofs
      refine joinP_go ?_
      simp -implicitDefEqProofs
      have hev : evGet s = none := by simp [evGet, rNums, evCount, hg, hg0, hg1, he1]
      rw [hev]
      exact Ans.rfl' _
  · rw [if_neg he0]
    intro fa fe
    simp -implicitDefEqProofs
    refine Gives.done (by simp) ?_
    rw [unr]
    simp -implicitDefEqProofs
    refine fReader_bad hR s 0 _ _ ?_
    simp -implicitDefEqProofs
    refine Gives.done (by simp) ?_
    rw [unr]
    simp -implicitDefEqProofs
    refine fReader_bad hR s 0 _ _ ?_
    simp -implicitDefEqProofs
    refine Gives.done (by simp) ?_
    rw [unr]
    simp -implicitDefEqProofs
    refine fReader_bad hR s 0 _ _ ?_
    simp -implicitDefEqProofs
    refine Gives.done (by simp) ?_
    rw [unr]
    simp -implicitDefEqProofs
    apply c_field_Reader_Done
    unfold p_field_Reader_Done
    simp -implicitDefEqProofs
    refine joinP_go ?_
    simp -implicitDefEqProofs
    have hev : evGet s = none := by simp [evGet, rNums, evCount, hg, hg0, he0]
    rw [hev]
    exact Ans.rfl' _
theorem event_Get_6 (hR : R.Ok) (s : Bs0) (hs : s.length < 8000000000000000000) (t0 : Int) (hg : gNum s 0 = (6, t0, 0)) {h : AHeap A} {K : AVal → AHeap A → Prop} (hk : K (evTup (evGet s)) h) : Tri Pr R n_event_Get [.str s] h K := by
  refine Tri.fn1 hR _ (evTup_ix _) rfl ?_ hk
  have q := gNum_enc hg
  apply c_event_Get
  unfold p_event_Get
  simp -implicitDefEqProofs
  have hf : (.cells t_field_Reader [.str s, .int .i64 0, .nili] : AObj A) = fRead s 0 .nili := rfl
  rw [hf]
  refine fReader_ok hR s (by omega) 0 (by omega) ?_
  rw [hg]
  dsimp only
  rw [if_pos rfl]
  simp -implicitDefEqProofs
  apply c_event_parts
  unfold p_event_parts
  simp -implicitDefEqProofs [appP, appV, srcOf, cellsAt]
  repeat (first | refine joinP_go ?_ | simp -implicitDefEqProofs [appP, appV, srcOf, cellsAt])
  refine loopP_unr 5 ?_
  rw [unr]
  simp -implicitDefEqProofs
  refine fReader_ok hR s (by omega) t0 (by omega) ?_
  obtain ⟨x0, t1, e0, hg0⟩ : ∃ x t e, gNum s t0 = (x, t, e) := ⟨_, _, _, rfl⟩
  rw [hg0]
  dsimp only
  by_cases he0 : e0 = 0
  · subst he0
    have q0 := gNum_enc hg0
    rw [if_pos rfl]
    simp -implicitDefEqProofs
    refine Gives.done (by simp) ?_
    rw [unr]
    simp -implicitDefEqProofs
    refine fReader_ok hR s (by omega) t1 (by omega) ?_
    obtain ⟨x1, t2, e1, hg1⟩ : ∃ x t e, gNum s t1 = (x, t, e) := ⟨_, _, _, rfl⟩
    rw [hg1]
    dsimp only
    by_cases he1 : e1 = 0
    · subst he1
      have q1 := gNum_enc hg1
      rw [if_pos rfl]
      simp -implicitDefEqProofs
      refine Gives.done (by simp) ?_
      rw [unr]
      simp -implicitDefEqProofs
      refine fReader_ok hR s (by omega) t2 (by omega) ?_
      obtain ⟨x2, t3, e2, hg2⟩ : ∃ x t e, gNum s t2 = (x, t, e) := ⟨_, _, _, rfl⟩
      rw [hg2]
      dsimp only
      by_cases he2 : e2 = 0
      · subst he2
        have q2 := gNum_enc hg2
        rw [if_pos rfl]
        simp -implicitDefEqProofs
        refine Gives.done (by simp) ?_
        rw [unr]
        simp -implicitDefEqProofs
        refine fReader_ok hR s (by omega) t3 (by omega) ?_
        obtain ⟨x3, t4, e3, hg3⟩ : ∃ x t e, gNum s t3 = (x, t, e) := ⟨_, _, _, rfl⟩
        rw [hg3]
        dsimp only
        by_cases he3 : e3 = 0
        · subst he3
          have q3 := gNum_enc hg3
          rw [if_pos rfl]
          simp -implicitDefEqProofs
          refine Gives.done (by simp) ?_
          rw [unr]
          simp -implicitDefEqProofs
          apply c_field_Reader_Done
          unfold p_field_Reader_Done
          simp -implicitDefEqProofs
          refine joinP_go ?_
          by_cases hl : t4 = s.length
          · have hl' : (t4 == (s.length : Int)) = true := by simpa using hl
            simp -implicitDefEqProofs [hl']
            refine event_May_ok hR ⟨6, 0, x0, 0, x1, x2, 0, x3⟩ ?_
            have hev : evGet s = if evMay ⟨6, 0, x0, 0, x1, x2, 0, x3⟩ = true then some ⟨6, 0, x0, 0, x1, x2, 0, x3⟩ else none := by simp [evGet, rNums, evCount, evOf, ev0, hg, hg0, hg1, hg2, hg3, hl]
            cases hm : evMay ⟨6, 0, x0, 0, x1, x2, 0, x3⟩ with
            | true => rw [hm] at hev; simp at hev; simp -implicitDefEqProofs; rw [hev]; exact Ans.rfl' _
            | false => rw [hm] at hev; simp at hev; simp -implicitDefEqProofs; rw [hev]; exact Ans.rfl' _
          · have hl' : (t4 == (s.length : Int)) = false := by simpa using hl
            have hev : evGet s = none := by simp [evGet, rNums, evCount, hg, hg0, hg1, hg2, hg3, hl]
            rw [hev]
            simp -implicitDefEqProofs [hl']
            exact Ans.rfl' _
        · rw [if_neg he3]
          intro fa fe
          simp -implicitDefEqProofs
          refine Gives.done (by simp) ?_
          rw [unr]
          simp -implicitDefEqProofs
          apply c_field_Reader_Done
          unfold p_field_Reader_Done
          simp -implicitDefEqProofs
          refine joinP_go ?_
          simp -implicitDefEqProofs
          have hev : evGet s = none := by simp [evGet, rNums, evCount, hg, hg0, hg1, hg2, hg3, he3]
          rw [hev]
          exact Ans.rfl' _
      · rw [if_neg he2]
        intro fa fe
        simp -implicitDefEqProofs
        refine Gives.done (by simp) ?_
        rw [unr]
        simp -implicitDefEqProofs
        refine fReader_bad hR s 0 _ _ ?_
        simp -implicitDefEqProofs
        refine Gives.done (by simp) ?_
        rw [unr]
        simp -implicitDefEqProofs
        apply c_field_Reader_Done
        unfold p_field_Reader_Done
        simp -implicitDefEqProofs
        refine joinP_go ?_
        simp -implicitDefEqProofs
        have hev : evGet s = none := by simp [evGet, rNums, evCount, hg, hg0, hg1, hg2, he2]
        rw [hev]
        exact Ans.rfl' _
    · rw [if_neg he1]
      intro fa fe
      simp -implicitDefEqProofs
      refine Gives.done (by simp) ?_
      rw [unr]
      simp -implicitDefEqProofs
      refine fReader_bad hR s 0 _ _ ?_
      simp -implicitDefEqProofs
      refine Gives.done (by simp) ?_
      rw [unr]
      simp -implicitDefEqProofs
      refine fReader_bad hR s 0 _ _ ?_
      simp -implicitDefEqProofs
      refine Gives.done (by simp) ?_
      rw [unr]
      simp -implicitDefEqProofs
      apply c_field_Reader_Done
      unfold p_field_Reader_Done
      simp -implicitDefEqProofs
      refine joinP_go ?_
      simp -implicitDefEqProofs
      have hev : evGet s = none := by simp [evGet, rNums, evCount, hg, hg0, hg1, he1]
      rw [hev]
      exact Ans.rfl' _
  · rw [if_neg he0]
    intro fa fe
    simp -implicitDefEqProofs
    refine Gives.done (by simp) ?_
    rw [unr]
    simp -implicitDefEqProofs
    refine fReader_bad hR s 0 _ _ ?_
    simp -implicitDefEqProofs
    refine Gives.done (by simp) ?_
    rw [unr]
    simp -implicitDefEqProofs
    refine fReader_bad hR s 0 _ _ ?_
    simp -implicitDefEqProofs
    refine Gives.done (by simp) ?_
    rw [unr]
    simp -implicitDefEqProofs
    refine fReader_bad hR s 0 _ _ ?_
    simp -implicitDefEqProofs
    refine Gives.done (by simp) ?_
    rw [unr]
    simp -implicitDefEqProofs
    apply c_field_Reader_Done
    unfold p_field_Reader_Done
    simp -implicitDefEqProofs
    refine joinP_go ?_
    simp -implicitDefEqProofs
    have hev : evGet s = none := by simp [evGet, rNums, evCount, hg, hg0, he0]
    rw [hev]
    exact Ans.rfl' _
theorem event_Get_7 (hR : R.Ok) (s : Bs0) (hs : s.length < 8000000000000000000) (t0 : Int) (hg : gNum s 0 = (7, t0, 0)) {h : AHeap A} {K : AVal → AHeap A → Prop} (hk : K (evTup (evGet s)) h) : Tri Pr R n_event_Get [.str s] h K := by
  refine Tri.fn1 hR _ (evTup_ix _) rfl ?_ hk
  have q := gNum_enc hg
  apply c_event_Get
  unfold p_event_Get
  simp -implicitDefEqProofs
  have hf : (.cells t_field_Reader [.str s, .int .i64 0, .nili] : AObj A) = fRead s 0 .nili := rfl
  rw [hf]
  refine fReader_ok hR s (by omega) 0 (by omega) ?_
  rw [hg]
  dsimp only
  rw [if_pos rfl]
  simp -implicitDefEqProofs
  apply c_event_parts
  unfold p_event_parts
  simp -implicitDefEqProofs [appP, appV, srcOf, cellsAt]
  repeat (first | refine joinP_go ?_ | simp -implicitDefEqProofs [appP, appV, srcOf, cellsAt])
  refine loopP_unr 5 ?_
  rw [unr]
  simp -implicitDefEqProofs
  refine fReader_ok hR s (by omega) t0 (by omega) ?_
  obtain ⟨x0, t1, e0, hg0⟩ : ∃ x t e, gNum s t0 = (x, t, e) := ⟨_, _, _, rfl⟩
  rw [hg0]
  dsimp only
  by_cases he0 : e0 = 0
  · subst he0
    have q0 := gNum_enc hg0
    rw [if_pos rfl]
    simp -implicitDefEqProofs
    refine Gives.done (by simp) ?_
    rw [unr]
    simp -implicitDefEqProofs
    apply c_field_Reader_Done
    unfold p_field_Reader_Done
    simp -implicitDefEqProofs
    refine joinP_go ?_
    by_cases hl : t1 = s.length
    · have hl' : (t1 == (s.length : Int)) = true := by simpa using hl
      simp -implicitDefEqProofs [hl']
      refine event_May_ok hR ⟨7, x0, 0, 0, 0, 0, 0, 0⟩ ?_
      have hev : evGet s = if evMay ⟨7, x0, 0, 0, 0, 0, 0, 0⟩ = true then some ⟨7, x0, 0, 0, 0, 0, 0, 0⟩ else none := by simp [evGet, rNums, evCount, evOf, ev0, hg, hg0, hl]
      cases hm : evMay ⟨7, x0, 0, 0, 0, 0, 0, 0⟩ with
      | true => rw [hm] at hev; simp at hev; simp -implicitDefEqProofs; rw [hev]; exact Ans.rfl' _
      | false => rw [hm] at hev; simp at hev; simp -implicitDefEqProofs; rw [hev]; exact Ans.rfl' _
    · have hl' : (t1 == (s.length : Int)) = false := by simpa using hl
      have hev : evGet s = none := by simp [evGet, rNums, evCount, hg, hg0, hl]
      rw [hev]
      simp -implicitDefEqProofs [hl']
      exact Ans.rfl' _
  · rw [if_neg he0]
    intro fa fe
    simp -implicitDefEqProofs
    refine Gives.done (by simp) ?_
    rw [unr]
    simp -implicitDefEqProofs
    apply c_field_Reader_Done
    unfold p_field_Reader_Done
    simp -implicitDefEqProofs
    refine joinP_go ?_
    simp -implicitDefEqProofs
    have hev : evGet s = none := by simp [evGet, rNums, evCount, hg, hg0, he0]
    rw [hev]
    exact Ans.rfl' _
theorem event_Get_8 (hR : R.Ok) (s : Bs0) (hs : s.length < 8000000000000000000) (t0 : Int) (hg : gNum s 0 = (8, t0, 0)) {h : AHeap A} {K : AVal → AHeap A → Prop} (hk : K (evTup (evGet s)) h) : Tri Pr R n_event_Get [.str s] h K := by
  refine Tri.fn1 hR _ (evTup_ix _) rfl ?_ hk
  have q := gNum_enc hg
  apply c_event_Get
  unfold p_event_Get
  simp -implicitDefEqProofs
  have hf : (.cells t_field_Reader [.str s, .int .i64 0, .nili] : AObj A) = fRead s 0 .nili := rfl
  rw [hf]
  refine fReader_ok hR s (by omega) 0 (by omega) ?_
  rw [hg]
  dsimp only
  rw [if_pos rfl]
  simp -implicitDefEqProofs
  apply c_event_parts
  unfold p_event_parts
  simp -implicitDefEqProofs [appP, appV, srcOf, cellsAt]
  repeat (first | refine joinP_go ?_ | simp -implicitDefEqProofs [appP, appV, srcOf, cellsAt])
  refine loopP_unr 5 ?_
  rw [unr]
  simp -implicitDefEqProofs
  apply c_field_Reader_Done
  unfold p_field_Reader_Done
  simp -implicitDefEqProofs
  refine joinP_go ?_
  by_cases hl : t0 = s.length
  · have hl' : (t0 == (s.length : Int)) = true := by simpa using hl
    simp -implicitDefEqProofs [hl']
    refine event_May_ok hR ⟨8, 0, 0, 0, 0, 0, 0, 0⟩ ?_
    have hev : evGet s = if evMay ⟨8, 0, 0, 0, 0, 0, 0, 0⟩ = true then some ⟨8, 0, 0, 0, 0, 0, 0, 0⟩ else none := by simp [evGet, rNums, evCount, evOf, ev0, hg, hl]
    cases hm : evMay ⟨8, 0, 0, 0, 0, 0, 0, 0⟩ with
    | true => rw [hm] at hev; simp at hev; simp -implicitDefEqProofs; rw [hev]; exact Ans.rfl' _
    | false => rw [hm] at hev; simp at hev; simp -implicitDefEqProofs; rw [hev]; exact Ans.rfl' _
  · have hl' : (t0 == (s.length : Int)) = false := by simpa using hl
    have hev : evGet s = none := by simp [evGet, rNums, evCount, hg, hl]
    rw [hev]
    simp -implicitDefEqProofs [hl']
    exact Ans.rfl' _
theorem event_Get_9 (hR : R.Ok) (s : Bs0) (hs : s.length < 8000000000000000000) (t0 : Int) (hg : gNum s 0 = (9, t0, 0)) {h : AHeap A} {K : AVal → AHeap A → Prop} (hk : K (evTup (evGet s)) h) : Tri Pr R n_event_Get [.str s] h K := by
  refine Tri.fn1 hR _ (evTup_ix _) rfl ?_ hk
  have q := gNum_enc hg
  apply c_event_Get
  unfold p_event_Get
  simp -implicitDefEqProofs
  have hf : (.cells t_field_Reader [.str s, .int .i64 0, .nili] : AObj A) = fRead s 0 .nili := rfl
  rw [hf]
  refine fReader_ok hR s (by omega) 0 (by omega) ?_
  rw [hg]
  dsimp only
  rw [if_pos rfl]
  simp -implicitDefEqProofs
  apply c_event_parts
  unfold p_event_parts
  simp -implicitDefEqProofs [appP, appV, srcOf, cellsAt]
  repeat (first | refine joinP_go ?_ | simp -implicitDefEqProofs [appP, appV, srcOf, cellsAt])
  refine loopP_unr 5 ?_
  rw [unr]
  simp -implicitDefEqProofs
  refine fReader_ok hR s (by omega) t0 (by omega) ?_
  obtain ⟨x0, t1, e0, hg0⟩ : ∃ x t e, gNum s t0 = (x, t, e) := ⟨_, _, _, rfl⟩
  rw [hg0]
  dsimp only
  by_cases he0 : e0 = 0
  · subst he0
    have q0 := gNum_enc hg0
    rw [if_pos rfl]
    simp -implicitDefEqProofs
    refine Gives.done (by simp) ?_
    rw [unr]
    simp -implicitDefEqProofs
    apply c_field_Reader_Done
    unfold p_field_Reader_Done
    simp -implicitDefEqProofs
    refine joinP_go ?_
    by_cases hl : t1 = s.length
    · have hl' : (t1 == (s.length : Int)) = true := by simpa using hl
      simp -implicitDefEqProofs [hl']
      refine event_May_ok hR ⟨9, 0, x0, 0, 0, 0, 0, 0⟩ ?_
      have hev : evGet s = if evMay ⟨9, 0, x0, 0, 0, 0, 0, 0⟩ = true then some ⟨9, 0, x0, 0, 0, 0, 0, 0⟩ else none := by simp [evGet, rNums, evCount, evOf, ev0, hg, hg0, hl]
      cases hm : evMay ⟨9, 0, x0, 0, 0, 0, 0, 0⟩ with
      | true => rw [hm] at hev; simp at hev; simp -implicitDefEqProofs; rw [hev]; exact Ans.rfl' _
      | false => rw [hm] at hev; simp at hev; simp -implicitDefEqProofs; rw [hev]; exact Ans.rfl' _
    · have hl' : (t1 == (s.length : Int)) = false := by simpa using hl
      have hev : evGet s = none := by simp [evGet, rNums, evCount, hg, hg0, hl]
      rw [hev]
      simp -implicitDefEqProofs [hl']
      exact Ans.rfl' _
  · rw [if_neg he0]
    intro fa fe
    simp -implicitDefEqProofs
    refine Gives.done (by simp) ?_
    rw [unr]
    simp -implicitDefEqProofs
    apply c_field_Reader_Done
    unfold p_field_Reader_Done
    simp -implicitDefEqProofs
    refine joinP_go ?_
    simp -implicitDefEqProofs
    have hev : evGet s = none := by simp [evGet, rNums, evCount, hg, hg0, he0]
    rw [hev]
    exact Ans.rfl' _
end Go.AI

/- Events are read; the document's events (printed by gen/event_gen3.py). -/
set_option linter.all false
namespace Go.AI
variable {A : Type} {R : Adts A}
theorem event_Get_ok (hR : R.Ok) (s : Bs0) (hs : s.length < 8000000000000000000) {h : AHeap A} {K : AVal → AHeap A → Prop} (hk : K (evTup (evGet s)) h) : Tri Pr R n_event_Get [.str s] h K := by
  obtain ⟨k, t0, e, hg⟩ : ∃ k t e, gNum s 0 = (k, t, e) := ⟨_, _, _, rfl⟩
  by_cases he : e = 0
  · subst he
    have q := gNum_enc hg
    have hk0 : 0 ≤ k := by have := q.1; simp [nMay] at this; omega
    by_cases h9 : 9 < k
    · have f0 : (k == 0) = false := by simp; omega
      have f1 : (k == 1) = false := by simp; omega
      have f2 : (k == 2) = false := by simp; omega
      have f3 : (k == 3) = false := by simp; omega
      have f4 : (k == 4) = false := by simp; omega
      have f5 : (k == 5) = false := by simp; omega
      have f6 : (k == 6) = false := by simp; omega
      have f7 : (k == 7) = false := by simp; omega
      have f9 : (k == 9) = false := by simp; omega
      have hmf : ∀ l, evMay (evOf k l) = false := by
        intro l
        cases hm : evMay (evOf k l) with
        | false => rfl
        | true => have := evMay_kind hm; rw [evOf_kind] at this; omega
      have hc : evCount k = 0 := by unfold evCount; rw [if_neg (by omega), if_neg (by omega), if_neg (by omega)]
      have hev : evGet s = none := by simp [evGet, rNums, hg, hc, hmf]
      rw [hev] at hk
      refine Tri.fn1 hR _ (evTup_ix none) rfl ?_ hk
      apply c_event_Get
      unfold p_event_Get
      simp -implicitDefEqProofs
      have hf : (.cells t_field_Reader [.str s, .int .i64 0, .nili] : AObj A) = fRead s 0 .nili := rfl
      rw [hf]
      refine fReader_ok hR s (by omega) 0 (by omega) ?_
      rw [hg]
      dsimp only
      rw [if_pos rfl]
      simp -implicitDefEqProofs
      apply c_event_parts
      unfold p_event_parts
      simp -implicitDefEqProofs [f0, f1, f2, f3, f4, f5, f6, f7, f9]
      repeat (first | refine joinP_go ?_ | simp -implicitDefEqProofs [f0, f1, f2, f3, f4, f5, f6, f7, f9])
      refine loopP_unr 5 ?_
      rw [unr]
      simp -implicitDefEqProofs
      apply c_field_Reader_Done
      unfold p_field_Reader_Done
      simp -implicitDefEqProofs
      refine joinP_go ?_
      by_cases hl : t0 = s.length
      · have hl' : (t0 == (s.length : Int)) = true := by simpa using hl
        simp -implicitDefEqProofs [hl']
        refine event_May_ok hR ⟨k, 0, 0, 0, 0, 0, 0, 0⟩ ?_
        have hm : evMay ⟨k, 0, 0, 0, 0, 0, 0, 0⟩ = false := by
          cases hm : evMay ⟨k, 0, 0, 0, 0, 0, 0, 0⟩ with
          | false => rfl
          | true => have := evMay_kind hm; simp at this; omega
        rw [hm]
        simp -implicitDefEqProofs
        exact Ans.rfl' _
      · have hl' : (t0 == (s.length : Int)) = false := by simpa using hl
        simp -implicitDefEqProofs [hl']
        exact Ans.rfl' _
    · have hc2 : k = 0 ∨ k = 1 ∨ k = 2 ∨ k = 3 ∨ k = 4 ∨ k = 5 ∨ k = 6 ∨ k = 7 ∨ k = 8 ∨ k = 9 := by omega
      rcases hc2 with rfl | rfl | rfl | rfl | rfl | rfl | rfl | rfl | rfl | rfl
      · exact event_Get_0 hR s hs t0 hg hk
      · exact event_Get_1 hR s hs t0 hg hk
      · exact event_Get_2 hR s hs t0 hg hk
      · exact event_Get_3 hR s hs t0 hg hk
      · exact event_Get_4 hR s hs t0 hg hk
      · exact event_Get_5 hR s hs t0 hg hk
      · exact event_Get_6 hR s hs t0 hg hk
      · exact event_Get_7 hR s hs t0 hg hk
      · exact event_Get_8 hR s hs t0 hg hk
      · exact event_Get_9 hR s hs t0 hg hk
  · have hev : evGet s = none := by simp [evGet, rNums, hg, he]
    rw [hev] at hk
    refine Tri.fn1 hR _ (evTup_ix none) rfl ?_ hk
    apply c_event_Get
    unfold p_event_Get
    simp -implicitDefEqProofs
    have hf : (.cells t_field_Reader [.str s, .int .i64 0, .nili] : AObj A) = fRead s 0 .nili := rfl
    rw [hf]
    refine fReader_ok hR s (by omega) 0 (by omega) ?_
    rw [hg]
    dsimp only
    rw [if_neg he]
    intro fa fe
    simp -implicitDefEqProofs
    apply c_event_parts
    unfold p_event_parts
    simp -implicitDefEqProofs [appP, appV, srcOf, cellsAt]
    repeat (first | refine joinP_go ?_ | simp -implicitDefEqProofs [appP, appV, srcOf, cellsAt])
    refine loopP_unr 5 ?_
    rw [unr]
    simp -implicitDefEqProofs
    refine fReader_bad hR s 0 _ _ ?_
    simp -implicitDefEqProofs
    refine Gives.done (by simp) ?_
    rw [unr]
    simp -implicitDefEqProofs
    apply c_field_Reader_Done
    unfold p_field_Reader_Done
    simp -implicitDefEqProofs
    refine joinP_go ?_
    simp -implicitDefEqProofs
    exact Ans.rfl' _
theorem ref1_part_0 (hR : R.Ok) (u s ad a b c t : Int) {h : AHeap A} {K : AVal → AHeap A → Prop} (hk : K (.tup [.agg (Ev.row ⟨0, 0, 0, 0, 0, 0, 0, t⟩), .bool true]) h) : Tri Pr R n_ref1_part [.agg (Ev.row ⟨0, u, s, ad, a, b, c, t⟩)] h K := by
  refine Tri.fn1 hR _ rfl rfl ?_ hk
  apply c_ref1_part
  unfold p_ref1_part
  simp -implicitDefEqProofs [Ev.row]
  repeat (first | refine joinP_go ?_ | simp -implicitDefEqProofs)
  exact Ans.rfl' _
theorem ref1_part_1 (hR : R.Ok) (u s ad a b c t : Int) {h : AHeap A} {K : AVal → AHeap A → Prop} (hk : K (.tup [.agg (Ev.row ⟨1, u, 0, 0, a, b, c, 0⟩), .bool true]) h) : Tri Pr R n_ref1_part [.agg (Ev.row ⟨1, u, s, ad, a, b, c, t⟩)] h K := by
  refine Tri.fn1 hR _ rfl rfl ?_ hk
  apply c_ref1_part
  unfold p_ref1_part
  simp -implicitDefEqProofs [Ev.row]
  repeat (first | refine joinP_go ?_ | simp -implicitDefEqProofs)
  exact Ans.rfl' _
theorem ref1_part_2 (hR : R.Ok) (u s ad a b c t : Int) {h : AHeap A} {K : AVal → AHeap A → Prop} (hk : K (.tup [.agg (Ev.row ⟨2, u, 0, 0, 0, 0, 0, t⟩), .bool true]) h) : Tri Pr R n_ref1_part [.agg (Ev.row ⟨2, u, s, ad, a, b, c, t⟩)] h K := by
  refine Tri.fn1 hR _ rfl rfl ?_ hk
  apply c_ref1_part
  unfold p_ref1_part
  simp -implicitDefEqProofs [Ev.row]
  repeat (first | refine joinP_go ?_ | simp -implicitDefEqProofs)
  exact Ans.rfl' _
theorem ref1_part_3 (hR : R.Ok) (u s ad a b c t : Int) {h : AHeap A} {K : AVal → AHeap A → Prop} (hk : K (.tup [.agg (Ev.row ⟨3, u, 0, 0, a, 0, 0, 0⟩), .bool true]) h) : Tri Pr R n_ref1_part [.agg (Ev.row ⟨3, u, s, ad, a, b, c, t⟩)] h K := by
  refine Tri.fn1 hR _ rfl rfl ?_ hk
  apply c_ref1_part
  unfold p_ref1_part
  simp -implicitDefEqProofs [Ev.row]
  repeat (first | refine joinP_go ?_ | simp -implicitDefEqProofs)
  exact Ans.rfl' _
theorem ref1_part_4 (hR : R.Ok) (u s ad a b c t : Int) {h : AHeap A} {K : AVal → AHeap A → Prop} (hk : K (.tup [.agg (Ev.row ⟨4, u, 0, 0, 0, 0, 0, 0⟩), .bool true]) h) : Tri Pr R n_ref1_part [.agg (Ev.row ⟨4, u, s, ad, a, b, c, t⟩)] h K := by
  refine Tri.fn1 hR _ rfl rfl ?_ hk
  apply c_ref1_part
  unfold p_ref1_part
  simp -implicitDefEqProofs [Ev.row]
  repeat (first | refine joinP_go ?_ | simp -implicitDefEqProofs)
  exact Ans.rfl' _
theorem ref1_part_5 (hR : R.Ok) (u s ad a b c t : Int) {h : AHeap A} {K : AVal → AHeap A → Prop} (hk : K (.tup [.agg (Ev.row ⟨5, u, s, ad, 0, 0, 0, t⟩), .bool true]) h) : Tri Pr R n_ref1_part [.agg (Ev.row ⟨5, u, s, ad, a, b, c, t⟩)] h K := by
  refine Tri.fn1 hR _ rfl rfl ?_ hk
  apply c_ref1_part
  unfold p_ref1_part
  simp -implicitDefEqProofs [Ev.row]
  repeat (first | refine joinP_go ?_ | simp -implicitDefEqProofs)
  exact Ans.rfl' _
theorem ref1_part_6 (hR : R.Ok) (u s ad a b c t : Int) {h : AHeap A} {K : AVal → AHeap A → Prop} (hk : K (.tup [.agg (Ev.row ⟨6, 0, s, 0, a, b, 0, t⟩), .bool true]) h) : Tri Pr R n_ref1_part [.agg (Ev.row ⟨6, u, s, ad, a, b, c, t⟩)] h K := by
  refine Tri.fn1 hR _ rfl rfl ?_ hk
  apply c_ref1_part
  unfold p_ref1_part
  simp -implicitDefEqProofs [Ev.row]
  repeat (first | refine joinP_go ?_ | simp -implicitDefEqProofs)
  exact Ans.rfl' _
theorem ref1_part_7 (hR : R.Ok) (u s ad a b c t : Int) {h : AHeap A} {K : AVal → AHeap A → Prop} (hk : K (.tup [.agg (Ev.row ⟨7, u, 0, 0, 0, 0, 0, 0⟩), .bool true]) h) : Tri Pr R n_ref1_part [.agg (Ev.row ⟨7, u, s, ad, a, b, c, t⟩)] h K := by
  refine Tri.fn1 hR _ rfl rfl ?_ hk
  apply c_ref1_part
  unfold p_ref1_part
  simp -implicitDefEqProofs [Ev.row]
  repeat (first | refine joinP_go ?_ | simp -implicitDefEqProofs)
  exact Ans.rfl' _
theorem ref1_part_8 (hR : R.Ok) (u s ad a b c t : Int) {h : AHeap A} {K : AVal → AHeap A → Prop} (hk : K (.tup [.agg (Ev.row ⟨8, 0, 0, 0, 0, 0, 0, 0⟩), .bool true]) h) : Tri Pr R n_ref1_part [.agg (Ev.row ⟨8, u, s, ad, a, b, c, t⟩)] h K := by
  refine Tri.fn1 hR _ rfl rfl ?_ hk
  apply c_ref1_part
  unfold p_ref1_part
  simp -implicitDefEqProofs [Ev.row]
  repeat (first | refine joinP_go ?_ | simp -implicitDefEqProofs)
  exact Ans.rfl' _
theorem ref1_part_9 (hR : R.Ok) (u s ad a b c t : Int) {h : AHeap A} {K : AVal → AHeap A → Prop} (hk : K (.tup [.agg (Ev.row ⟨9, 0, s, 0, 0, 0, 0, 0⟩), .bool true]) h) : Tri Pr R n_ref1_part [.agg (Ev.row ⟨9, u, s, ad, a, b, c, t⟩)] h K := by
  refine Tri.fn1 hR _ rfl rfl ?_ hk
  apply c_ref1_part
  unfold p_ref1_part
  simp -implicitDefEqProofs [Ev.row]
  repeat (first | refine joinP_go ?_ | simp -implicitDefEqProofs)
  exact Ans.rfl' _
theorem ref1_part_ok (hR : R.Ok) (e : Ev) {h : AHeap A} {K : AVal → AHeap A → Prop} (hk : if 0 ≤ e.kind ∧ e.kind ≤ 9 then K (.tup [.agg (evPlain e).row, .bool true]) h else ∀ f : Ev, K (.tup [.agg f.row, .bool false]) h) : Tri Pr R n_ref1_part [.agg e.row] h K := by
  obtain ⟨k, u, s, ad, a, b, c, t⟩ := e
  simp only at hk
  by_cases hc : 0 ≤ k ∧ k ≤ 9
  · rw [if_pos hc] at hk
    have hc2 : k = 0 ∨ k = 1 ∨ k = 2 ∨ k = 3 ∨ k = 4 ∨ k = 5 ∨ k = 6 ∨ k = 7 ∨ k = 8 ∨ k = 9 := by omega
    rcases hc2 with rfl | rfl | rfl | rfl | rfl | rfl | rfl | rfl | rfl | rfl
    · exact ref1_part_0 hR u s ad a b c t hk
    · exact ref1_part_1 hR u s ad a b c t hk
    · exact ref1_part_2 hR u s ad a b c t hk
    · exact ref1_part_3 hR u s ad a b c t hk
    · exact ref1_part_4 hR u s ad a b c t hk
    · exact ref1_part_5 hR u s ad a b c t hk
    · exact ref1_part_6 hR u s ad a b c t hk
    · exact ref1_part_7 hR u s ad a b c t hk
    · exact ref1_part_8 hR u s ad a b c t hk
    · exact ref1_part_9 hR u s ad a b c t hk
  · rw [if_neg hc] at hk
    have f0 : (k == 0) = false := by simp; omega
    have f1 : (k == 1) = false := by simp; omega
    have f2 : (k == 2) = false := by simp; omega
    have f3 : (k == 3) = false := by simp; omega
    have f4 : (k == 4) = false := by simp; omega
    have f5 : (k == 5) = false := by simp; omega
    have f6 : (k == 6) = false := by simp; omega
    have f7 : (k == 7) = false := by simp; omega
    have f8 : (k == 8) = false := by simp; omega
    have f9 : (k == 9) = false := by simp; omega
    refine Tri.fn1 hR _ rfl rfl ?_ (hk ⟨k, 0, 0, 0, 0, 0, 0, 0⟩)
    apply c_ref1_part
    unfold p_ref1_part
    simp -implicitDefEqProofs [Ev.row, f0, f1, f2, f3, f4, f5, f6, f7, f8, f9]
    repeat (first | refine joinP_go ?_ | simp -implicitDefEqProofs [f0, f1, f2, f3, f4, f5, f6, f7, f8, f9])
    exact Ans.rfl' _
theorem evMay_iff (e : Ev) : evMay e = true ↔ (0 ≤ e.kind ∧ e.kind ≤ 9) ∧ e = evPlain e ∧ (0 ≤ e.user ∧ e.user < 8) ∧ (0 ≤ e.address ∧ e.address < 16) ∧ (0 ≤ e.tick ∧ e.tick ≤ 1048575) ∧ nMay e.session = true ∧ nMay e.a = true ∧ nMay e.b = true ∧ (0 ≤ e.c ∧ e.c ≤ 1048576) ∧ (e.kind = 6 → e.b ≤ 4) := by
  obtain ⟨k, u, s, ad, a, b, c, t⟩ := e
  constructor
  · intro h
    have h1 := evMay_kind h
    have h2 := evMay_plain h
    have h3 := evMay_parts h
    have h4 : (k = 6 → b ≤ 4) ∧ u < 8 ∧ ad < 16 ∧ t ≤ 1048575 ∧ c ≤ 1048576 := by
      unfold evMay at h
      simp only [Bool.and_eq_true, Bool.not_eq_true', Bool.and_eq_false_iff, decide_eq_true_eq, decide_eq_false_iff_not] at h
      obtain ⟨⟨⟨⟨⟨⟨⟨_, a1⟩, _⟩, a2⟩, a3⟩, a4⟩, a5⟩, _⟩ := h
      refine ⟨fun hk => ?_, a2, a3, a4, a5⟩
      rcases a1 with a1 | a1 <;> omega
    simp only at h1
    have hc2 : k = 0 ∨ k = 1 ∨ k = 2 ∨ k = 3 ∨ k = 4 ∨ k = 5 ∨ k = 6 ∨ k = 7 ∨ k = 8 ∨ k = 9 := by omega
    refine ⟨h1, h2, ?_⟩
    rcases hc2 with rfl | rfl | rfl | rfl | rfl | rfl | rfl | rfl | rfl | rfl <;>
      (simp [evPlain, evParts, evOf, ev0] at h2 h3 ⊢; simp [nMay] at h3 ⊢; omega)
  · rintro ⟨h1, h2, h3, h4, h5, h6, h7, h8, h9, h10⟩
    simp only at h1 h3 h4 h5 h6 h7 h8 h9 h10
    unfold evMay
    rw [← h2]
    have hc2 : k = 0 ∨ k = 1 ∨ k = 2 ∨ k = 3 ∨ k = 4 ∨ k = 5 ∨ k = 6 ∨ k = 7 ∨ k = 8 ∨ k = 9 := by omega
    rcases hc2 with rfl | rfl | rfl | rfl | rfl | rfl | rfl | rfl | rfl | rfl <;>
      (simp [evParts]; simp [nMay] at h6 h7 h8 ⊢; omega)
theorem ref1_EventMay_ok (hR : R.Ok) (e : Ev) {h : AHeap A} {K : AVal → AHeap A → Prop} (hk : K (.bool (evMay e)) h) : Tri Pr R n_ref1_EventMay [.agg e.row] h K := by
  refine Tri.fn1 hR _ rfl rfl ?_ hk
  have no : evMay e = true → _ := (evMay_iff e).1
  have bad : ¬ (evMay e = true) → Ans (.bool (evMay e)) (.bool false) := fun h => Ans.of (by simp at h; rw [h])
  apply c_ref1_EventMay
  unfold p_ref1_EventMay
  simp -implicitDefEqProofs [Ev.row]
  refine ref1_part_ok hR e ?_
  by_cases c0 : 0 ≤ e.kind ∧ e.kind ≤ 9
  · rw [if_pos c0]
    have he := shEv (evPlain e) e
    simp only [Ev.row] at he
    by_cases c1 : evPlain e = e
    · have c1' : decide (evPlain e = e) = true := by simpa using c1
      simp -implicitDefEqProofs [Ev.row, he, c1']
      by_cases c2 : e.user < 0
      · simp -implicitDefEqProofs [c2]; exact bad fun h => by have := no h; omega
      by_cases c3 : 8 ≤ e.user
      · simp -implicitDefEqProofs [c2, c3]; exact bad fun h => by have := no h; omega
      by_cases c4 : e.address < 0
      · simp -implicitDefEqProofs [c2, c3, c4]; exact bad fun h => by have := no h; omega
      by_cases c5 : 16 ≤ e.address
      · simp -implicitDefEqProofs [c2, c3, c4, c5]; exact bad fun h => by have := no h; omega
      by_cases c6 : e.tick < 0
      · simp -implicitDefEqProofs [c2, c3, c4, c5, c6]; exact bad fun h => by have := no h; omega
      by_cases c7 : 1048575 < e.tick
      · simp -implicitDefEqProofs [c2, c3, c4, c5, c6, c7]; exact bad fun h => by have := no h; omega
      simp -implicitDefEqProofs [c2, c3, c4, c5, c6, c7]
      refine ref1_num_ok _ ?_
      cases c8 : nMay e.session with
      | false => simp -implicitDefEqProofs; exact bad fun h => by have := no h; simp [c8] at this
      | true =>
        simp -implicitDefEqProofs
        refine ref1_num_ok _ ?_
        cases c9 : nMay e.a with
        | false => simp -implicitDefEqProofs; exact bad fun h => by have := no h; simp [c9] at this
        | true =>
          simp -implicitDefEqProofs
          refine ref1_num_ok _ ?_
          cases c10 : nMay e.b with
          | false => simp -implicitDefEqProofs; exact bad fun h => by have := no h; simp [c10] at this
          | true =>
            simp -implicitDefEqProofs
            by_cases c11 : e.c < 0
            · simp -implicitDefEqProofs [c11]; exact bad fun h => by have := no h; omega
            by_cases c12 : 1048576 < e.c
            · simp -implicitDefEqProofs [c11, c12]; exact bad fun h => by have := no h; omega
            by_cases c13 : e.kind = 6
            · have c13' : (e.kind != 6) = false := by simp [c13]
              by_cases c14 : e.b ≤ 4
              · simp -implicitDefEqProofs [c11, c12, c13', c14]
                exact Ans.of (by rw [(evMay_iff e).2 ⟨c0, c1.symm, by omega, by omega, by omega, c8, c9, c10, by omega, fun _ => c14⟩])
              · simp -implicitDefEqProofs [c11, c12, c13', c14]; exact bad fun h => by have := no h; omega
            · have c13' : (e.kind != 6) = true := by simpa using c13
              simp -implicitDefEqProofs [c11, c12, c13']
              exact Ans.of (by rw [(evMay_iff e).2 ⟨c0, c1.symm, by omega, by omega, by omega, c8, c9, c10, by omega, fun h => absurd h c13⟩])
    · have c1' : decide (evPlain e = e) = false := by simpa using c1
      simp -implicitDefEqProofs [Ev.row, he, c1']
      exact bad fun h => c1 (no h).2.1.symm
  · rw [if_neg c0]
    intro f
    simp -implicitDefEqProofs [Ev.row]
    exact bad fun h => c0 (no h).1
end Go.AI
