/- Plain laws of whole numbers and their bits. -/
import Derived.Test.YtmdlhohhimdkaaaGreatNm
import Derived.IntWalk
import Derived.Test.YtmdlhohhimdkaaaGreatFns
import Derived.Test.YtmdlhohhimdkaaaGreatAiT
set_option linter.all false
namespace Go.AI
@[simp] theorem w64 {n : Int} (h : -9223372036854775808 ≤ n ∧ n ≤ 9223372036854775807) : IntKind.i64.wrap n = n := IntWalk.i64_in n h
@[simp] theorem w8 {n : Int} (h : 0 ≤ n ∧ n ≤ 255) : IntKind.u8.wrap n = n := IntWalk.u8_in n h
@[simp] theorem wu64 {n : Int} (h : 0 ≤ n ∧ n ≤ 18446744073709551615) : IntKind.u64.wrap n = n := IntWalk.u64_in n h
@[simp] theorem wuint {n : Int} (h : 0 ≤ n ∧ n ≤ 18446744073709551615) : IntKind.u64.wrap n = n := IntWalk.u64_in n h
end Go.AI

/- For use: what is cut off a heap; loops; lists of numbers handed over. -/
set_option linter.all false
namespace Go.AI
variable {A : Type} {P : Program} {R : Adts A}
mutual
theorem ren_low {m : Nat} {τ : Nat → Nat} (ht : ∀ k, k < m → τ k = k) : ∀ v : AVal, v.ix m = true → v.ren τ = v
  | .any, _ | .bool _, _ | .int _ _, _ | .str _, _ | .nilp, _ | .nils, _ | .odd _, _ | .raw _, _ | .nilm, _ | .nilf, _ | .nili, _ | .lst _ _ _ _ _, _ | .fp _ _ _, _ => by simp [AVal.ren]
  | .ptr b o, h | .sl b o _ _ _, h | .empt b o _, h | .map b, h => by simp [AVal.ix] at h; simp [AVal.ren, ht b h]
  | .fn f a c, h => by simp only [AVal.ix, Bool.and_eq_true] at h; simp [AVal.ren, rens_low ht a h.1, rens_low ht c h.2]
  | .iface t v, h => by simp only [AVal.ix] at h; simp [AVal.ren, ren_low ht v h]
  | .agg cs, h => by simp only [AVal.ix] at h; simp [AVal.ren, rens_low ht cs h]
  | .tup cs, h => by simp only [AVal.ix] at h; simp [AVal.ren, rens_low ht cs h]
theorem rens_low {m : Nat} {τ : Nat → Nat} (ht : ∀ k, k < m → τ k = k) : ∀ l : List AVal, ixs m l = true → rens τ l = l
  | [], _ => rfl
  | v :: r, h => by simp only [ixs, Bool.and_eq_true] at h; simp [rens, ren_low ht v h.1, rens_low ht r h.2]
end
/-- An object that names the first m places alone. -/
def AObj.low (R : Adts A) (m : Nat) (o : AObj A) : Prop := o.ix R m ∧ ∀ τ : Nat → Nat, (∀ k, k < m → τ k = k) → o.ren R τ = o
theorem low_cells {m : Nat} {e : TypeId} {cs : List AVal} (h : ixs m cs = true) : AObj.low R m (.cells e cs : AObj A) := ⟨h, fun τ ht => by simp [AObj.ren, rens_low ht cs h]⟩
/-- The first m objects alone are kept. -/
theorem Gives.cut (hR : R.Ok) {n m : Nat} {h : AHeap A} {vs : List AVal} {K : List AVal → AHeap A → Prop} (hn : n ≤ m) (hm : m ≤ h.length) (hx : ixs m vs = true) (ho : ∀ o ∈ h.take m, o.low R m) (hk : K vs (h.take m)) : Gives P R n h vs K := by
  have hl : (h.take m).length = m := by simp [Nat.min_eq_left hm]
  have hat : ∀ k, k < m → at_ (List.range m) h.length k = k := fun k hk => at_get (by simp [hk])
  refine Gives.keep hR (List.range m) (h2 := h.take m) (vs2 := vs) ⟨by simp [Nat.min_eq_left hm], List.nodup_range, fun k o hk => ?_, fun o ho' => ?_⟩ ?_ (by rw [hl]; exact hx) (fun k hk => by rw [List.getElem?_range (by omega)]) (Gives.done (by omega) hk)
  · have hkm : k < m := by
      have := (List.getElem?_eq_some_iff.1 hk).1
      rw [hl] at this; exact this
    refine ⟨k, by simp [hkm], ?_⟩
    rw [(ho o (List.mem_of_getElem? hk)).2 _ hat]
    rw [List.getElem?_take] at hk
    simpa [hkm] using hk
  · rw [hl]; exact (ho o ho').1
  · rw [rens_low hat vs hx]
/-- A loop, by an invariant with a measure. -/
theorem loopP_go {B : List AVal → AHeap A → (List AVal → AHeap A → Prop) → Prop} {x : List AVal} {h : AHeap A} (I : Nat → List AVal → AHeap A → Prop) (n : Nat) (h1 : Gives P R h.length h x (I n))
    (h2 : ∀ m y g, I m y g → B y g (fun y' g' => Gives P R h.length g' y' fun z k => ∃ m', m' < m ∧ I m' z k)) : loopP (Gives P R) B x h :=
  ⟨I, n, h1, fun m y g hi => ⟨_, h2 m y g hi, fun _ _ hj => hj⟩⟩
/-- A loop that is run round by round. -/
def unr (P : Program) (R : Adts A) (n : Nat) (B : List AVal → AHeap A → (List AVal → AHeap A → Prop) → Prop) : Nat → List AVal → AHeap A → Prop
  | 0, _, _ => False
  | m + 1, x, h => B x h fun y g => Gives P R n g y (unr P R n B m)
theorem loopP_unr (m : Nat) {B : List AVal → AHeap A → (List AVal → AHeap A → Prop) → Prop} {x : List AVal} {h : AHeap A} (hu : unr P R h.length B m x h) : loopP (Gives P R) B x h :=
  ⟨fun k y g => unr P R h.length B k y g, m, Gives.done (Nat.le_refl _) hu, fun k y g hk => match k, hk with
    | 0, hk => hk.elim
    | k + 1, hk => ⟨_, hk, fun _ _ hj => hj.mono fun _ _ _ hh => ⟨k, by omega, hh⟩⟩⟩
/-- A slice of whole numbers that is handed over. -/
def IsInts (a : AVal) (l : List Int) : Prop := (a = .nils ∧ l = []) ∨ ∃ b o cap, a = .lst b o l.length cap (l.map (.int .i64))
theorem IsInts.len {a : AVal} {l : List Int} (h : IsInts a l) (K : AVal → Prop) : lenP a K = K (.int .i64 l.length) := by
  rcases h with ⟨rfl, rfl⟩ | ⟨b, o, cap, rfl⟩ <;> simp
theorem IsInts.get {a : AVal} {l : List Int} (h : IsInts a l) {n : Int} (h0 : 0 ≤ n) (h1 : n < l.length) : ∃ b o cs, ∀ K, idxP 1 a (.int .i64 n) K = K (.fp b o (.int .i64 (l.getD n.toNat 0) :: cs)) := by
  rcases h with ⟨rfl, rfl⟩ | ⟨b, o, cap, rfl⟩
  · simp at h1; omega
  · refine ⟨b, o + n.toNat * 1, (l.map (.int .i64)).drop (n.toNat + 1), fun K => ?_⟩
    have h2 : n.toNat < l.length := by omega
    rw [idxP_l K 1 b o l.length cap _ .i64 n h0 h1, Nat.mul_one, List.drop_eq_getElem_cons (by simpa using h2)]
    simp [List.getD_eq_getElem?_getD, h2]
/-- A call that makes what it names. -/
theorem Tri.make (hR : R.Ok) {f : FuncId} {us : List AVal} (hx : ixs 0 us = true) {v0 : AVal} {h0 : AHeap A} (t : Tri P R f us [] fun v h => v = v0 ∧ h = h0) {h : AHeap A} {K : AVal → AHeap A → Prop}
    (hk : K (v0.ren (h.length + ·)) (h ++ h0.map (AObj.ren R (h.length + ·)))) : Tri P R f us h K := by
  have := Tri.frame hR (Sel.nil (R := R) h) (as2 := us) hx t
  rw [rens_ix0 _ _ hx] at this
  refine this.mono ?_
  rintro v H ⟨v1, h1, ⟨rfl, rfl⟩, _, rfl, rfl⟩
  have h2 : at_ [] h.length = (h.length + ·) := by funext k; simp [at_]
  rw [h2]
  simpa [splice, setAll, h2] using hk
/-- One cell is written. -/
theorem setO_one (h : AHeap A) (b o : Nat) (v : AVal) (e : TypeId) (cs : List AVal) (hv : v.scalar = true) (ho : o < cs.length) : setO h b o [v] (.cells e cs) = some (h.set b (.cells e (cs.set o v))) := by
  rw [setO_cells _ _ _ _ _ _ ⟨by simp; omega, by simp [hv]⟩]
  have h2 : over cs o [v] = cs.set o v := by rw [List.set_eq_take_append_cons_drop]; simp [over, ho]
  rw [h2]
mutual
theorem ren_agree {m : Nat} {τ τ' : Nat → Nat} (ht : ∀ k, k < m → τ k = τ' k) : ∀ v : AVal, v.ix m = true → v.ren τ = v.ren τ'
  | .any, _ | .bool _, _ | .int _ _, _ | .str _, _ | .nilp, _ | .nils, _ | .odd _, _ | .raw _, _ | .nilm, _ | .nilf, _ | .nili, _ | .lst _ _ _ _ _, _ | .fp _ _ _, _ => by simp [AVal.ren]
  | .ptr b o, h | .sl b o _ _ _, h | .empt b o _, h | .map b, h => by simp [AVal.ix] at h; simp [AVal.ren, ht b h]
  | .fn f a c, h => by simp only [AVal.ix, Bool.and_eq_true] at h; simp [AVal.ren, rens_agree ht a h.1, rens_agree ht c h.2]
  | .iface t v, h => by simp only [AVal.ix] at h; simp [AVal.ren, ren_agree ht v h]
  | .agg cs, h => by simp only [AVal.ix] at h; simp [AVal.ren, rens_agree ht cs h]
  | .tup cs, h => by simp only [AVal.ix] at h; simp [AVal.ren, rens_agree ht cs h]
theorem rens_agree {m : Nat} {τ τ' : Nat → Nat} (ht : ∀ k, k < m → τ k = τ' k) : ∀ l : List AVal, ixs m l = true → rens τ l = rens τ' l
  | [], _ => rfl
  | v :: r, h => by simp only [ixs, Bool.and_eq_true] at h; simp [rens, ren_agree ht v h.1, rens_agree ht r h.2]
end
mutual
theorem ix_mono {m n : Nat} (hmn : m ≤ n) : ∀ v : AVal, v.ix m = true → v.ix n = true
  | .any, _ | .bool _, _ | .int _ _, _ | .str _, _ | .nilp, _ | .nils, _ | .odd _, _ | .raw _, _ | .nilm, _ | .nilf, _ | .nili, _ | .lst _ _ _ _ _, _ | .fp _ _ _, _ => by simp [AVal.ix]
  | .ptr b o, h | .sl b o _ _ _, h | .empt b o _, h | .map b, h => by simp [AVal.ix] at h ⊢; omega
  | .fn f a c, h => by simp only [AVal.ix, Bool.and_eq_true] at h ⊢; exact ⟨ixs_mono hmn a h.1, ixs_mono hmn c h.2⟩
  | .iface t v, h => by simp only [AVal.ix] at h ⊢; exact ix_mono hmn v h
  | .agg cs, h => by simp only [AVal.ix] at h ⊢; exact ixs_mono hmn cs h
  | .tup cs, h => by simp only [AVal.ix] at h ⊢; exact ixs_mono hmn cs h
theorem ixs_mono {m n : Nat} (hmn : m ≤ n) : ∀ l : List AVal, ixs m l = true → ixs n l = true
  | [], _ => rfl
  | v :: r, h => by simp only [ixs, Bool.and_eq_true] at h ⊢; exact ⟨ix_mono hmn v h.1, ixs_mono hmn r h.2⟩
end
theorem AObj.ix_mono {m n : Nat} (hmn : m ≤ n) {o : AObj A} (h : o.ix R m) : o.ix R n := by
  cases o with
  | dead => trivial
  | cells e cs => exact ixs_mono hmn cs h
  | map es ck => exact fun e he => ⟨AI.ix_mono hmn _ (h e he).1, AI.ix_mono hmn _ (h e he).2⟩
  | adt a =>
    intro g hg
    obtain ⟨h1, h2⟩ := h g hg
    refine ⟨fun v hv => AI.ix_mono hmn v (h1 v hv), fun s hs => ?_⟩
    have := h2 s hs
    cases s with
    | dead => trivial
    | cells e cs => exact ixs_mono hmn cs this
    | map es ck => exact fun e he => ⟨AI.ix_mono hmn _ (this e he).1, AI.ix_mono hmn _ (this e he).2⟩
    | adt a => trivial
end Go.AI

/- Objects without pointers are picked out of a heap. -/
set_option linter.all false
namespace Go.AI
variable {A : Type} {R : Adts A} {P : Program}
def AObj.closed (R : Adts A) (o : AObj A) : Prop := (∀ m, o.ix R m) ∧ ∀ τ, o.ren R τ = o
theorem closed_cells {t : TypeId} {cs : List AVal} (h : ixs 0 cs = true) : AObj.closed R (.cells t cs : AObj A) :=
  ⟨fun m => ixs_mono (Nat.zero_le m) cs h, fun τ => by simp only [AObj.ren]; rw [rens_ix0 τ _ h]⟩
/-- The heap goes on with the objects that are named, in their order. -/
theorem Gives.selc (hR : R.Ok) {n : Nat} (js : List Nat) (os : AHeap A) (vs2 : List AVal) {vs : List AVal} {h : AHeap A} {K : List AVal → AHeap A → Prop} (hjs : js.Nodup) (hl : js.length = os.length) (hn : ∀ k, k < n → js[k]? = some k)
    (ho : ∀ k j : Nat, js[k]? = some j → h[j]? = os[k]?) (hc : ∀ o ∈ os, o.closed R) (hv : vs = rens (at_ js h.length) vs2) (hx : ixs os.length vs2 = true) (hno : n ≤ os.length) (hk : K vs2 os) : Gives P R n h vs K := by
  refine Gives.keep hR js (h2 := os) (vs2 := vs2) ⟨hl, hjs, fun k o' hk => ?_, fun o' ho' => (hc o' ho').1 _⟩ hv hx hn (Gives.done hno hk)
  have hk2 := (List.getElem?_eq_some_iff.1 hk).1
  refine ⟨js[k]'(by omega), List.getElem?_eq_getElem (by omega), ?_⟩
  rw [(hc o' (List.mem_of_getElem? hk)).2, ho k _ (List.getElem?_eq_getElem (by omega)), hk]
end Go.AI

/- Numbers as bytes. -/
set_option linter.all false
namespace Go.AI
variable {A : Type} {R : Adts A}
abbrev Bs0 := List UInt8
/-- May it be a number? -/
def nMay (x : Int) : Bool := decide (0 ≤ x ∧ x ≤ 1073741823)
theorem field_NumMay_ok (x : Int) {h : AHeap A} {K : AVal → AHeap A → Prop} (hk : K (.bool (nMay x)) h) : Tri Pr R n_field_NumMay [.int .i64 x] h K := by
  apply c_field_NumMay
  unfold p_field_NumMay
  simp
  refine iteP_of (fun h1 => ?_) (fun h1 => ?_)
  · simp at h1
    rwa [show nMay x = decide (x ≤ 1073741823) by simp [nMay, h1]] at hk
  · simp at h1
    rwa [show nMay x = false by simp [nMay]; omega] at hk
theorem ref1_num_ok (x : Int) {h : AHeap A} {K : AVal → AHeap A → Prop} (hk : K (.bool (nMay x)) h) : Tri Pr R n_ref1_num [.int .i64 x] h K := by
  apply c_ref1_num
  unfold p_ref1_num
  simp
  refine iteP_of (fun h1 => ?_) (fun h1 => ?_)
  · simp at h1
    rwa [show nMay x = decide (x ≤ 1073741823) by simp [nMay, h1]] at hk
  · simp at h1
    rwa [show nMay x = false by simp [nMay]; omega] at hk
/-- How many bytes follow? -/
def nW (x : Int) : Int := if x < 1 then 0 else if x < 256 then 1 else if x < 65536 then 2 else if x < 16777216 then 3 else 4
/-- The bytes of a number. -/
def bb (x : Int) : UInt8 := UInt8.ofNat (x % 256).toNat
def nE (x : Int) : Bs0 :=
  if x < 1 then [0] else if x < 256 then [1, bb x] else if x < 65536 then [2, bb (x / 256), bb x] else if x < 16777216 then [3, bb (x / 65536), bb (x / 256), bb x] else [4, bb (x / 16777216), bb (x / 65536), bb (x / 256), bb x]
end Go.AI

/- Numbers, one behind the other. -/
set_option linter.all false
namespace Go.AI
variable {A : Type} {R : Adts A}
def nS (x : Int) : Bs0 := if nMay x = true then nE x else []
def nAll (l : List Int) : Bs0 := l.flatMap nS
end Go.AI

/- Numbers out of bytes, plainly. -/
set_option linter.all false
namespace Go.AI
def bAcc (l : Bs0) : Nat := l.foldl (fun x b => x * 256 + b.toNat) 0
/-- A number that stands at a place: it, where it ends, the error. -/
def gNum (s : Bs0) (at_ : Int) : Int × Int × Int :=
  if at_ < 0 ∨ (s.length : Int) < at_ then (0, 0, 100)
  else if at_ = s.length then (0, 0, 101)
  else
    let n := (s.getD at_.toNat 0).toNat
    if 4 < n then (0, 0, 100)
    else if s.length < at_.toNat + 1 + n then (0, 0, 101)
    else
      let x := bAcc ((s.drop (at_.toNat + 1)).take n)
      if nW x ≠ n ∨ 1073741823 < x then (0, 0, 100) else (x, at_ + 1 + n, 0)
end Go.AI

/- A book: its lists as one object; what its methods do. -/
set_option linter.all false
namespace Go.AI
variable {A : Type} {R : Adts A}
abbrev Bs := List UInt8
/-- A term's place. -/
def bFind (ts : List Bs) (s : Bs) : Option Nat := ts.idxOf? s
/-- A term is named: the terms behind it, the name, the error. -/
def bName (most : Int) (ts : List Bs) (s : Bs) : List Bs × Int × Int :=
  if s = [] ∨ 512 < s.length then (ts, 0, 200)
  else match bFind ts s with
    | some i => (ts, i, 0)
    | none => if most ≤ ts.length then (ts, 0, 201) else (ts ++ [s], ts.length, 0)
def bEnts : List Bs → Nat → List AEnt
  | [], _ => []
  | s :: r, i => ⟨.str s, .int .i64 i, i⟩ :: bEnts r (i + 1)
/-- What holds of a book. -/
structure bOk (m : Int) (ts : List Bs) : Prop where
  most : 1 ≤ m ∧ m ≤ 65536
  len : (ts.length : Int) ≤ m
  short : ∀ t ∈ ts, t ≠ [] ∧ t.length ≤ 512
  nd : ts.Nodup
section book
variable {mk : Int → List Bs → A}
end book
end Go.AI

/- A book's other methods; the document's book. -/
set_option linter.all false
namespace Go.AI
variable {A : Type} {R : Adts A}
theorem set_same {h : AHeap A} {b : Nat} {o : AObj A} (hb : h[b]? = some o) : h.set b o = h := by
  obtain ⟨hlt, he⟩ := List.getElem?_eq_some_iff.1 hb
  rw [← he]; exact List.set_getElem_self hlt
section book
variable {mk : Int → List Bs → A}
/-- The term of a name. -/
def bTerm (ts : List Bs) (x : Int) : Bs × Int := if 0 ≤ x ∧ x < ts.length then (ts.getD x.toNat [], 0) else ([], 202)
end book
end Go.AI

/- The document's book. -/
set_option linter.all false
namespace Go.AI
variable {A : Type} {R : Adts A}
section rbook
variable {mk : Int → List Bs → A}
end rbook
end Go.AI

/- The document's book names a term. -/
set_option linter.all false
namespace Go.AI
variable {A : Type} {R : Adts A}
section rbook
variable {mk : Int → List Bs → A}
end rbook
end Go.AI

/- Atoms; keys of epochs. -/
set_option linter.all false
namespace Go.AI
variable {A : Type} {R : Adts A}
/-- A term is made: the terms behind it, the name, the error. -/
def cMade (m : Int) (ts : List Bs) (s : Bs) : List Bs × Int × Int := if (bName m ts s).2.2 = 0 then bName m ts s else ((bName m ts s).1, 0, 300)
section craft
variable {mk : Int → List Bs → A}
/-- What is within an epoch's key. -/
def eTerm (x : Int) : Bs := [101, 112, 111, 99, 104] ++ nS x
def rKey (m : Int) (ts : List Bs) (x : Int) : List Bs × Int × Int :=
  if nMay x = true then (if (cMade m ts (65 :: eTerm x)).2.2 = 0 then cMade m ts (65 :: eTerm x) else ((cMade m ts (65 :: eTerm x)).1, 0, 1400)) else (ts, 0, 1400)
end craft
section ref
variable {mk : Int → List Bs → A}
end ref
def rLive (e now keep : Int) : Bool := nMay e && nMay now && nMay keep && decide (e ≤ now) && decide (now - e ≤ keep)
end Go.AI

/- The statements over keys of epochs. -/
set_option linter.all false
namespace Go.AI
variable {A : Type} {R : Adts A}
section
variable {bk rbk : Int → List Bs → A}
end
end Go.AI

/- RingForms. -/
set_option linter.all false
namespace Go.AI
variable {A : Type} {R : Adts A}
section
variable {bk rbk : Int → List Bs → A}
end
end Go.AI

/- Events, plainly. -/
set_option linter.all false
namespace Go.AI
/-- An event. -/
structure Ev where
  kind : Int
  user : Int
  session : Int
  address : Int
  a : Int
  b : Int
  c : Int
  tick : Int
deriving DecidableEq
def Ev.row (e : Ev) : List AVal := [.int .i64 e.kind, .int .i64 e.user, .int .i64 e.session, .int .i64 e.address, .int .i64 e.a, .int .i64 e.b, .int .i64 e.c, .int .i64 e.tick]
def ev0 : Ev := ⟨0, 0, 0, 0, 0, 0, 0, 0⟩
/-- The parts that a kind names. -/
def evParts (e : Ev) : List Int :=
  if e.kind = 0 then [e.tick] else if e.kind = 1 then [e.user, e.a, e.b, e.c] else if e.kind = 2 then [e.user, e.tick] else if e.kind = 3 then [e.user, e.a] else if e.kind = 4 then [e.user]
  else if e.kind = 5 then [e.session, e.user, e.address, e.tick] else if e.kind = 6 then [e.session, e.a, e.b, e.tick] else if e.kind = 7 then [e.user] else if e.kind = 9 then [e.session] else []
/-- An event of these parts. -/
def evOf (k : Int) (l : List Int) : Ev :=
  let z := l.getD 0 0
  let y := l.getD 1 0
  let x := l.getD 2 0
  let w := l.getD 3 0
  if k = 0 then { ev0 with kind := k, tick := z } else if k = 1 then { ev0 with kind := k, user := z, a := y, b := x, c := w } else if k = 2 then { ev0 with kind := k, user := z, tick := y }
  else if k = 3 then { ev0 with kind := k, user := z, a := y } else if k = 4 then { ev0 with kind := k, user := z } else if k = 5 then { ev0 with kind := k, session := z, user := y, address := x, tick := w }
  else if k = 6 then { ev0 with kind := k, session := z, a := y, b := x, tick := w } else if k = 7 then { ev0 with kind := k, user := z } else if k = 9 then { ev0 with kind := k, session := z } else { ev0 with kind := k }
def evCount (k : Int) : Nat := if k = 0 ∨ k = 4 ∨ k = 7 ∨ k = 9 then 1 else if k = 2 ∨ k = 3 then 2 else if k = 1 ∨ k = 5 ∨ k = 6 then 4 else 0
def evPlain (e : Ev) : Ev := evOf e.kind (evParts e)
/-- May an event be? -/
def evMay (e : Ev) : Bool :=
  decide (0 ≤ e.kind ∧ e.kind ≤ 9) && !(decide (e.kind = 6) && decide (4 < e.b)) && (evParts e).all nMay && decide (e.user < 8) && decide (e.address < 16) && decide (e.tick ≤ 1048575) && decide (e.c ≤ 1048576) && decide (e = evPlain e)
def evPut (e : Ev) : Bs0 := nAll (e.kind :: evParts e)
/-- So many numbers, one behind the other. -/
def rNums (s : Bs0) : Nat → Int → Option (List Int × Int)
  | 0, t => some ([], t)
  | n + 1, t => if (gNum s t).2.2 = 0 then (rNums s n (gNum s t).2.1).map fun r => ((gNum s t).1 :: r.1, r.2) else none
def evGet (s : Bs0) : Option Ev :=
  match rNums s 1 0 with
  | some ([k], t) => match rNums s (evCount k) t with
    | some (l, u) => if u = s.length ∧ evMay (evOf k l) = true then some (evOf k l) else none
    | none => none
  | _ => none
end Go.AI

/- Crafts, plainly: hashes, tags, seals; codes by time. -/
set_option linter.all false
namespace Go.AI
/-- A term with a key ahead is made. -/
def cKey (m : Int) (ts : List Bs) (k : UInt8) (key : Int) (s : Bs) : List Bs × Int × Int := if nMay key = true then cMade m ts (k :: (nS key ++ s)) else (ts, 0, 300)
/-- Is a tag the name of a term? -/
def cIs (ts : List Bs) (s : Bs) (tag : Int) : Bool := (bFind ts s).isSome && (((bFind ts s).getD 0 : Nat) : Int) == tag
def cIsMac (ts : List Bs) (key : Int) (s : Bs) (tag : Int) : Bool := nMay key && cIs ts (77 :: (nS key ++ s)) tag
/-- What is within a seal of a key. -/
def cOpen (ts : List Bs) (key tag : Int) : Bs × Int :=
  if nMay key = true ∧ (bTerm ts tag).2 = 0 ∧ (83 :: nS key).length ≤ (bTerm ts tag).1.length ∧ (bTerm ts tag).1.take (83 :: nS key).length = 83 :: nS key then ((bTerm ts tag).1.drop (83 :: nS key).length, 0) else ([], 301)
end Go.AI

/- Crafts. -/
set_option linter.all false
namespace Go.AI
variable {A : Type} {R : Adts A}
section craft
variable {mk : Int → List Bs → A}
end craft
section ref
variable {mk : Int → List Bs → A}
end ref
end Go.AI

/- Lists that are handed over, opened. -/
set_option linter.all false
namespace Go.AI
variable {P : Program}
end Go.AI

/- Crafts, told by equations; texts that are handed over. -/
set_option linter.all false
namespace Go.AI
variable {A : Type} {R : Adts A}
/-- A slice of texts that is handed over. -/
def IsStrs (a : AVal) (l : List Bs) : Prop := (a = .nils ∧ l = []) ∨ ∃ b o cap, a = .lst b o l.length cap (l.map .str)
theorem IsStrs.len {a : AVal} {l : List Bs} (h : IsStrs a l) (K : AVal → Prop) : lenP a K = K (.int .i64 l.length) := by
  rcases h with ⟨rfl, rfl⟩ | ⟨b, o, cap, rfl⟩ <;> simp
theorem IsStrs.ix {a : AVal} {l : List Bs} (h : IsStrs a l) {n : Nat} : a.ix n = true := by
  rcases h with ⟨rfl, rfl⟩ | ⟨b, o, cap, rfl⟩
  · rfl
  · simp [AVal.ix, ixs_all]
theorem IsStrs.get {a : AVal} {l : List Bs} (h : IsStrs a l) {n : Nat} (h1 : n < l.length) : ∃ b o cs, ∀ K, idxP 1 a (.int .i64 n) K = K (.fp b o (.str l[n] :: cs)) := by
  rcases h with ⟨rfl, rfl⟩ | ⟨b, o, cap, rfl⟩
  · simp at h1
  · refine ⟨b, o + n * 1, (l.map .str).drop (n + 1), fun K => ?_⟩
    rw [idxP_l K 1 b o l.length cap _ .i64 n (by omega) (by omega), Nat.mul_one, List.drop_eq_getElem_cons (by simpa using h1)]
    simp
/-- The terms behind the first names. -/
def bNames (m : Int) (l : List Bs) (i : Nat) : List Bs := (l.take i).foldl (fun ts s => (bName m ts s).1) []
def TwinI (q : Nat) (bk rbk : Int → List Bs → A) (m : Int) (l : List Bs) (k : Nat) (y : List AVal) (g : AHeap A) : Prop :=
  ∃ i : Nat, y = [.int .i64 i] ∧ g = [.adt (bk m (bNames m l i)), .adt (rbk m (bNames m l i))] ∧ i ≤ l.length ∧ i ≤ q ∧ k = q - i
section
variable {mk : Int → List Bs → A}
end
end Go.AI

/- Twins of books, the statements of layer 3. -/
set_option linter.all false
namespace Go.AI
variable {A : Type} {R : Adts A}
section
variable {bk rbk : Int → List Bs → A}
end
end Go.AI

/- Crafts: what every program answers that is one; any book, keys, texts, tags. -/
set_option linter.all false
namespace Go.AI
variable {A : Type} {R : Adts A}
section
variable {bk rbk : Int → List Bs → A}
end
end Go.AI

/- CraftForms, CraftUnlike. -/
set_option linter.all false
namespace Go.AI
variable {A : Type} {R : Adts A}
def zCells (n : Nat) : List AVal := (List.replicate n [AVal.int .u8 0]).flatten
def ErrJ (v : Int) (o : AHeap A) (vs : List AVal) (g : AHeap A) : Prop := vs = [.int .i64 v] ∧ g = o
section
variable {bk rbk : Int → List Bs → A}
end
end Go.AI

/- CraftUnlike. -/
set_option linter.all false
namespace Go.AI
variable {A : Type} {R : Adts A}
section
variable {bk rbk : Int → List Bs → A}
end
end Go.AI

/- CraftSeals. -/
set_option linter.all false
namespace Go.AI
variable {A : Type} {R : Adts A}
/-- Names that were told, behind one object. -/
def TRow (o : AObj A) (tags : List Int) (x : AVal) (g : AHeap A) : Prop :=
  (tags = [] ∧ x = .nils ∧ g = [o]) ∨ (tags ≠ [] ∧ x = .sl 1 0 tags.length tags.length false ∧ g = [o, .cells t_int (tags.map (.int .i64))])
section
variable {bk rbk : Int → List Bs → A}
def SealsI (bk : Int → List Bs → A) (keys : List Int) (texts : List Bs) (n : Nat) (m : Nat) (y : List AVal) (g : AHeap A) : Prop :=
  ∃ (j : Nat) (ts : List Bs) (tags : List Int) (x : AVal), y = [x, .int .i64 j] ∧ TRow (.adt (bk 999 ts)) tags x g ∧ bOk 999 ts ∧ ts.length ≤ j ∧ tags.length = j ∧
    (∀ i, i < j → bTerm ts (tags.getD i 0) = (83 :: (nS (keys.getD i 0 % 16) ++ texts.getD i []), 0)) ∧ j ≤ n ∧ m = n - j
def SealsO (h : AHeap A) (n : Nat) (m : Nat) (y : List AVal) (g : AHeap A) : Prop := ∃ j : Nat, y = [.int .i64 j] ∧ g = h ∧ j ≤ n ∧ m = n - j
end
end Go.AI

/- Codes by time. -/
set_option linter.all false
namespace Go.AI
variable {A : Type} {R : Adts A}
def tMay (x : Int) : Bool := decide (0 ≤ x ∧ x ≤ 1048575)
/-- A tick's step. -/
def tStep (x : Int) : Int := if 0 ≤ x ∧ x ≤ 1048575 then x / 30 + 1 else 0
theorem totp_TickMay_ok (x : Int) {h : AHeap A} {K : AVal → AHeap A → Prop} (hk : K (.bool (tMay x)) h) : Tri Pr R n_totp_TickMay [.int .i64 x] h K := by
  apply c_totp_TickMay
  unfold p_totp_TickMay
  by_cases h1 : 0 ≤ x
  · by_cases h2 : x ≤ 1048575
    · simp [tMay, h1, h2] at hk; simp -implicitDefEqProofs [h1, h2]; exact hk
    · simp [tMay, h1, h2] at hk; simp -implicitDefEqProofs [h1, h2]; exact hk
  · simp [tMay, h1] at hk; simp -implicitDefEqProofs [h1]; exact hk
def cTerm (x : Int) : Bs := 99 :: 111 :: 100 :: 101 :: nS x
/-- A step's code. -/
def tCode (m : Int) (ts : List Bs) (secret step : Int) : List Bs × Int × Int :=
  if 1 ≤ step ∧ step ≤ 1048575 then (if (cKey m ts 77 secret (cTerm step)).2.2 = 0 then cKey m ts 77 secret (cTerm step) else ((cKey m ts 77 secret (cTerm step)).1, 0, 1200)) else (ts, 0, 1200)
/-- The least step that is right. -/
def tTry (f : Int → Bool) (last e : Int) : Nat → Int → Int × Bool
  | 0, _ => (0, false)
  | n + 1, s => if last < s ∧ f s = true then (s, true) else tTry f last e n (s + 1)
def tAccept (f : Int → Bool) (last tick : Int) : Int × Bool :=
  if tStep tick = 0 then (0, false) else tTry f last (tStep tick + 1) (tStep tick + 2 - max 1 (tStep tick - 1)).toNat (max 1 (tStep tick - 1))
section
variable {mk : Int → List Bs → A}
end
end Go.AI

/- The boot's sectors, plainly. -/
set_option linter.all false
namespace Go.AI
def pad (s : Bs) : Bs := s ++ List.replicate (64 - s.length) 0
def supT (boot : Int) : Bs := 72 :: 115 :: 117 :: 112 :: 101 :: 114 :: nS boot
def bootMay (x : Int) : Bool := decide (1 ≤ x ∧ x ≤ 1023)
/-- A boot is written: the terms behind it, the sector, the error. -/
def sPut (m : Int) (ts : List Bs) (boot : Int) : List Bs × Bs × Int :=
  if bootMay boot = true then (if (cMade m ts (supT boot)).2.2 = 0 then ((cMade m ts (supT boot)).1, pad (nS boot ++ nS (cMade m ts (supT boot)).2.1), 0) else ((cMade m ts (supT boot)).1, [], 1000)) else (ts, [], 1000)
/-- A boot is read. -/
def sGet (ts : List Bs) (s : Bs) : Int × Int :=
  if (gNum s 0).2.2 ≠ 0 then (0, 1000)
  else if (gNum s (gNum s 0).2.1).2.2 ≠ 0 then (0, 1000)
  else if s.length ≠ 64 ∨ bootMay (gNum s 0).1 = false ∨ cIs ts (supT (gNum s 0).1) (gNum s (gNum s 0).2.1).1 = false ∨ s.drop (gNum s (gNum s 0).2.1).2.1.toNat ≠ List.replicate (64 - (gNum s (gNum s 0).2.1).2.1.toNat) 0 then (0, 1000)
  else ((gNum s 0).1, 0)
def sPick (ts : List Bs) (one two : Bs) : Int × Int × Int :=
  if (sGet ts one).2 ≠ 0 ∧ (sGet ts two).2 ≠ 0 then (0, 0, 1001)
  else if (sGet ts one).2 = 0 ∧ (sGet ts two).1 ≤ (sGet ts one).1 then ((sGet ts one).1, 1, 0)
  else ((sGet ts two).1, 0, 0)
end Go.AI

/- Records, plainly. -/
set_option linter.all false
namespace Go.AI
theorem evMay_kind {e : Ev} (h : evMay e = true) : 0 ≤ e.kind ∧ e.kind ≤ 9 := by
  unfold evMay at h
  simp only [Bool.and_eq_true] at h
  simpa using h.1.1.1.1.1.1.1
theorem evMay_parts {e : Ev} (h : evMay e = true) : ∀ x ∈ evParts e, nMay x = true := by
  unfold evMay at h
  simp only [Bool.and_eq_true] at h
  simpa using h.1.1.1.1.1.2
theorem evMay_plain {e : Ev} (h : evMay e = true) : e = evPlain e := by
  unfold evMay at h
  simp only [Bool.and_eq_true] at h
  simpa using h.2
/-- A text that stands at a place. -/
def gText (s : Bs0) (t : Int) : Bs0 × Int × Int :=
  if (gNum s t).2.2 ≠ 0 then ([], 0, (gNum s t).2.2)
  else if 65536 < (gNum s t).1 then ([], 0, 100)
  else if (s.length : Int) - (gNum s t).2.1 < (gNum s t).1 then ([], 0, 101)
  else ((s.drop (gNum s t).2.1.toNat).take (gNum s t).1.toNat, (gNum s t).2.1 + (gNum s t).1, 0)
/-- A record. -/
structure Rec where
  seq : Int
  boot : Int
  prev : Int
  ev : Ev
deriving DecidableEq
def Rec.row (r : Rec) : List AVal := .int .i64 r.seq :: .int .i64 r.boot :: .int .i64 r.prev :: r.ev.row
def rec0 : Rec := ⟨0, 0, 0, ev0⟩
def recBody (r : Rec) : Bs0 := nAll [r.seq, r.boot, r.prev] ++ (nS (evPut r.ev).length ++ evPut r.ev)
def recMay (r : Rec) : Bool := evMay r.ev && decide (1 ≤ r.seq) && nMay r.seq && decide (1 ≤ r.boot) && nMay r.boot && nMay r.prev && decide ((evPut r.ev).length ≤ 44)
def recT (r : Rec) : Bs0 := 72 :: 114 :: 101 :: 99 :: 111 :: 114 :: 100 :: recBody r
/-- A record is written: the terms behind it, the sector, the name, the error. -/
def recPut (m : Int) (ts : List Bs0) (r : Rec) : List Bs0 × Bs0 × Int × Int :=
  if recMay r = true then
    (if (cMade m ts (recT r)).2.2 = 0 then (if (recBody r ++ nS (cMade m ts (recT r)).2.1).length ≤ 64 then ((cMade m ts (recT r)).1, pad (recBody r ++ nS (cMade m ts (recT r)).2.1), (cMade m ts (recT r)).2.1, 0) else ((cMade m ts (recT r)).1, [], 0, 900))
     else ((cMade m ts (recT r)).1, [], 0, 900))
  else (ts, [], 0, 900)
/-- A record is read. -/
def recRead (ts : List Bs0) (s : Bs0) : Option (Rec × Int) :=
  match rNums s 3 0 with
  | some ([q, b, p], t) =>
    if (gText s t).2.2 ≠ 0 then none
    else match evGet (gText s t).1 with
      | some e =>
        if (gNum s (gText s t).2.1).2.2 ≠ 0 then none
        else if s.length ≠ 64 ∨ recMay ⟨q, b, p, e⟩ = false ∨ cIs ts (recT ⟨q, b, p, e⟩) (gNum s (gText s t).2.1).1 = false ∨ s.drop (gNum s (gText s t).2.1).2.1.toNat ≠ List.replicate (64 - (gNum s (gText s t).2.1).2.1.toNat) 0 then none
        else some (⟨q, b, p, e⟩, (gNum s (gText s t).2.1).1)
      | none => none
  | _ => none
def recGet (ts : List Bs0) (s : Bs0) (seq prev : Int) : Rec × Int × Int :=
  match recRead ts s with
  | none => (rec0, 0, 900)
  | some (r, n) => if r.seq ≠ seq ∨ r.prev ≠ prev then (rec0, 0, 901) else (r, n, 0)
end Go.AI

/- Events and records that are handed in. -/
set_option linter.all false
namespace Go.AI
/-- A slice of structs that is handed in. -/
def IsRows {α : Type} (f : α → List AVal) (a : AVal) (l : List α) : Prop := (a = .nils ∧ l = []) ∨ ∃ b o cap, a = .lst b o l.length cap (l.flatMap f)
theorem rows_drop {α β : Type} {f : α → List β} {n : Nat} (hf : ∀ x, (f x).length = n) : ∀ (l : List α) (i : Nat) (h : i < l.length), (l.flatMap f).drop (i * n) = f l[i] ++ (l.drop (i + 1)).flatMap f
  | [], i, h => by simp at h
  | a :: r, 0, h => by simp
  | a :: r, i + 1, h => by
    have := rows_drop hf r i (by simpa using h)
    have e1 : (i + 1) * n = (f a).length + i * n := by rw [hf, Nat.succ_mul]; omega
    rw [e1, ← List.drop_drop, List.flatMap_cons, List.drop_left, this]
    simp
theorem IsRows.len {α : Type} {f : α → List AVal} {a : AVal} {l : List α} (h : IsRows f a l) (K : AVal → Prop) : lenP a K = K (.int .i64 l.length) := by
  rcases h with ⟨rfl, rfl⟩ | ⟨b, o, cap, rfl⟩ <;> simp
theorem IsRows.get {α : Type} {f : α → List AVal} {w : Nat} (hf : ∀ x, (f x).length = w) {a : AVal} {l : List α} (h : IsRows f a l) {n : Int} (h0 : 0 ≤ n) (h1 : n < l.length) : ∃ x b o cs, l[n.toNat]? = some x ∧ ∀ K, idxP w a (.int .i64 n) K = K (.fp b o (f x ++ cs)) := by
  rcases h with ⟨rfl, rfl⟩ | ⟨b, o, cap, rfl⟩
  · simp at h1; omega
  · have h2 : n.toNat < l.length := by omega
    refine ⟨l[n.toNat], b, o + n.toNat * w, (l.drop (n.toNat + 1)).flatMap f, List.getElem?_eq_getElem h2, fun K => ?_⟩
    rw [idxP_l K w b o l.length cap _ .i64 n h0 h1, rows_drop hf l n.toNat h2]
end Go.AI

/- Slices of rows: what can be read, what is never written again, what is owned. -/
set_option linter.all false
namespace Go.AI
variable {A : Type} {R : Adts A} {α : Type} {f : α → List AVal} {w : Nat}
/-- How an element is told in cells. -/
structure RowOk (f : α → List AVal) (w : Nat) : Prop where
  pos : 0 < w
  len : ∀ x, (f x).length = w
  ix : ∀ x, ixs 0 (f x) = true
  sc : ∀ x, (f x).all AVal.scalar = true
theorem rows_len (hf : RowOk f w) (l : List α) : (l.flatMap f).length = l.length * w := by
  induction l with
  | nil => simp
  | cons x r ih => simp only [List.flatMap_cons, List.length_append, hf.len, ih, List.length_cons, Nat.succ_mul]; omega
theorem rows_ix (hf : RowOk f w) (l : List α) : ixs 0 (l.flatMap f) = true := by
  rw [ixs_all]
  simp only [List.all_flatMap, List.all_eq_true]
  intro x _
  have := hf.ix x
  rw [ixs_all, List.all_eq_true] at this
  exact this
theorem rows_sc (hf : RowOk f w) (l : List α) : (l.flatMap f).all AVal.scalar = true := by
  rw [List.all_flatMap, List.all_eq_true]; exact fun x _ => hf.sc x
theorem rows_dropn (hf : RowOk f w) (l : List α) (i : Nat) : (l.flatMap f).drop (i * w) = (l.drop i).flatMap f := by
  induction l generalizing i with
  | nil => simp
  | cons x r ih =>
    cases i with
    | zero => simp
    | succ i =>
      have e1 : (i + 1) * w = (f x).length + i * w := by rw [hf.len, Nat.succ_mul]; omega
      rw [e1, ← List.drop_drop, List.flatMap_cons, List.drop_left, ih]
      simp
theorem rows_taken (hf : RowOk f w) (l : List α) (i : Nat) : (l.flatMap f).take (i * w) = (l.take i).flatMap f := by
  induction l generalizing i with
  | nil => simp
  | cons x r ih =>
    cases i with
    | zero => simp
    | succ i =>
      have e1 : (i + 1) * w = (f x).length + i * w := by rw [hf.len, Nat.succ_mul]; omega
      rw [e1, List.flatMap_cons, List.take_length_add_append, ih]
      simp
theorem rows_at (hf : RowOk f w) (l : List α) (i : Nat) (hi : i < l.length) : ((l.flatMap f).drop (i * w)).take w = f l[i] := by
  rw [rows_dropn hf, List.drop_eq_getElem_cons hi, List.flatMap_cons]
  conv => lhs; rw [← hf.len l[i], List.take_left]
theorem rows_set (hf : RowOk f w) (l : List α) (i : Nat) (hi : i < l.length) (x : α) : over (l.flatMap f) (i * w) (f x) = (l.set i x).flatMap f := by
  unfold over
  rw [rows_taken hf, hf.len, show i * w + w = (i + 1) * w by rw [Nat.succ_mul], rows_dropn hf, List.set_eq_take_append_cons_drop, if_pos hi]
  simp
/-- A pointer's field. -/
def AVal.fad (off : Nat) : AVal → AVal
  | .ptr b o => .ptr b (o + off)
  | .fp b o cs => .fp b (o + off) (cs.drop off)
  | v => v
/-- A pointer to cells that can be read. -/
structure At (p : AVal) (c : List AVal) (h : AHeap A) : Prop where
  nn : ∀ K, nilP p K = K p
  fad : ∀ off K, fadP off p K = K (p.fad off)
  fad2 : ∀ a b K, fadP b (p.fad a) K = K (p.fad (a + b))
  all : ldV c.length true p h = some (.agg c)
  cell : ∀ (off : Nat) (hi : off < c.length), ldV 1 false (p.fad off) h = some c[off]
  sub : ∀ off n : Nat, off + n ≤ c.length → ldV n true (p.fad off) h = some (.agg ((c.drop off).take n))
  eqn : ∀ K, binP .eql .ptr p .nilp K = K (.bool false)
  nen : ∀ K, binP .neq .ptr p .nilp K = K (.bool true)
  sc : p.scalar = true
theorem At.ptr {b o : Nat} {e : TypeId} {cs c : List AVal} {h : AHeap A} (hb : h[b]? = some (.cells e cs)) (hl : o + c.length ≤ cs.length) (hc : (cs.drop o).take c.length = c) : At (.ptr b o) c h := by
  have hca : cellsAt h b = some cs := by simp [cellsAt, hb, AObj.read]
  have hg : ∀ off, off < c.length → cs[o + off]? = c[off]? := by
    intro off hoff
    conv => rhs; rw [← hc]
    rw [List.getElem?_take, if_pos hoff, List.getElem?_drop]
  refine ⟨fun K => rfl, fun off K => rfl, fun a b K => by simp [AVal.fad, fadP, Nat.add_assoc], ?_, fun off hi => ?_, fun off n hn => ?_, fun K => by simp, fun K => by simp, rfl⟩
  · simp only [ldV, hca, if_true]; rw [if_pos hl, hc]
  · simp only [AVal.fad, ldV, hca, Bool.false_eq_true, if_false]; rw [hg off hi, List.getElem?_eq_getElem hi]
  · simp only [AVal.fad, ldV, hca, if_true]
    rw [if_pos (by omega)]
    congr 2
    conv => rhs; rw [← hc]
    rw [List.drop_take, List.drop_drop, List.take_take, Nat.min_eq_left (by omega)]
theorem At.fp {b o : Nat} {cs c : List AVal} {h : AHeap A} (hl : c.length ≤ cs.length) (hc : cs.take c.length = c) : At (.fp b o cs) c h := by
  have hg : ∀ off, off < c.length → cs[off]? = c[off]? := by
    intro off hoff
    conv => rhs; rw [← hc]
    rw [List.getElem?_take, if_pos hoff]
  refine ⟨fun K => rfl, fun off K => rfl, fun a b K => by simp [AVal.fad, fadP, Nat.add_assoc, List.drop_drop], ?_, fun off hi => ?_, fun off n hn => ?_, fun K => by simp, fun K => by simp, rfl⟩
  · simp only [ldV, if_true]; rw [if_pos hl, hc]
  · simp only [AVal.fad, ldV, Bool.false_eq_true, if_false, List.getElem?_drop, Nat.add_zero]; rw [hg off hi, List.getElem?_eq_getElem hi]
  · simp only [AVal.fad, ldV, if_true, List.length_drop]
    rw [if_pos (by omega)]
    congr 2
    conv => rhs; rw [← hc]
    rw [List.drop_take, List.take_take, Nat.min_eq_left (by omega)]
/-- A slice that can be read. -/
structure RdS (f : α → List AVal) (w : Nat) (a : AVal) (l : List α) (h : AHeap A) : Prop where
  len : ∀ K : AVal → Prop, lenP a K = K (.int .i64 l.length)
  get : ∀ (i : Nat) (hi : i < l.length), ∃ p, (∀ K, idxP w a (.int .i64 i) K = K p) ∧ At p (f l[i]) h
  src : srcOf w h a = some (l.length, l.flatMap f)
  sc : a.scalar = true
/-- A slice that is never written again. -/
def IsFz (f : α → List AVal) (a : AVal) (l : List α) : Prop := (a = .nils ∧ l = []) ∨ (∃ b o cap, a = .lst b o l.length cap (l.flatMap f)) ∨ (l = [] ∧ ∃ x, a = .odd x)
theorem IsFz.nil : IsFz f .nils [] := .inl ⟨rfl, rfl⟩
theorem IsFz.ix {a : AVal} {l : List α} (h : IsFz f a l) : ixs 0 [a] = true := by
  rcases h with ⟨rfl, _⟩ | ⟨b, o, cap, rfl⟩ | ⟨_, x, rfl⟩ <;> rfl
theorem IsFz.ix0 {a : AVal} {l : List α} (h : IsFz f a l) : a.ix 0 = true := by
  rcases h with ⟨rfl, _⟩ | ⟨b, o, cap, rfl⟩ | ⟨_, x, rfl⟩ <;> rfl
theorem IsFz.sc {a : AVal} {l : List α} (h : IsFz f a l) : a.scalar = true := by
  rcases h with ⟨rfl, _⟩ | ⟨b, o, cap, rfl⟩ | ⟨_, x, rfl⟩ <;> rfl
theorem IsFz.rd (hf : RowOk f w) {a : AVal} {l : List α} (ha : IsFz f a l) (h : AHeap A) : RdS f w a l h := by
  rcases ha with ⟨rfl, rfl⟩ | ⟨b, o, cap, rfl⟩ | ⟨rfl, x, rfl⟩
  · exact ⟨fun K => by simp, fun i hi => by simp at hi, rfl, rfl⟩
  · refine ⟨fun K => by simp, fun i hi => ?_, by simp [srcOf, rows_len hf], rfl⟩
    refine ⟨.fp b (o + i * w) ((l.flatMap f).drop (i * w)), fun K => by simp [idxP, hi], At.fp ?_ ?_⟩
    · rw [hf.len, List.length_drop, rows_len hf]
      have : (i + 1) * w ≤ l.length * w := Nat.mul_le_mul_right w hi
      rw [Nat.succ_mul] at this; omega
    · rw [hf.len, rows_at hf l i hi]
  · exact ⟨fun K => by simp, fun i hi => by simp at hi, rfl, rfl⟩
/-- A slice that is owned. -/
def Own (f : α → List AVal) (w : Nat) (e : TypeId) (a : AVal) (l : List α) (h : AHeap A) : Prop :=
  (a = .nils ∧ l = []) ∨ ∃ b cap ex cs, a = .sl b 0 l.length cap ex ∧ h[b]? = some (.cells e cs) ∧ cs.length = cap * w ∧ l.length ≤ cap ∧ cs.take (l.length * w) = l.flatMap f ∧ ixs 0 cs = true
theorem Own.nil {e : TypeId} {h : AHeap A} : Own f w e .nils [] h := .inl ⟨rfl, rfl⟩
theorem Own.new (hf : RowOk f w) {e : TypeId} {b cap : Nat} {ex : Bool} {l : List α} {h : AHeap A} (hb : h[b]? = some (.cells e (l.flatMap f))) (hc : cap = l.length) : Own f w e (.sl b 0 l.length cap ex) l h := by
  subst hc
  refine .inr ⟨b, _, ex, _, rfl, hb, rows_len hf l, Nat.le_refl _, ?_, rows_ix hf l⟩
  rw [← rows_len hf l, List.take_length]
theorem Own.sc {e : TypeId} {a : AVal} {l : List α} {h : AHeap A} (ha : Own f w e a l h) : a.scalar = true := by
  rcases ha with ⟨rfl, _⟩ | ⟨b, cap, ex, cs, rfl, _⟩ <;> rfl
theorem Own.rd (hf : RowOk f w) {e : TypeId} {a : AVal} {l : List α} {h : AHeap A} (ha : Own f w e a l h) : RdS f w a l h := by
  rcases ha with ⟨rfl, rfl⟩ | ⟨b, cap, ex, cs, rfl, hb, hl, hc, ht, hx⟩
  · exact ⟨fun K => by simp, fun i hi => by simp at hi, rfl, rfl⟩
  · have hlw : l.length * w ≤ cs.length := by rw [hl]; exact Nat.mul_le_mul_right w hc
    have hca : cellsAt h b = some cs := by simp [cellsAt, hb, AObj.read]
    refine ⟨fun K => by simp, fun i hi => ?_, ?_, rfl⟩
    · have h1 : (i + 1) * w ≤ l.length * w := Nat.mul_le_mul_right w hi
      rw [Nat.succ_mul] at h1
      refine ⟨.ptr b (0 + i * w), fun K => by simp [idxP, hi], At.ptr hb ?_ ?_⟩
      · rw [hf.len]; omega
      · rw [hf.len, ← rows_at hf l i hi, ← ht, List.drop_take, List.take_take, Nat.min_eq_left (by omega), Nat.zero_add]
    · simp only [srcOf, hca, Nat.zero_add, List.drop_zero]
      rw [if_pos hlw, ht]
/-- It stays owned over another heap that has its object. -/
theorem Own.move {e : TypeId} {a : AVal} {l : List α} {h h' : AHeap A} (ha : Own f w e a l h) (hh : ∀ b o len cap ex, a = .sl b o len cap ex → h'[b]? = h[b]?) : Own f w e a l h' := by
  rcases ha with ⟨rfl, rfl⟩ | ⟨b, cap, ex, cs, rfl, hb, hr⟩
  · exact .inl ⟨rfl, rfl⟩
  · exact .inr ⟨b, cap, ex, cs, rfl, (hh b 0 _ _ _ rfl).trans hb, hr⟩
/-- Its block. -/
def AVal.blk : AVal → Option Nat
  | .sl b _ _ _ _ => some b
  | _ => none
theorem Own.at {e : TypeId} {a : AVal} {l : List α} {h : AHeap A} (ha : Own f w e a l h) {b : Nat} (hb : a.blk = some b) : ∃ cs, h[b]? = some (.cells e cs) := by
  rcases ha with ⟨rfl, rfl⟩ | ⟨b', cap, ex, cs, rfl, hb', hr⟩
  · simp [AVal.blk] at hb
  · simp [AVal.blk] at hb; subst hb; exact ⟨cs, hb'⟩
theorem Own.move' {e : TypeId} {a : AVal} {l : List α} {h h' : AHeap A} (ha : Own f w e a l h) (hh : ∀ b, a.blk = some b → h'[b]? = h[b]?) : Own f w e a l h' :=
  ha.move fun b o len cap ex he => hh b (by rw [he]; rfl)
end Go.AI

/- Slices of rows: freezing what is owned, appends. -/
set_option linter.all false
namespace Go.AI
variable {A : Type} {R : Adts A} {α : Type} {f : α → List AVal} {w : Nat}
section
variable (i blk base spare sz : Nat) (cs : List AVal)
mutual
theorem frz_ix0 : ∀ v : AVal, v.ix 0 = true → v.frz i blk base spare sz cs = v
  | .any, _ | .bool _, _ | .int _ _, _ | .str _, _ | .nilp, _ | .nils, _ | .odd _, _ | .raw _, _ | .nilm, _ | .nilf, _ | .nili, _ | .lst _ _ _ _ _, _ | .fp _ _ _, _ => by simp [AVal.frz]
  | .ptr b o, h | .sl b o _ _ _, h | .empt b o _, h | .map b, h => by simp [AVal.ix] at h
  | .fn f a c, h => by simp only [AVal.ix, Bool.and_eq_true] at h; simp [AVal.frz, frzs_ix0 a h.1, frzs_ix0 c h.2]
  | .iface t v, h => by simp only [AVal.ix] at h; simp [AVal.frz, frz_ix0 v h]
  | .agg l, h => by simp only [AVal.ix] at h; simp [AVal.frz, frzs_ix0 l h]
  | .tup l, h => by simp only [AVal.ix] at h; simp [AVal.frz, frzs_ix0 l h]
theorem frzs_ix0 : ∀ l : List AVal, ixs 0 l = true → frzs i blk base spare sz cs l = l
  | [], _ => rfl
  | v :: r, h => by simp only [ixs, Bool.and_eq_true] at h; simp [frzs, frz_ix0 v h.1, frzs_ix0 r h.2]
end
end
theorem Own.frz {e : TypeId} {a : AVal} {l : List α} {h : AHeap A} (ha : Own f w e a l h) {i blk base spare sz : Nat} {cs : List AVal} (hi : a.blk ≠ some i) : a.frz i blk base spare sz cs = a := by
  rcases ha with ⟨rfl, _⟩ | ⟨b, cap, ex, cs', rfl, _⟩
  · rfl
  · have : b ≠ i := fun h => hi (by rw [h]; rfl)
    simp [AVal.frz, this]
/-- What is owned is never written again. -/
theorem Gives.fzO (hf : RowOk f w) {e : TypeId} {a : AVal} {l : List α} {h : AHeap A} {n : Nat} (V : AVal → List AVal) {K : List AVal → AHeap A → Prop} (ha : Own f w e a l h)
    (hV : ∀ b, a.blk = some b → ∀ blk base spare cs, frzs b blk base spare w cs (V a) = V (a.frz b blk base spare w cs)) (hn : n ≤ h.length)
    (hk : ∀ a', IsFz f a' l → ∀ h' : AHeap A, h'.length = h.length → (∀ k e cs, a.blk ≠ some k → h[k]? = some (.cells e cs) → ixs 0 cs = true → h'[k]? = some (.cells e cs)) → Gives Pr R n h' (V a') K) : Gives Pr R n h (V a) K := by
  rcases ha with ⟨rfl, rfl⟩ | ⟨b, cap, ex, cs, rfl, hb, hl, hc, ht, hx⟩
  · exact hk _ IsFz.nil h rfl (fun _ _ _ _ h _ => h)
  · refine Gives.freeze b w hb hx hn fun blk base spare => ?_
    rw [hV b rfl]
    have e1 : (AVal.sl b 0 l.length cap ex).frz b blk base spare w cs = .lst blk (base + 0) l.length (if ex = true then cap else cap + spare) (l.flatMap f) := by
      simp [AVal.frz, ht]
    rw [e1]
    refine hk _ (.inr (.inl ⟨_, _, _, rfl⟩)) _ (by simp) fun k e' cs' hkb hk' hx' => ?_
    have hne : b ≠ k := fun h => hkb (by rw [h]; rfl)
    rw [List.getElem?_map, List.getElem?_set_ne hne, hk']
    simp [AObj.frz, frzs_ix0 _ _ _ _ _ _ _ hx']
/-- A function of values alone, whose answer is told in values. -/
theorem Tri.fzfn (hR : R.Ok) {g : FuncId} {xs : List AVal} (Q : AVal → Prop) (hx : ixs 0 xs = true) (t : Tri Pr R g xs [] fun v h => Gives Pr R 0 h [v] fun vs _ => ∃ u, vs = [u] ∧ Q u ∧ u.ix 0 = true) {h : AHeap A} {K : AVal → AHeap A → Prop}
    (hk : ∀ v, Q v → v.ix 0 = true → K v h) : Tri Pr R g xs h K :=
  Tri.fn hR Q hx (Tri.post t) hk
/-- A copy of what can be read, behind an empty one. -/
theorem app_clone (hf : RowOk f w) {e : TypeId} {bytes q : Nat} {y : AVal} {l : List α} {h : AHeap A} {K : AVal → AHeap A → Prop} (hb : 0 < bytes) (hq : h[q]? = some (.cells e [])) (hy : srcOf w h y = some (l.length, l.flatMap f)) (hn : l.length * bytes ≤ 140737488355328)
    (hk : if l = [] then K (.sl q 0 0 0 true) h else K (.sl h.length 0 l.length l.length false) (h ++ [.cells e (l.flatMap f)])) : appP e w bytes (.sl q 0 0 0 true) y h K := by
  unfold appP appV
  rw [hy]
  dsimp only
  by_cases h0 : l = []
  · subst h0
    rw [if_pos rfl] at hk
    rw [if_pos (by simp)]
    have hset : setAt h q (0 + 0 * w) [] = some h := by
      unfold setAt
      rw [hq]
      dsimp only
      rw [if_pos ⟨by simp, rfl⟩]
      have : over ([] : List AVal) (0 + 0 * w) [] = [] := by simp [over]
      rw [this, set_same hq]
    simp only [List.flatMap_nil, hset, Option.map_some, optH, List.length_nil, Nat.add_zero]
    exact hk
  · have hl : 0 < l.length := List.length_pos_iff.2 h0
    rw [if_neg h0] at hk
    rw [if_neg (by omega), hq]
    dsimp only
    rw [if_pos ⟨hb, by simp, .inl ⟨rfl, rfl, by rw [Nat.zero_add]; exact hn⟩⟩, if_pos rfl]
    simp only [optH, Nat.zero_add, Nat.zero_mul, List.take_zero, List.nil_append]
    exact hk
/-- What is owned is lengthened. -/
theorem app_own (hf : RowOk f w) {e : TypeId} {bytes : Nat} {a y : AVal} {l l2 : List α} {h : AHeap A} {K : AVal → AHeap A → Prop} (ha : Own f w e a l h) (hb : 0 < bytes) (hy : srcOf w h y = some (l2.length, l2.flatMap f)) (hn : (2 * (l.length + l2.length) + 1000) * bytes ≤ 140737488355328)
    (hk : ∀ a' h', Own f w e a' (l ++ l2) h' → (∀ k, k < h.length → a.blk ≠ some k → h'[k]? = h[k]?) → h.length ≤ h'.length → (∀ b, a'.blk = some b → a.blk = some b ∨ h.length ≤ b) → K a' h') : appP e w bytes a y h K := by
  unfold appP appV
  rw [hy]
  dsimp only
  have hn2 : l2.length * bytes ≤ 140737488355328 := Nat.le_trans (Nat.mul_le_mul_right _ (by omega)) hn
  rcases ha with ⟨rfl, rfl⟩ | ⟨b, cap, ex, cs, rfl, hq, hl, hc, ht, hx⟩
  · dsimp only
    by_cases h0 : l2 = []
    · subst h0
      rw [if_pos (by simp)]
      exact hk _ _ Own.nil (fun _ _ _ => rfl) (Nat.le_refl _) (fun b hb => .inl hb)
    · have hl : 0 < l2.length := List.length_pos_iff.2 h0
      rw [if_neg (by omega), if_pos ⟨hb, hn2⟩]
      refine hk _ _ (Own.new hf (l := l2) (by simp) rfl) (fun k hk _ => by rw [List.getElem?_append_left hk]) (by simp) (fun b hb => .inr ?_)
      simp [AVal.blk] at hb; omega
  · have hblt := (List.getElem?_eq_some_iff.1 hq).1
    have hsc := rows_sc hf l2
    have hlen2 := rows_len hf l2
    have hlw : l.length * w ≤ cs.length := by rw [hl]; exact Nat.mul_le_mul_right w hc
    dsimp only
    by_cases hfit : l.length + l2.length ≤ cap
    · rw [if_pos hfit]
      have h9 : l.length * w + l2.length * w ≤ cs.length := by rw [hl, ← Nat.add_mul]; exact Nat.mul_le_mul_right w hfit
      have hset : setAt h b (0 + l.length * w) (l2.flatMap f) = some (h.set b (.cells e (over cs (0 + l.length * w) (l2.flatMap f)))) := by
        unfold setAt
        rw [hq]
        dsimp only
        rw [if_pos ⟨by rw [hlen2]; omega, hsc⟩]
      rw [hset]
      simp only [Option.map_some, optH]
      have e2 : over cs (0 + l.length * w) (l2.flatMap f) = (l ++ l2).flatMap f ++ cs.drop (l.length * w + l2.length * w) := by
        unfold over
        rw [Nat.zero_add, ht, hlen2, List.flatMap_append]
      have hll : ((l ++ l2).flatMap f).length = l.length * w + l2.length * w := by rw [rows_len hf, List.length_append, Nat.add_mul]
      have key := hk (.sl b 0 (l.length + l2.length) cap ex) (h.set b (.cells e (over cs (0 + l.length * w) (l2.flatMap f)))) (.inr ⟨b, cap, ex, _, by simp, List.getElem?_set_self hblt, by
          rw [e2, List.length_append, hll, List.length_drop]; omega, by simp; exact hfit, by
          rw [e2, List.length_append, Nat.add_mul, List.take_append_of_le_length (by rw [hll]; exact Nat.le_refl _), ← hll, List.take_length], by
          rw [e2, ixs_all, List.all_append, Bool.and_eq_true]
          refine ⟨by rw [← ixs_all]; exact rows_ix hf _, ?_⟩
          rw [ixs_all] at hx
          rw [List.all_eq_true] at hx ⊢
          exact fun x hx' => hx x (List.mem_of_mem_drop hx')⟩)
        (fun k _ hkb => by rw [List.getElem?_set_ne (fun h => hkb (by rw [h]; rfl))]) (by simp) (fun b' hb' => .inl hb')
      exact key
    · rw [if_neg hfit, hq]
      dsimp only
      rw [if_pos ⟨hb, by rw [Nat.zero_add]; exact hlw, .inr hn⟩]
      have e1 : (cs.drop 0).take (l.length * w) ++ l2.flatMap f = (l ++ l2).flatMap f := by simp [ht, List.flatMap_append]
      by_cases hex : ex = true
      · rw [if_pos hex]
        simp only [optH]
        rw [e1]
        refine hk _ _ (?_ : Own f w e (.sl h.length 0 (l.length + l2.length) (l.length + l2.length) false) (l ++ l2) _) (fun k hk _ => by rw [List.getElem?_append_left hk]) (by simp) (fun b' hb' => .inr ?_)
        · have := Own.new hf (e := e) (b := h.length) (cap := l.length + l2.length) (ex := false) (l := l ++ l2) (h := h ++ [.cells e ((l ++ l2).flatMap f)]) (by simp) (by simp)
          simpa using this
        · simp [AVal.blk] at hb'; omega
      · rw [if_neg hex, if_pos ⟨rfl, by rw [Nat.zero_add]; exact hl.symm, hsc⟩]
        simp only [optH]
        rw [e1]
        refine hk _ _ (?_ : Own f w e (.sl h.length 0 (l.length + l2.length) (l.length + l2.length) false) (l ++ l2) _) (fun k hk hkb => ?_) (by simp) (fun b' hb' => .inr ?_)
        · have := Own.new hf (e := e) (b := h.length) (cap := l.length + l2.length) (ex := false) (l := l ++ l2) (h := h.set b .dead ++ [.cells e ((l ++ l2).flatMap f)]) (by rw [List.getElem?_append_right (by simp)]; simp) (by simp)
          simpa using this
        · rw [List.getElem?_append_left (by simpa using hk), List.getElem?_set_ne (fun h => hkb (by rw [h]; rfl))]
        · simp [AVal.blk] at hb'; omega
end Go.AI

/- Slices of rows: what is owned is written. -/
set_option linter.all false
namespace Go.AI
variable {A : Type} {R : Adts A} {α : Type} {f : α → List AVal} {w : Nat}
theorem Own.el (hf : RowOk f w) {e : TypeId} {a : AVal} {l : List α} {h : AHeap A} (ha : Own f w e a l h) {i : Nat} (hi : i < l.length) : ∃ b, a.blk = some b ∧ (∀ K, idxP w a (.int .i64 i) K = K (.ptr b (i * w))) ∧ At (.ptr b (i * w)) (f l[i]) h := by
  rcases ha with ⟨rfl, rfl⟩ | ⟨b, cap, ex, cs, rfl, hb, hl, hc, ht, hx⟩
  · simp at hi
  · have hlw : l.length * w ≤ cs.length := by rw [hl]; exact Nat.mul_le_mul_right w hc
    have h1 : (i + 1) * w ≤ l.length * w := Nat.mul_le_mul_right w hi
    rw [Nat.succ_mul] at h1
    refine ⟨b, rfl, fun K => by simp [idxP, hi], At.ptr hb (by rw [hf.len]; omega) ?_⟩
    rw [hf.len, ← rows_at hf l i hi, ← ht, List.drop_take, List.take_take, Nat.min_eq_left (by omega)]
theorem over_in (cs c : List AVal) (p off w : Nat) (h1 : off + c.length ≤ w) (h2 : p + w ≤ cs.length) : over cs (p + off) c = cs.take p ++ over ((cs.drop p).take w) off c ++ cs.drop (p + w) := by
  unfold over
  have e1 : cs.take (p + off) = cs.take p ++ ((cs.drop p).take w).take off := by
    rw [List.take_add, List.take_take, Nat.min_eq_left (by omega)]
  have e2 : cs.drop (p + off + c.length) = ((cs.drop p).take w).drop (off + c.length) ++ cs.drop (p + w) := by
    rw [List.drop_take, List.drop_drop]
    have : cs.drop (p + w) = (cs.drop (p + off + c.length)).drop (w - (off + c.length)) := by rw [List.drop_drop]; congr 1; omega
    rw [this, show p + (off + c.length) = p + off + c.length by omega, List.take_append_drop]
  rw [e1, e2]
  simp
/-- A part of an element is written. -/
theorem Own.st (hf : RowOk f w) {e : TypeId} {a : AVal} {l : List α} {h : AHeap A} (ha : Own f w e a l h) {i : Nat} (hi : i < l.length) {b : Nat} (hb : a.blk = some b) {n off o : Nat} {v : AVal} (x : α) (ho : o = i * w + off) (hn : v.cs.length = n) (hoff : off + n ≤ w) (hx : over (f l[i]) off v.cs = f x) (hsc : v.cs.all AVal.scalar = true)
    {K : AHeap A → Prop} (hk : ∀ h', Own f w e a (l.set i x) h' → (∀ k, k ≠ b → h'[k]? = h[k]?) → h'.length = h.length → K h') : stP n (.ptr b o) v h K := by
  subst ho
  rcases ha with ⟨rfl, rfl⟩ | ⟨b', cap, ex, cs, rfl, hq, hl, hc, ht, hix⟩
  · simp at hi
  simp only [AVal.blk, Option.some.injEq] at hb
  subst hb
  have hlw : l.length * w ≤ cs.length := by rw [hl]; exact Nat.mul_le_mul_right w hc
  have h1 : (i + 1) * w ≤ l.length * w := Nat.mul_le_mul_right w hi
  rw [Nat.succ_mul] at h1
  have hblt := (List.getElem?_eq_some_iff.1 hq).1
  have hel : (cs.drop (i * w)).take w = f l[i] := by rw [← rows_at hf l i hi, ← ht, List.drop_take, List.take_take, Nat.min_eq_left (by omega)]
  have hov : over cs (i * w + off) v.cs = cs.take (i * w) ++ f x ++ cs.drop (i * w + w) := by
    rw [over_in cs v.cs (i * w) off w (by omega) (by omega), hel, hx]
  have hset : setAt h b' (i * w + off) v.cs = some (h.set b' (.cells e (over cs (i * w + off) v.cs))) := by
    unfold setAt
    rw [hq]
    dsimp only
    rw [if_pos ⟨by omega, hsc⟩]
  unfold stP
  dsimp only
  rw [if_pos hn, hset]
  simp only [hP]
  have hlen : (cs.take (i * w) ++ f x ++ cs.drop (i * w + w)).length = cs.length := by
    simp only [List.length_append, List.length_take, List.length_drop, hf.len]; omega
  refine hk _ (.inr ⟨b', cap, ex, _, by rw [List.length_set], List.getElem?_set_self hblt, by rw [hov, hlen, hl], by rw [List.length_set]; exact hc, ?_, ?_⟩) (fun k hk => List.getElem?_set_ne (Ne.symm hk)) (by simp)
  · rw [hov, List.length_set]
    have ht2 : cs.take (i * w) = (l.take i).flatMap f := by
      have : cs.take (i * w) = (cs.take (l.length * w)).take (i * w) := by rw [List.take_take, Nat.min_eq_left (by omega)]
      rw [this, ht, rows_taken hf]
    have hd2 : (cs.drop (i * w + w)).take (l.length * w - (i * w + w)) = (l.drop (i + 1)).flatMap f := by
      rw [← List.drop_take, ht, show i * w + w = (i + 1) * w by rw [Nat.succ_mul], rows_dropn hf]
    have hA : (cs.take (i * w) ++ f x).length = i * w + w := by simp only [List.length_append, List.length_take, hf.len]; omega
    rw [show l.length * w = (cs.take (i * w) ++ f x).length + (l.length * w - (i * w + w)) by rw [hA]; omega, List.take_length_add_append, hd2, ht2, List.set_eq_take_append_cons_drop, if_pos hi]
    simp
  · rw [hov, ixs_all, List.all_append, List.all_append, Bool.and_eq_true, Bool.and_eq_true]
    rw [ixs_all, List.all_eq_true] at hix
    refine ⟨⟨List.all_eq_true.2 fun y hy => hix y (List.mem_of_mem_take hy), ?_⟩, List.all_eq_true.2 fun y hy => hix y (List.mem_of_mem_drop hy)⟩
    rw [← ixs_all]; exact hf.ix x
end Go.AI
namespace Go.AI
variable {A : Type} {R : Adts A} {α : Type} {f : α → List AVal} {w : Nat}
/-- The same as simp tells it. -/
theorem Own.sth (hf : RowOk f w) {e : TypeId} {a : AVal} {l : List α} {h : AHeap A} (ha : Own f w e a l h) {i : Nat} (hi : i < l.length) {b : Nat} (hb : a.blk = some b) {off o : Nat} {c : List AVal} (x : α) (ho : o = i * w + off) (hoff : off + c.length ≤ w) (hx : over (f l[i]) off c = f x) (hsc : c.all AVal.scalar = true)
    {K : AHeap A → Prop} (hk : ∀ h', Own f w e a (l.set i x) h' → (∀ k, k ≠ b → h'[k]? = h[k]?) → h'.length = h.length → K h') : hP ((h[b]?).bind (setO h b o c)) K := by
  have := ha.st hf hi hb (n := c.length) (off := off) (o := o) (v := .agg c) x ho rfl hoff hx hsc hk
  unfold stP at this
  dsimp only at this
  rw [if_pos (show (AVal.agg c).cs.length = c.length from rfl), setAt_eq] at this
  exact this
end Go.AI

/- States, plainly. -/
set_option linter.all false
namespace Go.AI
/-- A config. -/
structure Cfg where
  sectors : Int
  halves : Int
  sessions : Int
  addresses : Int
  fails : Int
  lockout : Int
  halfLife : Int
  idle : Int
  absolute : Int
  quarantine : Int
  ticketLife : Int
  keep : Int
deriving DecidableEq
def Cfg.row (c : Cfg) : List AVal := [.int .i64 c.sectors, .int .i64 c.halves, .int .i64 c.sessions, .int .i64 c.addresses, .int .i64 c.fails, .int .i64 c.lockout, .int .i64 c.halfLife, .int .i64 c.idle, .int .i64 c.absolute, .int .i64 c.quarantine, .int .i64 c.ticketLife, .int .i64 c.keep]
/-- A user. -/
structure Usr where
  user : Int
  key : Int
  secret : Int
  quota : Int
  used : Int
  fails : Int
  unt : Int
  step : Int
  gen : Int
deriving DecidableEq
def Usr.row (u : Usr) : List AVal := [.int .i64 u.user, .int .i64 u.key, .int .i64 u.secret, .int .i64 u.quota, .int .i64 u.used, .int .i64 u.fails, .int .i64 u.unt, .int .i64 u.step, .int .i64 u.gen]
/-- A session. -/
structure Ses where
  session : Int
  user : Int
  address : Int
  start : Int
deriving DecidableEq
def Ses.row (x : Ses) : List AVal := [.int .i64 x.session, .int .i64 x.user, .int .i64 x.address, .int .i64 x.start]
/-- An address. -/
structure Adr where
  busy : Bool
  last : Int
  unt : Int
deriving DecidableEq
def Adr.row (a : Adr) : List AVal := [.bool a.busy, .int .i64 a.last, .int .i64 a.unt]
def iRow (n : Int) : List AVal := [.int .i64 n]
/-- A state. -/
structure Sta where
  boots : Int
  epoch : Int
  next : Int
  users : List Usr
  sess : List Ses
  addrs : List Adr
  spent : List Int
deriving DecidableEq
def sta0 : Sta := ⟨0, 0, 0, [], [], [], []⟩
def life (x : Int) : Bool := decide (1 ≤ x ∧ x ≤ 65536)
/-- May a config be? -/
def cMay (c : Cfg) : Bool :=
  decide (3 ≤ c.sectors ∧ c.sectors ≤ 256) && decide (1 ≤ c.halves ∧ c.halves ≤ 8) && decide (1 ≤ c.sessions ∧ c.sessions ≤ 8) && decide (1 ≤ c.addresses ∧ c.addresses ≤ 16) && decide (1 ≤ c.fails ∧ c.fails ≤ 8) && decide (0 ≤ c.keep ∧ c.keep ≤ 4) &&
    (life c.lockout && life c.halfLife && life c.idle && life c.absolute && life c.quarantine && life c.ticketLife)
/-- May a pool be? -/
def adMay (a : Adr) : Bool := decide (-1 ≤ a.last ∧ a.last < 8 ∧ 0 ≤ a.unt)
def poolMay (ps : List Adr) : Bool := decide (1 ≤ ps.length ∧ ps.length ≤ 16) && ps.all adMay
def adr0 : Adr := ⟨false, 0, 0⟩
def pNew (n : Int) : Option (List Adr) := if 1 ≤ n ∧ n ≤ 16 then some (List.replicate n.toNat ⟨false, -1, 0⟩) else none
def pTake (ps : List Adr) (ad user : Int) : Option (List Adr) :=
  if poolMay ps = true ∧ 0 ≤ user ∧ user < 8 ∧ 0 ≤ ad ∧ ad < ps.length ∧ (ps.getD ad.toNat adr0).busy = false then some (ps.set ad.toNat ⟨true, user, 0⟩) else none
def pFree (ps : List Adr) (ad unt : Int) : Option (List Adr) :=
  if poolMay ps = true ∧ 0 ≤ ad ∧ ad < ps.length ∧ (ps.getD ad.toNat adr0).busy = true ∧ 0 ≤ unt then some (ps.set ad.toNat ⟨false, (ps.getD ad.toNat adr0).last, unt⟩) else none
/-- A failure: the lock behind it. -/
def kFail (f u tick most out : Int) : Option (Int × Int) :=
  if f < 0 ∨ 8 < f ∨ u < 0 ∨ 1114111 < u ∨ tick < 0 ∨ 1048575 < tick ∨ most < 1 ∨ 8 < most ∨ out < 1 ∨ 65536 < out ∨ tick < u then none
  else
    let k := if most ≤ f then 1 else f + 1
    some (k, if k = most then tick + out else u)
def uAt (us : List Usr) (user : Int) : Option Nat := us.findIdx? fun u => decide (u.user = user)
def xAt (xs : List Ses) (session : Int) : Option Nat := xs.findIdx? fun x => decide (x.session = session)
def sNew (n : Int) : Option Sta := (pNew n).map fun ps => { sta0 with addrs := ps }
/-- All sessions' addresses are let free. -/
def freeAll (unt : Int) : List Ses → List Adr → Option (List Adr)
  | [], ps => some ps
  | x :: r, ps => match pFree ps x.address unt with | some ps => freeAll unt r ps | none => none
/-- A user is put. -/
def uPut (u : Usr) : List Usr → List Usr
  | [] => [u]
  | v :: r => if u.user < v.user then u :: v :: r else v :: uPut u r
def usr0 : Usr := ⟨0, 0, 0, 0, 0, 0, 0, 0, 0⟩
def ses0 : Ses := ⟨0, 0, 0, 0⟩
def sum (x y : Int) : Int := if 1073741823 - y < x then 1073741823 else x + y
/-- An event of a user. -/
def uTurn (c : Cfg) (u : Usr) (e : Ev) : Option Usr :=
  if e.kind = 2 then (kFail u.fails u.unt e.tick c.fails c.lockout).map fun k => { u with fails := k.1, unt := k.2 }
  else if e.kind = 3 then (if e.a ≤ u.step then none else some { u with step := e.a, fails := 0, unt := 0 })
  else if e.kind = 4 then some { u with fails := 0, unt := 0 }
  else if e.kind = 7 then (if 0 ≤ u.gen ∧ u.gen < 1073741823 then some { u with gen := u.gen + 1 } else none)
  else some u
/-- What an event does to a state. -/
def sDoes (c : Cfg) (s : Sta) (e : Ev) : Option Sta :=
  if e.kind = 0 then
    (match freeAll (e.tick + c.quarantine) s.sess s.addrs with
     | some ps => if 0 ≤ s.boots ∧ s.boots < 1073741823 then some { s with boots := s.boots + 1, addrs := ps, sess := [] } else none
     | none => none)
  else if e.kind = 1 then
    (if (uAt s.users e.user).isSome = true then none else some { s with users := uPut ⟨e.user, e.a, e.b, e.c, 0, 0, 0, 0, 0⟩ s.users })
  else if e.kind = 5 then
    (match pTake s.addrs e.address e.user with
     | some ps => if e.session = s.next ∧ (uAt s.users e.user).isSome = true ∧ (s.sess.length : Int) < c.sessions then some { s with addrs := ps, sess := s.sess ++ [⟨e.session, e.user, e.address, e.tick⟩], next := s.next + 1 } else none
     | none => none)
  else if e.kind = 6 then
    (match xAt s.sess e.session with
     | some k => match pFree s.addrs (s.sess.getD k ses0).address e.tick with
       | some ps => match uAt s.users (s.sess.getD k ses0).user with
         | some j => some { s with addrs := ps, sess := s.sess.eraseIdx k, users := s.users.set j { s.users.getD j usr0 with used := sum (s.users.getD j usr0).used e.a } }
         | none => some { s with addrs := ps, sess := s.sess.eraseIdx k }
       | none => none
     | none => none)
  else if e.kind = 8 then (if s.epoch < 1073741823 then some { s with epoch := s.epoch + 1 } else none)
  else if e.kind = 9 then (if e.session ∈ s.spent then none else some { s with spent := s.spent ++ [e.session] })
  else match uAt s.users e.user with
    | some j => (uTurn c (s.users.getD j usr0) e).map fun u => { s with users := s.users.set j u }
    | none => none
def sMay (c : Cfg) (s : Sta) (e : Ev) : Bool := cMay c && evMay e && decide ((s.addrs.length : Int) = c.addresses)
def sApply (c : Cfg) (s : Sta) (e : Ev) : Sta × Int :=
  if sMay c s e = true then (match sDoes c s e with | some t => (t, 0) | none => (sta0, 2001)) else (sta0, 2000)
/-- The state of events. -/
def sRun (c : Cfg) : Sta → List Ev → Sta × Int
  | s, [] => (s, 0)
  | s, e :: r => match sApply c s e with | (t, f) => if f = 0 then sRun c t r else (sta0, f)
def sAll (c : Cfg) (es : List Ev) : Sta × Int := match sNew c.addresses with | some s => sRun c s es | none => (sta0, 2000)
end Go.AI

/- States: the library's functions at rows. -/
set_option linter.all false
namespace Go.AI
variable {A : Type} {R : Adts A}
theorem usrR : RowOk Usr.row 9 := ⟨by omega, fun _ => rfl, fun _ => rfl, fun _ => rfl⟩
theorem sesR : RowOk Ses.row 4 := ⟨by omega, fun _ => rfl, fun _ => rfl, fun _ => rfl⟩
theorem adrR : RowOk Adr.row 3 := ⟨by omega, fun _ => rfl, fun _ => rfl, fun _ => rfl⟩
theorem intR : RowOk iRow 1 := ⟨by omega, fun _ => rfl, fun _ => rfl, fun _ => rfl⟩
theorem evR : RowOk Ev.row 8 := ⟨by omega, fun _ => rfl, fun _ => rfl, fun _ => rfl⟩
/-- A place, or -1. -/
def idx1 (o : Option Nat) : Int := match o with | some i => i | none => -1
theorem IndexFunc_api_User_ok (hR : R.Ok) {a : AVal} {l : List Usr} {h : AHeap A} (ha : RdS Usr.row 9 a l h) (hn : l.length ≤ 2000000) {g : FuncId} {cap : List AVal} (ho : callOk Pr g = true) (q : Usr → Bool)
    (hq : ∀ u ∈ l, ∀ K : AVal → AHeap A → Prop, K (.bool (q u)) h → Tri Pr R g ([] ++ ([.agg u.row] ++ cap)) h K) {K : AVal → AHeap A → Prop} (hk : K (.int .i64 (idx1 (l.findIdx? q))) h) : Tri Pr R n_slices_IndexFunc_api_User [a, .fn (.func g) [] cap] h K := by
  apply c_slices_IndexFunc_api_User
  unfold p_slices_IndexFunc_api_User
  simp -implicitDefEqProofs [ha.len]
  refine loopP_go (fun m y g => ∃ i : Nat, y = [.int .i64 i] ∧ g = h ∧ i ≤ l.length ∧ (∀ j (hj : j < l.length), j < i → q l[j] = false) ∧ m = l.length - i) l.length (Gives.done (Nat.le_refl _) ⟨0, rfl, rfl, by omega, fun j _ hj => by omega, by omega⟩) ?_
  rintro m y g2 ⟨i, rfl, rfl, hi, hb, rfl⟩
  have e1 := w64 (n := (i : Int) + 1) (by omega)
  by_cases h1 : i < l.length
  · obtain ⟨p, hp, hat⟩ := ha.get i h1
    have hall : ldV 9 true p g2 = some (.agg l[i].row) := hat.all
    simp -implicitDefEqProofs [h1, hp, hall]
    with_reducible refine dynP_go ho ?_
    refine hq l[i] (List.getElem_mem h1) _ ?_
    by_cases h2 : q l[i] = true
    · simp -implicitDefEqProofs [h2]
      have : l.findIdx? q = some i := by
        rw [List.findIdx?_eq_some_iff_getElem]
        exact ⟨h1, h2, fun j hj => by simp [hb j (by omega) hj]⟩
      rw [this] at hk
      exact hk
    · have h2 : q l[i] = false := by simpa using h2
      simp -implicitDefEqProofs [h2, e1]
      refine Gives.done (Nat.le_refl _) ⟨l.length - (i + 1), by omega, i + 1, by simp, rfl, by omega, fun j hj hji => ?_, rfl⟩
      by_cases hj2 : j = i
      · subst hj2; exact h2
      · exact hb j hj (by omega)
  · simp -implicitDefEqProofs [h1]
    have : l.findIdx? q = none := by
      rw [List.findIdx?_eq_none_iff]
      intro x hx
      obtain ⟨j, hj, rfl⟩ := List.mem_iff_getElem.1 hx
      exact hb j hj (by omega)
    rw [this] at hk
    exact hk
theorem IndexFunc_api_Session_ok (hR : R.Ok) {a : AVal} {l : List Ses} {h : AHeap A} (ha : RdS Ses.row 4 a l h) (hn : l.length ≤ 2000000) {g : FuncId} {cap : List AVal} (ho : callOk Pr g = true) (q : Ses → Bool)
    (hq : ∀ u ∈ l, ∀ K : AVal → AHeap A → Prop, K (.bool (q u)) h → Tri Pr R g ([] ++ ([.agg u.row] ++ cap)) h K) {K : AVal → AHeap A → Prop} (hk : K (.int .i64 (idx1 (l.findIdx? q))) h) : Tri Pr R n_slices_IndexFunc_api_Session [a, .fn (.func g) [] cap] h K := by
  apply c_slices_IndexFunc_api_Session
  unfold p_slices_IndexFunc_api_Session
  simp -implicitDefEqProofs [ha.len]
  refine loopP_go (fun m y g => ∃ i : Nat, y = [.int .i64 i] ∧ g = h ∧ i ≤ l.length ∧ (∀ j (hj : j < l.length), j < i → q l[j] = false) ∧ m = l.length - i) l.length (Gives.done (Nat.le_refl _) ⟨0, rfl, rfl, by omega, fun j _ hj => by omega, by omega⟩) ?_
  rintro m y g2 ⟨i, rfl, rfl, hi, hb, rfl⟩
  have e1 := w64 (n := (i : Int) + 1) (by omega)
  by_cases h1 : i < l.length
  · obtain ⟨p, hp, hat⟩ := ha.get i h1
    have hall : ldV 4 true p g2 = some (.agg l[i].row) := hat.all
    simp -implicitDefEqProofs [h1, hp, hall]
    with_reducible refine dynP_go ho ?_
    refine hq l[i] (List.getElem_mem h1) _ ?_
    by_cases h2 : q l[i] = true
    · simp -implicitDefEqProofs [h2]
      have : l.findIdx? q = some i := by
        rw [List.findIdx?_eq_some_iff_getElem]
        exact ⟨h1, h2, fun j hj => by simp [hb j (by omega) hj]⟩
      rw [this] at hk
      exact hk
    · have h2 : q l[i] = false := by simpa using h2
      simp -implicitDefEqProofs [h2, e1]
      refine Gives.done (Nat.le_refl _) ⟨l.length - (i + 1), by omega, i + 1, by simp, rfl, by omega, fun j hj hji => ?_, rfl⟩
      by_cases hj2 : j = i
      · subst hj2; exact h2
      · exact hb j hj (by omega)
  · simp -implicitDefEqProofs [h1]
    have : l.findIdx? q = none := by
      rw [List.findIdx?_eq_none_iff]
      intro x hx
      obtain ⟨j, hj, rfl⟩ := List.mem_iff_getElem.1 hx
      exact hb j hj (by omega)
    rw [this] at hk
    exact hk
theorem IndexFunc_api_Address_ok (hR : R.Ok) {a : AVal} {l : List Adr} {h : AHeap A} (ha : RdS Adr.row 3 a l h) (hn : l.length ≤ 2000000) {g : FuncId} {cap : List AVal} (ho : callOk Pr g = true) (q : Adr → Bool)
    (hq : ∀ u ∈ l, ∀ K : AVal → AHeap A → Prop, K (.bool (q u)) h → Tri Pr R g ([] ++ ([.agg u.row] ++ cap)) h K) {K : AVal → AHeap A → Prop} (hk : K (.int .i64 (idx1 (l.findIdx? q))) h) : Tri Pr R n_slices_IndexFunc_api_Address [a, .fn (.func g) [] cap] h K := by
  apply c_slices_IndexFunc_api_Address
  unfold p_slices_IndexFunc_api_Address
  simp -implicitDefEqProofs [ha.len]
  refine loopP_go (fun m y g => ∃ i : Nat, y = [.int .i64 i] ∧ g = h ∧ i ≤ l.length ∧ (∀ j (hj : j < l.length), j < i → q l[j] = false) ∧ m = l.length - i) l.length (Gives.done (Nat.le_refl _) ⟨0, rfl, rfl, by omega, fun j _ hj => by omega, by omega⟩) ?_
  rintro m y g2 ⟨i, rfl, rfl, hi, hb, rfl⟩
  have e1 := w64 (n := (i : Int) + 1) (by omega)
  by_cases h1 : i < l.length
  · obtain ⟨p, hp, hat⟩ := ha.get i h1
    have hall : ldV 3 true p g2 = some (.agg l[i].row) := hat.all
    simp -implicitDefEqProofs [h1, hp, hall]
    with_reducible refine dynP_go ho ?_
    refine hq l[i] (List.getElem_mem h1) _ ?_
    by_cases h2 : q l[i] = true
    · simp -implicitDefEqProofs [h2]
      have : l.findIdx? q = some i := by
        rw [List.findIdx?_eq_some_iff_getElem]
        exact ⟨h1, h2, fun j hj => by simp [hb j (by omega) hj]⟩
      rw [this] at hk
      exact hk
    · have h2 : q l[i] = false := by simpa using h2
      simp -implicitDefEqProofs [h2, e1]
      refine Gives.done (Nat.le_refl _) ⟨l.length - (i + 1), by omega, i + 1, by simp, rfl, by omega, fun j hj hji => ?_, rfl⟩
      by_cases hj2 : j = i
      · subst hj2; exact h2
      · exact hb j hj (by omega)
  · simp -implicitDefEqProofs [h1]
    have : l.findIdx? q = none := by
      rw [List.findIdx?_eq_none_iff]
      intro x hx
      obtain ⟨j, hj, rfl⟩ := List.mem_iff_getElem.1 hx
      exact hb j hj (by omega)
    rw [this] at hk
    exact hk
/-- A copy. -/
theorem Clone_api_User_own (hR : R.Ok) {a : AVal} {l : List Usr} (ha : IsFz Usr.row a l) (hn : l.length ≤ 2000000) {h : AHeap A} {K : AVal → AHeap A → Prop}
    (hk : ∀ a' h', Own Usr.row 9 t_api_User a' l h' → (∀ k, k < h.length → h'[k]? = h[k]?) → h.length ≤ h'.length → (∀ b, a'.blk = some b → h.length ≤ b) → K a' h') : Tri Pr R n_slices_Clone_api_User [a] h K := by
  have src := (ha.rd usrR (h ++ [.cells t_api_User []] : AHeap A)).src
  apply c_slices_Clone_api_User
  unfold p_slices_Clone_api_User
  have rest : a.scalar = true → (∀ h : AHeap A, srcOf 9 h a = some (l.length, l.flatMap Usr.row)) → bslP t_api_User 0 [] [] h (fun v2 h => appP t_api_User 9 72 v2 a h fun v3 h => K v3 h) := by
    intro _ hs
    simp -implicitDefEqProofs
    refine app_clone usrR (by omega) (by simp) (hs _) (by omega) ?_
    by_cases h0 : l = []
    · subst h0
      rw [if_pos rfl]
      exact hk _ _ (Own.new usrR (l := []) (by simp) rfl) (fun k hk => by rw [List.getElem?_append_left hk]) (by simp) (fun b hb => by simp [AVal.blk] at hb; omega)
    · rw [if_neg h0]
      refine hk _ _ (Own.new usrR (l := l) (by rw [List.getElem?_append_right (by simp)]; simp) rfl) (fun k hk => ?_) (by simp) (fun b hb => by simp [AVal.blk] at hb; omega)
      rw [List.getElem?_append_left (by simp; omega), List.getElem?_append_left hk]
  rcases ha with ⟨rfl, rfl⟩ | ⟨b, o, cap, rfl⟩ | ⟨rfl, x, rfl⟩
  · simp -implicitDefEqProofs
    exact hk _ _ Own.nil (fun _ _ => rfl) (Nat.le_refl _) (fun b hb => by simp [AVal.blk] at hb)
  · rw [show binP .eql .sl (.lst b o l.length cap (l.flatMap Usr.row)) .nils = fun K => K (.bool false) from rfl]
    simp -implicitDefEqProofs
    simpa using rest rfl (fun h => by simp [srcOf, rows_len usrR])
  · simp -implicitDefEqProofs
    simpa using rest rfl (fun h => rfl)
/-- A copy. -/
theorem Clone_api_Session_own (hR : R.Ok) {a : AVal} {l : List Ses} (ha : IsFz Ses.row a l) (hn : l.length ≤ 2000000) {h : AHeap A} {K : AVal → AHeap A → Prop}
    (hk : ∀ a' h', Own Ses.row 4 t_api_Session a' l h' → (∀ k, k < h.length → h'[k]? = h[k]?) → h.length ≤ h'.length → (∀ b, a'.blk = some b → h.length ≤ b) → K a' h') : Tri Pr R n_slices_Clone_api_Session [a] h K := by
  have src := (ha.rd sesR (h ++ [.cells t_api_Session []] : AHeap A)).src
  apply c_slices_Clone_api_Session
  unfold p_slices_Clone_api_Session
  have rest : a.scalar = true → (∀ h : AHeap A, srcOf 4 h a = some (l.length, l.flatMap Ses.row)) → bslP t_api_Session 0 [] [] h (fun v2 h => appP t_api_Session 4 32 v2 a h fun v3 h => K v3 h) := by
    intro _ hs
    simp -implicitDefEqProofs
    refine app_clone sesR (by omega) (by simp) (hs _) (by omega) ?_
    by_cases h0 : l = []
    · subst h0
      rw [if_pos rfl]
      exact hk _ _ (Own.new sesR (l := []) (by simp) rfl) (fun k hk => by rw [List.getElem?_append_left hk]) (by simp) (fun b hb => by simp [AVal.blk] at hb; omega)
    · rw [if_neg h0]
      refine hk _ _ (Own.new sesR (l := l) (by rw [List.getElem?_append_right (by simp)]; simp) rfl) (fun k hk => ?_) (by simp) (fun b hb => by simp [AVal.blk] at hb; omega)
      rw [List.getElem?_append_left (by simp; omega), List.getElem?_append_left hk]
  rcases ha with ⟨rfl, rfl⟩ | ⟨b, o, cap, rfl⟩ | ⟨rfl, x, rfl⟩
  · simp -implicitDefEqProofs
    exact hk _ _ Own.nil (fun _ _ => rfl) (Nat.le_refl _) (fun b hb => by simp [AVal.blk] at hb)
  · rw [show binP .eql .sl (.lst b o l.length cap (l.flatMap Ses.row)) .nils = fun K => K (.bool false) from rfl]
    simp -implicitDefEqProofs
    simpa using rest rfl (fun h => by simp [srcOf, rows_len sesR])
  · simp -implicitDefEqProofs
    simpa using rest rfl (fun h => rfl)
/-- A copy. -/
theorem Clone_api_Address_own (hR : R.Ok) {a : AVal} {l : List Adr} (ha : IsFz Adr.row a l) (hn : l.length ≤ 2000000) {h : AHeap A} {K : AVal → AHeap A → Prop}
    (hk : ∀ a' h', Own Adr.row 3 t_api_Address a' l h' → (∀ k, k < h.length → h'[k]? = h[k]?) → h.length ≤ h'.length → (∀ b, a'.blk = some b → h.length ≤ b) → K a' h') : Tri Pr R n_slices_Clone_api_Address [a] h K := by
  have src := (ha.rd adrR (h ++ [.cells t_api_Address []] : AHeap A)).src
  apply c_slices_Clone_api_Address
  unfold p_slices_Clone_api_Address
  have rest : a.scalar = true → (∀ h : AHeap A, srcOf 3 h a = some (l.length, l.flatMap Adr.row)) → bslP t_api_Address 0 [] [] h (fun v2 h => appP t_api_Address 3 24 v2 a h fun v3 h => K v3 h) := by
    intro _ hs
    simp -implicitDefEqProofs
    refine app_clone adrR (by omega) (by simp) (hs _) (by omega) ?_
    by_cases h0 : l = []
    · subst h0
      rw [if_pos rfl]
      exact hk _ _ (Own.new adrR (l := []) (by simp) rfl) (fun k hk => by rw [List.getElem?_append_left hk]) (by simp) (fun b hb => by simp [AVal.blk] at hb; omega)
    · rw [if_neg h0]
      refine hk _ _ (Own.new adrR (l := l) (by rw [List.getElem?_append_right (by simp)]; simp) rfl) (fun k hk => ?_) (by simp) (fun b hb => by simp [AVal.blk] at hb; omega)
      rw [List.getElem?_append_left (by simp; omega), List.getElem?_append_left hk]
  rcases ha with ⟨rfl, rfl⟩ | ⟨b, o, cap, rfl⟩ | ⟨rfl, x, rfl⟩
  · simp -implicitDefEqProofs
    exact hk _ _ Own.nil (fun _ _ => rfl) (Nat.le_refl _) (fun b hb => by simp [AVal.blk] at hb)
  · rw [show binP .eql .sl (.lst b o l.length cap (l.flatMap Adr.row)) .nils = fun K => K (.bool false) from rfl]
    simp -implicitDefEqProofs
    simpa using rest rfl (fun h => by simp [srcOf, rows_len adrR])
  · simp -implicitDefEqProofs
    simpa using rest rfl (fun h => rfl)
theorem Clone_api_Address_ok (hR : R.Ok) {a : AVal} {l : List Adr} (ha : IsFz Adr.row a l) (hn : l.length ≤ 2000000) {h : AHeap A} {K : AVal → AHeap A → Prop} (hk : ∀ a', IsFz Adr.row a' l → K a' h) : Tri Pr R n_slices_Clone_api_Address [a] h K := by
  refine Tri.fzfn hR (fun v => IsFz Adr.row v l) ha.ix ?_ (fun v hv _ => hk v hv)
  refine Clone_api_Address_own hR ha hn fun a' h' hown hs hl hbk => ?_
  exact Gives.fzO adrR (V := fun v => [v]) hown (fun b hb blk base spare cs => rfl) (Nat.zero_le _) fun a2 ha2 h2 _ _ => Gives.done (Nat.zero_le _) ⟨_, rfl, ha2, ha2.ix0⟩
/-- A copy. -/
theorem Clone_int_own (hR : R.Ok) {a : AVal} {l : List Int} (ha : IsFz iRow a l) (hn : l.length ≤ 2000000) {h : AHeap A} {K : AVal → AHeap A → Prop}
    (hk : ∀ a' h', Own iRow 1 t_int a' l h' → (∀ k, k < h.length → h'[k]? = h[k]?) → h.length ≤ h'.length → (∀ b, a'.blk = some b → h.length ≤ b) → K a' h') : Tri Pr R n_slices_Clone_int [a] h K := by
  have src := (ha.rd intR (h ++ [.cells t_int []] : AHeap A)).src
  apply c_slices_Clone_int
  unfold p_slices_Clone_int
  have rest : a.scalar = true → (∀ h : AHeap A, srcOf 1 h a = some (l.length, l.flatMap iRow)) → bslP t_int 0 [] [] h (fun v2 h => appP t_int 1 8 v2 a h fun v3 h => K v3 h) := by
    intro _ hs
    simp -implicitDefEqProofs
    refine app_clone intR (by omega) (by simp) (hs _) (by omega) ?_
    by_cases h0 : l = []
    · subst h0
      rw [if_pos rfl]
      exact hk _ _ (Own.new intR (l := []) (by simp) rfl) (fun k hk => by rw [List.getElem?_append_left hk]) (by simp) (fun b hb => by simp [AVal.blk] at hb; omega)
    · rw [if_neg h0]
      refine hk _ _ (Own.new intR (l := l) (by rw [List.getElem?_append_right (by simp)]; simp) rfl) (fun k hk => ?_) (by simp) (fun b hb => by simp [AVal.blk] at hb; omega)
      rw [List.getElem?_append_left (by simp; omega), List.getElem?_append_left hk]
  rcases ha with ⟨rfl, rfl⟩ | ⟨b, o, cap, rfl⟩ | ⟨rfl, x, rfl⟩
  · simp -implicitDefEqProofs
    exact hk _ _ Own.nil (fun _ _ => rfl) (Nat.le_refl _) (fun b hb => by simp [AVal.blk] at hb)
  · rw [show binP .eql .sl (.lst b o l.length cap (l.flatMap iRow)) .nils = fun K => K (.bool false) from rfl]
    simp -implicitDefEqProofs
    simpa using rest rfl (fun h => by simp [srcOf, rows_len intR])
  · simp -implicitDefEqProofs
    simpa using rest rfl (fun h => rfl)
end Go.AI

/- States: configs, pools, locks. -/
set_option linter.all false
namespace Go.AI
variable {A : Type} {R : Adts A}
theorem state_between_ok (hR : R.Ok) (x lo hi : Int) {h : AHeap A} {K : AVal → AHeap A → Prop} (hk : K (.bool (decide (lo ≤ x ∧ x ≤ hi))) h) : Tri Pr R n_state_between [.int .i64 x, .int .i64 lo, .int .i64 hi] h K := by
  refine Tri.fn1 hR _ rfl rfl ?_ hk
  apply c_state_between
  unfold p_state_between
  by_cases h1 : lo ≤ x
  · by_cases h2 : x ≤ hi
    · have h3 : x ≥ lo := h1
      simp -implicitDefEqProofs [h1, h2, h3]
      rfl
    · have h3 : x ≥ lo := h1
      simp -implicitDefEqProofs [h1, h2, h3]
      rfl
  · have h3 : ¬ x ≥ lo := h1
    simp -implicitDefEqProofs [h1, h3]
    rfl
theorem state_life_ok (hR : R.Ok) {a : AVal} {l : List Int} {h : AHeap A} (ha : RdS iRow 1 a l h) (hn : l.length ≤ 100) {K : AVal → AHeap A → Prop} (hk : K (.bool (l.all life)) h) : Tri Pr R n_state_life [a] h K := by
  apply c_state_life
  unfold p_state_life
  simp -implicitDefEqProofs [ha.len]
  refine loopP_go (fun m y g => ∃ i : Nat, y = [.int .i64 i] ∧ g = h ∧ i ≤ l.length ∧ (∀ j (hj : j < l.length), j < i → life l[j] = true) ∧ m = l.length - i) l.length (Gives.done (Nat.le_refl _) ⟨0, rfl, rfl, by omega, fun j _ hj => by omega, by omega⟩) ?_
  rintro m y g2 ⟨i, rfl, rfl, hi, hb, rfl⟩
  have e1 := w64 (n := (i : Int) + 1) (by omega)
  by_cases h1 : i < l.length
  · obtain ⟨p, hp, hat⟩ := ha.get i h1
    have hall := hat.cell 0 (by simp [iRow])
    have hp0 : ∀ p : AVal, At p (iRow l[i]) g2 → ldV 1 false p g2 = some (.int .i64 l[i]) := by
      intro p hat
      have := hat.cell 0 (by simp [iRow])
      have h9 : ldV 1 false (p.fad 0) g2 = ldV 1 false p g2 := by cases p <;> simp [AVal.fad, ldV]
      rw [h9] at this
      simpa [iRow] using this
    have hl0 := hp0 p hat
    by_cases h2 : l[i] < 1
    · simp -implicitDefEqProofs [h1, hp, hl0, h2]
      have : l.all life = false := by
        rw [Bool.eq_false_iff]; intro hc; rw [List.all_eq_true] at hc
        have := hc l[i] (List.getElem_mem h1); simp [life] at this; omega
      rw [this] at hk; exact hk
    · by_cases h3 : 65536 < l[i]
      · have h4 : l[i] > 65536 := h3
        simp -implicitDefEqProofs [h1, hp, hl0, h2, h3, h4]
        have : l.all life = false := by
          rw [Bool.eq_false_iff]; intro hc; rw [List.all_eq_true] at hc
          have := hc l[i] (List.getElem_mem h1); simp [life] at this; omega
        rw [this] at hk; exact hk
      · have h4 : ¬ l[i] > 65536 := h3
        simp -implicitDefEqProofs [h1, hp, hl0, h2, h3, h4, e1]
        refine Gives.done (Nat.le_refl _) ⟨l.length - (i + 1), by omega, i + 1, by simp, rfl, by omega, fun j hj hji => ?_, rfl⟩
        by_cases hj2 : j = i
        · subst hj2; simp [life]; omega
        · exact hb j hj (by omega)
  · simp -implicitDefEqProofs [h1]
    have : l.all life = true := by
      rw [List.all_eq_true]
      intro x hx
      obtain ⟨j, hj, rfl⟩ := List.mem_iff_getElem.1 hx
      exact hb j hj (by omega)
    rw [this] at hk
    exact hk
def JC (c : Cfg) (e : TypeId) (vs : List AVal) (g : AHeap A) : Prop := vs = [.bool (cMay c)] ∧ ∃ t, g = .cells e c.row :: t
theorem state_ConfigMay_ok (hR : R.Ok) (c : Cfg) {e : TypeId} {h : AHeap A} {b : Nat} (hb : h[b]? = some (.cells e c.row)) {K : AVal → AHeap A → Prop} (hk : K (.bool (cMay c)) h) : Tri Pr R n_state_ConfigMay [.ptr b 0] h K := by
  have hc : ∀ τ, (AObj.cells e c.row : AObj A).ren R τ = .cells e c.row := fun τ => by simp [AObj.ren, rens_ix0 τ c.row rfl]
  refine Tri.own hR (as2 := [.ptr 0 0]) (o := .cells e c.row) (Q := fun v o => v = .bool (cMay c) ∧ o = .cells e c.row) rfl (by show ixs 1 c.row = true; rfl) (by rintro _ _ ⟨rfl, rfl⟩; exact ⟨rfl, hc⟩) hc ?_ hb (by simp [rens, AVal.ren]) (by rintro _ _ ⟨rfl, rfl⟩; rw [set_same hb]; exact hk)
  refine Tri.post ?_
  apply c_state_ConfigMay
  unfold p_state_ConfigMay
  refine joinP_all (JC c e) ?_ ?_
  · simp -implicitDefEqProofs [Cfg.row]
    refine state_between_ok hR _ _ _ ?_
    by_cases h0 : 3 ≤ c.sectors ∧ c.sectors ≤ 256
    case neg =>
      have e0 : decide (3 ≤ c.sectors ∧ c.sectors ≤ 256) = false := by simpa using h0
      rw [e0]
      simp -implicitDefEqProofs
      exact ⟨by simp only [cMay, e0, Bool.false_and, Bool.and_false], _, rfl⟩
    have e0 : decide (3 ≤ c.sectors ∧ c.sectors ≤ 256) = true := by simpa using h0
    rw [e0]
    simp -implicitDefEqProofs
    refine state_between_ok hR _ _ _ ?_
    by_cases h1 : 1 ≤ c.halves ∧ c.halves ≤ 8
    case neg =>
      have e1 : decide (1 ≤ c.halves ∧ c.halves ≤ 8) = false := by simpa using h1
      rw [e1]
      simp -implicitDefEqProofs
      exact ⟨by simp only [cMay, e1, Bool.false_and, Bool.and_false], _, rfl⟩
    have e1 : decide (1 ≤ c.halves ∧ c.halves ≤ 8) = true := by simpa using h1
    rw [e1]
    simp -implicitDefEqProofs
    refine state_between_ok hR _ _ _ ?_
    by_cases h2 : 1 ≤ c.sessions ∧ c.sessions ≤ 8
    case neg =>
      have e2 : decide (1 ≤ c.sessions ∧ c.sessions ≤ 8) = false := by simpa using h2
      rw [e2]
      simp -implicitDefEqProofs
      exact ⟨by simp only [cMay, e2, Bool.false_and, Bool.and_false], _, rfl⟩
    have e2 : decide (1 ≤ c.sessions ∧ c.sessions ≤ 8) = true := by simpa using h2
    rw [e2]
    simp -implicitDefEqProofs
    refine state_between_ok hR _ _ _ ?_
    by_cases h3 : 1 ≤ c.addresses ∧ c.addresses ≤ 16
    case neg =>
      have e3 : decide (1 ≤ c.addresses ∧ c.addresses ≤ 16) = false := by simpa using h3
      rw [e3]
      simp -implicitDefEqProofs
      exact ⟨by simp only [cMay, e3, Bool.false_and, Bool.and_false], _, rfl⟩
    have e3 : decide (1 ≤ c.addresses ∧ c.addresses ≤ 16) = true := by simpa using h3
    rw [e3]
    simp -implicitDefEqProofs
    refine state_between_ok hR _ _ _ ?_
    by_cases h4 : 1 ≤ c.fails ∧ c.fails ≤ 8
    case neg =>
      have e4 : decide (1 ≤ c.fails ∧ c.fails ≤ 8) = false := by simpa using h4
      rw [e4]
      simp -implicitDefEqProofs
      exact ⟨by simp only [cMay, e4, Bool.false_and, Bool.and_false], _, rfl⟩
    have e4 : decide (1 ≤ c.fails ∧ c.fails ≤ 8) = true := by simpa using h4
    rw [e4]
    simp -implicitDefEqProofs
    refine state_between_ok hR _ _ _ ?_
    by_cases h5 : 0 ≤ c.keep ∧ c.keep ≤ 4
    case neg =>
      have e5 : decide (0 ≤ c.keep ∧ c.keep ≤ 4) = false := by simpa using h5
      rw [e5]
      simp -implicitDefEqProofs
      exact ⟨by simp only [cMay, e5, Bool.false_and, Bool.and_false], _, rfl⟩
    have e5 : decide (0 ≤ c.keep ∧ c.keep ≤ 4) = true := by simpa using h5
    rw [e5]
    simp -implicitDefEqProofs
    refine state_life_ok hR (l := [c.lockout, c.halfLife, c.idle, c.absolute, c.quarantine, c.ticketLife]) ((Own.new intR (e := t_int) (b := 1) (cap := 6) (ex := true) (by rfl) rfl).rd intR) (by simp) ?_
    refine ⟨?_, _, rfl⟩
    simp only [cMay, e0, e1, e2, e3, e4, e5, List.all_cons, List.all_nil, Bool.true_and, Bool.and_true, Bool.and_assoc]
  · rintro _ g ⟨rfl, t, rfl⟩
    refine ⟨by simp, ?_⟩
    simp -implicitDefEqProofs
    exact Gives.cut hR (m := 1) (Nat.le_refl _) (by simp) rfl (by simp; exact low_cells rfl) ⟨_, rfl, _, ⟨rfl, rfl⟩, rfl⟩
/-! Pools. -/
theorem pool_userMay_ok (x : Int) {h : AHeap A} {K : AVal → AHeap A → Prop} (hk : K (.bool (decide (0 ≤ x ∧ x < 8))) h) : Tri Pr R n_pool_userMay [.int .i64 x] h K := by
  apply c_pool_userMay
  unfold p_pool_userMay
  by_cases h1 : 0 ≤ x
  · have h3 : x ≥ 0 := h1
    by_cases h2 : x < 8
    · simp only [h1, h2, and_self, decide_true] at hk; simp -implicitDefEqProofs [h1, h2]; exact hk
    · simp only [h1, h2, and_false, decide_false] at hk; simp -implicitDefEqProofs [h1, h2]; exact hk
  · simp only [h1, false_and, decide_false] at hk; simp -implicitDefEqProofs [h1]; exact hk
theorem pool_may_c1_ok (hR : R.Ok) (a : Adr) {h : AHeap A} {K : AVal → AHeap A → Prop} (hk : K (.bool (!adMay a)) h) : Tri Pr R n_pool_may_c1 [.agg a.row] h K := by
  refine Tri.fn1 hR _ rfl rfl ?_ hk
  apply c_pool_may_c1
  unfold p_pool_may_c1
  by_cases h1 : a.last = -1
  · have h1' : (a.last != -1) = false := by simp [h1]
    by_cases h3 : a.unt < 0
    · simp -implicitDefEqProofs [Adr.row, h1, h3]
      exact Ans.of (by congr 1; symm; simp [adMay]; omega)
    · simp -implicitDefEqProofs [Adr.row, h1, h3]
      exact Ans.of (by congr 1; symm; simp [adMay]; omega)
  · have h1' : (a.last != -1) = true := by simpa using h1
    simp -implicitDefEqProofs [Adr.row, h1']
    refine pool_userMay_ok _ ?_
    by_cases h2 : 0 ≤ a.last ∧ a.last < 8
    · have e2 : decide (0 ≤ a.last ∧ a.last < 8) = true := by simpa using h2
      rw [e2]
      by_cases h3 : a.unt < 0
      · simp -implicitDefEqProofs [h3]
        exact Ans.of (by congr 1; symm; simp [adMay]; omega)
      · simp -implicitDefEqProofs [h3]
        exact Ans.of (by congr 1; symm; simp [adMay]; omega)
    · have e2 : decide (0 ≤ a.last ∧ a.last < 8) = false := by simpa using h2
      rw [e2]
      simp -implicitDefEqProofs
      exact Ans.of (by congr 1; symm; simp [adMay]; omega)
theorem pool_may_ok (hR : R.Ok) {a : AVal} {l : List Adr} (ha : IsFz Adr.row a l) (hn : l.length ≤ 2000000) {h : AHeap A} {K : AVal → AHeap A → Prop} (hk : K (.bool (poolMay l)) h) : Tri Pr R n_pool_may [a] h K := by
  have rd := ha.rd adrR h
  apply c_pool_may
  unfold p_pool_may
  by_cases h1 : 1 ≤ l.length
  · have h1' : (l.length : Int) ≥ 1 := by omega
    by_cases h2 : l.length ≤ 16
    · have h2' : (l.length : Int) ≤ 16 := by omega
      simp -implicitDefEqProofs [rd.len, h1', h2']
      apply c_slices_ContainsFunc_api_Address
      unfold p_slices_ContainsFunc_api_Address
      refine IndexFunc_api_Address_ok hR rd hn (by kernel_rfl) (fun a => !adMay a) (fun u _ K hK => pool_may_c1_ok hR u hK) ?_
      have e : (decide (idx1 (l.findIdx? fun a => !adMay a) ≥ 0)) = !(poolMay l) := by
        unfold poolMay
        have e0 : decide (1 ≤ l.length ∧ l.length ≤ 16) = true := by simp; omega
        rw [e0, Bool.true_and]
        cases hf : l.findIdx? fun a => !adMay a with
        | none =>
          rw [List.findIdx?_eq_none_iff] at hf
          have : l.all adMay = true := List.all_eq_true.2 fun x hx => by simpa using hf x hx
          rw [this]; rfl
        | some i =>
          rw [List.findIdx?_eq_some_iff_getElem] at hf
          obtain ⟨hi, hq, _⟩ := hf
          have : l.all adMay = false := by
            rw [Bool.eq_false_iff]; intro hc; rw [List.all_eq_true] at hc
            rw [hc _ (List.getElem_mem hi)] at hq; simp at hq
          rw [this]; simp [idx1]
      simp -implicitDefEqProofs
      rw [e]
      simp -implicitDefEqProofs
      exact hk
    · have h2' : ¬ (l.length : Int) ≤ 16 := by omega
      have e : poolMay l = false := by simp [poolMay, h2]
      rw [e] at hk
      simp -implicitDefEqProofs [rd.len, h1', h2']
      exact hk
  · have h1' : ¬ (l.length : Int) ≥ 1 := by omega
    have e : poolMay l = false := by simp [poolMay, h1]
    rw [e] at hk
    simp -implicitDefEqProofs [rd.len, h1']
    exact hk
theorem pool_there_ok {a : AVal} {l : List Adr} (ha : IsFz Adr.row a l) (x : Int) {h : AHeap A} {K : AVal → AHeap A → Prop} (hk : K (.bool (decide (0 ≤ x ∧ x < l.length))) h) : Tri Pr R n_pool_there [a, .int .i64 x] h K := by
  have rd := ha.rd adrR h
  apply c_pool_there
  unfold p_pool_there
  by_cases h1 : 0 ≤ x
  · by_cases h2 : x < l.length
    · simp only [h1, h2, and_self, decide_true] at hk; simp -implicitDefEqProofs [h1, h2, rd.len]; exact hk
    · simp only [h1, h2, and_false, decide_false] at hk; simp -implicitDefEqProofs [h1, h2, rd.len]; exact hk
  · simp only [h1, false_and, decide_false] at hk; simp -implicitDefEqProofs [h1]; exact hk
end Go.AI

/- States: pools that are turned, locks. -/
set_option linter.all false
namespace Go.AI
variable {A : Type} {R : Adts A}
theorem pool_with_ok (hR : R.Ok) {a : AVal} {l : List Adr} (ha : IsFz Adr.row a l) (hn : l.length ≤ 2000000) {i : Int} (h0 : 0 ≤ i) (h1 : i < l.length) (x : Adr) {h : AHeap A} {K : AVal → AHeap A → Prop} (hk : ∀ a', IsFz Adr.row a' (l.set i.toNat x) → K a' h) : Tri Pr R n_pool_with [a, .int .i64 i, .agg x.row] h K := by
  have hax : ixs 0 [a, .int .i64 i, .agg x.row] = true := by
    have := ha.ix; simp only [ixs, Bool.and_true] at this ⊢; rw [this]; rfl
  refine Tri.fzfn hR (fun v => IsFz Adr.row v (l.set i.toNat x)) hax ?_ (fun v hv _ => hk v hv)
  obtain ⟨k, rfl⟩ : ∃ k : Nat, i = k := ⟨i.toNat, by omega⟩
  have hkl : k < l.length := by omega
  simp only [Int.toNat_natCast] at *
  apply c_pool_with
  unfold p_pool_with
  simp -implicitDefEqProofs [Adr.row]
  refine Clone_api_Address_own hR ha hn fun a' h' hown hs hl hbk => ?_
  obtain ⟨b, hb, hix, hat⟩ := hown.el adrR hkl
  have hbox : h'[0]? = some (.cells t_api_Address [.bool x.busy, .int .i64 x.last, .int .i64 x.unt]) := (hs 0 (by simp)).trans rfl
  simp -implicitDefEqProofs [hbox, AObj.read, hix]
  refine hown.sth adrR hkl hb (off := 0) (o := k * 3) (c := [.bool x.busy, .int .i64 x.last, .int .i64 x.unt]) x rfl (by simp) rfl rfl fun h2 hown2 _ _ => ?_
  exact Gives.fzO adrR (V := fun v => [v]) hown2 (fun b hb blk base spare cs => rfl) (Nat.zero_le _) fun a2 ha2 h3 _ _ => Gives.done (Nat.zero_le _) ⟨_, rfl, ha2, ha2.ix0⟩
theorem adr_get {l : List Adr} {i : Nat} (hi : i < l.length) : l.getD i adr0 = l[i] := by rw [List.getD_eq_getElem?_getD, List.getElem?_eq_getElem hi]; rfl
/-- What Free answers. -/
def pAns (o : Option (List Adr)) (K : AVal → AHeap A → Prop) (h : AHeap A) : Prop :=
  match o with
  | some l => ∀ a', IsFz Adr.row a' l → K (.tup [a', .int .i64 0]) h
  | none => K (.tup [.nils, .int .i64 1600]) h
theorem pool_Free_ok (hR : R.Ok) {a : AVal} {l : List Adr} (ha : IsFz Adr.row a l) (hn : l.length ≤ 2000000) (i u : Int) {h : AHeap A} {K : AVal → AHeap A → Prop} (hk : pAns (pFree l i u) K h) : Tri Pr R n_pool_Free [a, .int .i64 i, .int .i64 u] h K := by
  have rd := ha.rd adrR h
  apply c_pool_Free
  unfold p_pool_Free
  refine pool_may_ok hR ha hn ?_
  by_cases h1 : poolMay l = true
  · rw [h1]
    simp -implicitDefEqProofs
    refine pool_there_ok ha i ?_
    by_cases h2 : 0 ≤ i ∧ i < l.length
    · have e2 : decide (0 ≤ i ∧ i < (l.length : Int)) = true := by simpa using h2
      rw [e2]
      obtain ⟨k, rfl⟩ : ∃ k : Nat, i = k := ⟨i.toNat, by omega⟩
      have hkl : k < l.length := by omega
      obtain ⟨p, hp, hat⟩ := rd.get k hkl
      have c0 := hat.cell 0 (by simp [Adr.row])
      have c1 := hat.cell 1 (by simp [Adr.row])
      simp only [Adr.row, List.getElem_cons_zero, List.getElem_cons_succ] at c0 c1
      have eg : l.getD k adr0 = l[k] := adr_get hkl
      simp -implicitDefEqProofs [hp, hat.fad, c0]
      by_cases h3 : l[k].busy = true
      · rw [h3]
        by_cases h4 : u < 0
        · have e : pFree l k u = none := by unfold pFree; rw [if_neg]; rintro ⟨_, _, _, _, h⟩; omega
          rw [e] at hk
          simp -implicitDefEqProofs [h4]
          exact hk
        · have e : pFree l k u = some (l.set k ⟨false, l[k].last, u⟩) := by
            unfold pFree; rw [if_pos ⟨h1, by omega, by omega, by rw [Int.toNat_natCast, eg]; exact h3, by omega⟩, Int.toNat_natCast, eg]
          rw [e] at hk
          simp -implicitDefEqProofs [h4, hp, hat.fad, c1]
          refine pool_with_ok hR ha hn (by omega) (by omega) ⟨false, l[k].last, u⟩ fun a' ha' => ?_
          exact hk a' (by simpa using ha')
      · have h3' : l[k].busy = false := by simpa using h3
        have e : pFree l k u = none := by unfold pFree; rw [if_neg]; rintro ⟨_, _, _, h, _⟩; rw [Int.toNat_natCast, eg, h3'] at h; simp at h
        rw [e] at hk
        simp -implicitDefEqProofs [h3']
        exact hk
    · have e2 : decide (0 ≤ i ∧ i < (l.length : Int)) = false := by simpa using h2
      have e : pFree l i u = none := by unfold pFree; rw [if_neg]; rintro ⟨_, h, h', _⟩; exact h2 ⟨h, h'⟩
      rw [e2]
      rw [e] at hk
      simp -implicitDefEqProofs
      exact hk
  · have h1' : poolMay l = false := by simpa using h1
    have e : pFree l i u = none := by unfold pFree; rw [if_neg]; rintro ⟨h, _⟩; exact h1 h
    rw [e] at hk
    rw [h1']
    simp -implicitDefEqProofs
    exact hk
theorem pool_Take_ok (hR : R.Ok) {a : AVal} {l : List Adr} (ha : IsFz Adr.row a l) (hn : l.length ≤ 2000000) (i u : Int) {h : AHeap A} {K : AVal → AHeap A → Prop} (hk : pAns (pTake l i u) K h) : Tri Pr R n_pool_Take [a, .int .i64 i, .int .i64 u] h K := by
  have rd := ha.rd adrR h
  apply c_pool_Take
  unfold p_pool_Take
  refine pool_may_ok hR ha hn ?_
  by_cases h1 : poolMay l = true
  · rw [h1]
    simp -implicitDefEqProofs
    refine pool_userMay_ok _ ?_
    by_cases h4 : 0 ≤ u ∧ u < 8
    · have e4 : decide (0 ≤ u ∧ u < 8) = true := by simpa using h4
      rw [e4]
      simp -implicitDefEqProofs
      refine pool_there_ok ha i ?_
      by_cases h2 : 0 ≤ i ∧ i < l.length
      · have e2 : decide (0 ≤ i ∧ i < (l.length : Int)) = true := by simpa using h2
        rw [e2]
        obtain ⟨k, rfl⟩ : ∃ k : Nat, i = k := ⟨i.toNat, by omega⟩
        have hkl : k < l.length := by omega
        obtain ⟨p, hp, hat⟩ := rd.get k hkl
        have c0 := hat.cell 0 (by simp [Adr.row])
        simp only [Adr.row, List.getElem_cons_zero] at c0
        have eg : l.getD k adr0 = l[k] := adr_get hkl
        simp -implicitDefEqProofs [hp, hat.fad, c0]
        by_cases h3 : l[k].busy = true
        · have e : pTake l k u = none := by unfold pTake; rw [if_neg]; rintro ⟨_, _, _, _, _, h⟩; rw [Int.toNat_natCast, eg, h3] at h; simp at h
          rw [e] at hk
          simp -implicitDefEqProofs [h3]
          exact hk
        · have h3' : l[k].busy = false := by simpa using h3
          have e : pTake l k u = some (l.set k ⟨true, u, 0⟩) := by
            unfold pTake; rw [if_pos ⟨h1, h4.1, h4.2, by omega, by omega, by rw [Int.toNat_natCast, eg]; exact h3'⟩, Int.toNat_natCast]
          rw [e] at hk
          simp -implicitDefEqProofs [h3']
          refine pool_with_ok hR ha hn (by omega) (by omega) ⟨true, u, 0⟩ fun a' ha' => ?_
          exact hk a' (by simpa using ha')
      · have e2 : decide (0 ≤ i ∧ i < (l.length : Int)) = false := by simpa using h2
        have e : pTake l i u = none := by unfold pTake; rw [if_neg]; rintro ⟨_, _, _, h, h', _⟩; exact h2 ⟨h, h'⟩
        rw [e2]
        rw [e] at hk
        simp -implicitDefEqProofs
        exact hk
    · have e4 : decide (0 ≤ u ∧ u < 8) = false := by simpa using h4
      have e : pTake l i u = none := by unfold pTake; rw [if_neg]; rintro ⟨_, h, h', _⟩; exact h4 ⟨h, h'⟩
      rw [e4]
      rw [e] at hk
      simp -implicitDefEqProofs
      exact hk
  · have h1' : poolMay l = false := by simpa using h1
    have e : pTake l i u = none := by unfold pTake; rw [if_neg]; rintro ⟨h, _⟩; exact h1 h
    rw [e] at hk
    rw [h1']
    simp -implicitDefEqProofs
    exact hk
/-! Locks. -/
theorem lock_Open_ok (hR : R.Ok) (f u x : Int) {h : AHeap A} {K : AVal → AHeap A → Prop} (hk : K (.bool (decide (u ≤ x))) h) : Tri Pr R n_lock_Open [.agg [.int .i64 f, .int .i64 u], .int .i64 x] h K := by
  refine Tri.fn1 hR _ rfl rfl ?_ hk
  apply c_lock_Open
  unfold p_lock_Open
  simp -implicitDefEqProofs
  exact Ans.of (by congr 1)
def kAns (o : Option (Int × Int)) : AVal :=
  match o with
  | some k => .tup [.agg [.int .i64 k.1, .int .i64 k.2], .int .i64 0]
  | none => .tup [.agg [.int .i64 0, .int .i64 0], .int .i64 1300]
theorem lock_Fail_ok (hR : R.Ok) (f u tick most out : Int) {h : AHeap A} {K : AVal → AHeap A → Prop} (hk : K (kAns (kFail f u tick most out)) h) : Tri Pr R n_lock_Fail [.agg [.int .i64 f, .int .i64 u], .int .i64 tick, .int .i64 most, .int .i64 out] h K := by
  refine Tri.fn1 hR _ (by unfold kAns; split <;> rfl) rfl ?_ hk
  apply c_lock_Fail
  unfold p_lock_Fail
  by_cases g1 : f < 0
  · simp -implicitDefEqProofs [g1]
    exact Ans.of (by unfold kFail; rw [if_pos (by omega)]; rfl)
  by_cases g2 : 8 < f
  · have g2' : f > 8 := g2
    simp -implicitDefEqProofs [g1, g2']
    exact Ans.of (by unfold kFail; rw [if_pos (by omega)]; rfl)
  by_cases g3 : u < 0
  · have g2' : ¬ f > 8 := g2
    simp -implicitDefEqProofs [g1, g2', g3]
    exact Ans.of (by unfold kFail; rw [if_pos (by omega)]; rfl)
  by_cases g4 : 1114111 < u
  · have g2' : ¬ f > 8 := g2
    have g4' : u > 1114111 := g4
    simp -implicitDefEqProofs [g1, g2', g3, g4']
    exact Ans.of (by unfold kFail; rw [if_pos (by omega)]; rfl)
  have g2' : ¬ f > 8 := g2
  have g4' : ¬ u > 1114111 := g4
  simp -implicitDefEqProofs [g1, g2', g3, g4']
  refine totp_TickMay_ok _ ?_
  by_cases g5 : 0 ≤ tick ∧ tick ≤ 1048575
  case neg =>
    have e5 : tMay tick = false := by simpa [tMay] using g5
    rw [e5]
    simp -implicitDefEqProofs
    exact Ans.of (by unfold kFail; rw [if_pos (by omega)]; rfl)
  have e5 : tMay tick = true := by simpa [tMay] using g5
  rw [e5]
  by_cases g6 : most < 1
  · simp -implicitDefEqProofs [g6]
    exact Ans.of (by unfold kFail; rw [if_pos (by omega)]; rfl)
  by_cases g7 : 8 < most
  · have g7' : most > 8 := g7
    simp -implicitDefEqProofs [g6, g7']
    exact Ans.of (by unfold kFail; rw [if_pos (by omega)]; rfl)
  have g7' : ¬ most > 8 := g7
  by_cases g8 : out < 1
  · simp -implicitDefEqProofs [g6, g7', g8]
    exact Ans.of (by unfold kFail; rw [if_pos (by omega)]; rfl)
  by_cases g9 : 65536 < out
  · have g9' : out > 65536 := g9
    simp -implicitDefEqProofs [g6, g7', g8, g9']
    exact Ans.of (by unfold kFail; rw [if_pos (by omega)]; rfl)
  have g9' : ¬ out > 65536 := g9
  simp -implicitDefEqProofs [g6, g7', g8, g9']
  refine lock_Open_ok hR _ _ _ ?_
  by_cases g10 : u ≤ tick
  case neg =>
    have e10 : decide (u ≤ tick) = false := by simpa using g10
    rw [e10]
    simp -implicitDefEqProofs
    exact Ans.of (by unfold kFail; rw [if_pos (by omega)]; rfl)
  have e10 : decide (u ≤ tick) = true := by simpa using g10
  rw [e10]
  simp -implicitDefEqProofs
  have ek : kFail f u tick most out = some (if most ≤ f then 1 else f + 1, if (if most ≤ f then 1 else f + 1) = most then tick + out else u) := by
    unfold kFail; rw [if_neg (by omega)]
  refine joinP_all (fun vs g => vs = [] ∧ g = [.cells t_api_Lock [.int .i64 (if most ≤ f then 0 else f), .int .i64 u], .cells t_api_Lock [.int .i64 0, .int .i64 0]]) ?_ ?_
  · by_cases g11 : most ≤ f
    · have g11' : f ≥ most := g11
      simp -implicitDefEqProofs [g11']
      all_goals exact ⟨rfl, by simp [g11]⟩
    · have g11' : ¬ f ≥ most := g11
      simp -implicitDefEqProofs [g11']
      all_goals exact ⟨rfl, by simp [g11]⟩
  · rintro _ g ⟨rfl, rfl⟩
    refine ⟨by simp, ?_⟩
    have e1 := w64 (n := (if most ≤ f then 0 else f) + 1) (by split <;> omega)
    simp -implicitDefEqProofs [e1]
    refine joinP_all (fun vs g => vs = [] ∧ g = [.cells t_api_Lock [.int .i64 ((if most ≤ f then 0 else f) + 1), .int .i64 (if (if most ≤ f then 1 else f + 1) = most then tick + out else u)], .cells t_api_Lock [.int .i64 0, .int .i64 0]]) ?_ ?_
    · have e2 := w64 (n := tick + out) (by omega)
      have e3 : (if most ≤ f then 0 else f) + 1 = (if most ≤ f then 1 else f + 1) := by split <;> omega
      rw [e3]
      by_cases g12 : (if most ≤ f then 1 else f + 1) = most
      · simp -implicitDefEqProofs [g12, e2]
        all_goals exact ⟨rfl, rfl⟩
      · have g12' : ((if most ≤ f then 1 else f + 1) == most) = false := by simpa using g12
        simp -implicitDefEqProofs [g12', g12]
        all_goals exact ⟨rfl, rfl⟩
    · rintro _ g ⟨rfl, rfl⟩
      refine ⟨by simp, ?_⟩
      have e3 : (if most ≤ f then 0 else f) + 1 = (if most ≤ f then 1 else f + 1) := by split <;> omega
      simp -implicitDefEqProofs
      exact Ans.of (by rw [ek, e3]; rfl)
end Go.AI

/- States: copies, users and sessions that are found, addresses that are let free. -/
set_option linter.all false
namespace Go.AI
variable {A : Type} {R : Adts A}
theorem sc_cs {v : AVal} (h : v.scalar = true) : v.cs = [v] := by cases v <;> simp [AVal.scalar] at h <;> rfl
/-- A state's value. -/
structure IsSta (sv : AVal) (s : Sta) : Prop where
  ex : ∃ u x a p, sv = .agg [.int .i64 s.boots, .int .i64 s.epoch, .int .i64 s.next, u, x, a, p] ∧ IsFz Usr.row u s.users ∧ IsFz Ses.row x s.sess ∧ IsFz Adr.row a s.addrs ∧ IsFz iRow p s.spent
theorem sta0_is : IsSta (.agg [.int .i64 0, .int .i64 0, .int .i64 0, .nils, .nils, .nils, .nils]) sta0 := ⟨_, _, _, _, rfl, IsFz.nil, IsFz.nil, IsFz.nil, IsFz.nil⟩
theorem IsSta.ix {sv : AVal} {s : Sta} (h : IsSta sv s) : sv.ix 0 = true := by
  obtain ⟨u, x, a, p, rfl, h1, h2, h3, h4⟩ := h
  simp [AVal.ix, ixs, h1.ix0, h2.ix0, h3.ix0, h4.ix0]
/-- Slices are no longer than that. -/
structure StaLe (s : Sta) (n : Nat) : Prop where
  u : s.users.length ≤ n
  x : s.sess.length ≤ n
  a : s.addrs.length ≤ n
  p : s.spent.length ≤ n
/-- What a copy yields. -/
structure CopyAt (L : Nat) (h : AHeap A) (s : Sta) (xu xs xa xp : AVal) : Prop where
  u : Own Usr.row 9 t_api_User xu s.users h
  x : Own Ses.row 4 t_api_Session xs s.sess h
  a : IsFz Adr.row xa s.addrs
  p : Own iRow 1 t_int xp s.spent h
  bu : ∀ b, xu.blk = some b → L ≤ b
  bx : ∀ b, xs.blk = some b → L ≤ b
  bp : ∀ b, xp.blk = some b → L ≤ b
  ux : ∀ b, xu.blk = some b → xs.blk ≠ some b
  up : ∀ b, xu.blk = some b → xp.blk ≠ some b
  xp : ∀ b, xs.blk = some b → xp.blk ≠ some b
theorem Own.blt {α : Type} {f : α → List AVal} {w : Nat} {e : TypeId} {a : AVal} {l : List α} {h : AHeap A} (ha : Own f w e a l h) {b : Nat} (hb : a.blk = some b) : b < h.length := by
  obtain ⟨cs, hc⟩ := ha.at hb; exact (List.getElem?_eq_some_iff.1 hc).1
theorem state_Copy_ok (hR : R.Ok) {sv : AVal} {s : Sta} (hs : IsSta sv s) {n : Nat} (hn : StaLe s n) (hn2 : n ≤ 2000000) {h : AHeap A} {K : AVal → AHeap A → Prop}
    (hk : ∀ xu xs xa xp h', CopyAt h.length h' s xu xs xa xp → (∀ k, k < h.length → h'[k]? = h[k]?) → h.length ≤ h'.length → K (.agg [.int .i64 s.boots, .int .i64 s.epoch, .int .i64 s.next, xu, xs, xa, xp]) h') : Tri Pr R n_state_Copy [sv] h K := by
  obtain ⟨u, x, a, p, rfl, hu, hx, ha, hp⟩ := hs
  obtain ⟨n1, n2, n3, n4⟩ := hn
  have su := hu.sc
  have sx := hx.sc
  have sa := ha.sc
  have sp := hp.sc
  apply c_state_Copy
  unfold p_state_Copy
  simp -implicitDefEqProofs [su, sx, sa, sp]
  refine Clone_api_User_own hR hu (by omega) fun u' h1 o1 f1 l1 b1 => ?_
  have su' := o1.sc
  have cu' := sc_cs su'
  simp only [List.length_append, List.length_cons, List.length_nil] at f1 l1 b1
  have q0 : h1[h.length]? = some (.cells t_api_State [.int .i64 s.boots, .int .i64 s.epoch, .int .i64 s.next, u, x, a, p]) := (f1 _ (by omega)).trans (by simp)
  have q1 : h1[h.length + 1]? = some (.cells t_api_State [.int .i64 0, .int .i64 0, .int .i64 0, .nils, .nils, .nils, .nils]) := (f1 _ (by omega)).trans (by simp)
  simp -implicitDefEqProofs [q0, AObj.read]
  refine Clone_api_Session_own hR hx (by omega) fun x' h2 o2 f2 l2 b2 => ?_
  have sx' := o2.sc
  have cx' := sc_cs sx'
  have q0 := (f2 _ (by omega)).trans q0
  have q1 := (f2 _ (by omega)).trans q1
  have w1 : h.length < h2.length := by omega
  have r1 : ∀ o, (h2.set h.length o)[h.length]? = some o := fun o => List.getElem?_set_self w1
  simp -implicitDefEqProofs [q0, AObj.read, su', cu', sx', cx', r1]
  obtain ⟨h3, hh3⟩ : ∃ h3, h3 = (h2.set h.length (.cells t_api_State [.int .i64 s.boots, .int .i64 s.epoch, .int .i64 s.next, u', x', a, p])) := ⟨_, rfl⟩
  rw [← hh3]
  have q0 : h3[h.length]? = some (.cells t_api_State [.int .i64 s.boots, .int .i64 s.epoch, .int .i64 s.next, u', x', a, p]) := by rw [hh3, List.getElem?_set_self w1]
  have k3 : ∀ k, k ≠ h.length → h3[k]? = h2[k]? := fun k hk => by rw [hh3, List.getElem?_set_ne (Ne.symm hk)]
  have l3 : h3.length = h2.length := by rw [hh3, List.length_set]
  have q1 := (k3 _ (by omega)).trans q1
  clear hh3
  refine Clone_api_Address_ok hR ha (by omega) fun a' ha' => ?_
  have sa' := ha'.sc
  have ca' := sc_cs sa'
  simp -implicitDefEqProofs [q0, AObj.read]
  refine Clone_int_own hR hp (by omega) fun p' h4 o4 f4 l4 b4 => ?_
  have sp' := o4.sc
  have cp' := sc_cs sp'
  have q0 := (f4 _ (by omega)).trans q0
  have q1 := (f4 _ (by omega)).trans q1
  have w4 : h.length < h4.length := by omega
  have w5 : h.length + 1 < h4.length := by omega
  have r1 : ∀ o, (h4.set h.length o)[h.length]? = some o := fun o => List.getElem?_set_self w4
  have r2 : ∀ o, (h4.set h.length o)[h.length + 1]? = h4[h.length + 1]? := fun o => List.getElem?_set_ne (by omega)
  have r3 : ∀ o o', ((h4.set h.length o).set (h.length + 1) o')[h.length + 1]? = some o' := fun o o' => List.getElem?_set_self (by simpa using w5)
  simp -implicitDefEqProofs [q0, q1, AObj.read, sa', ca', sp', cp', r1, r2, r3, su', sx']
  refine hk u' x' a' p' _ ⟨?_, ?_, ha', ?_, fun b hb => ?_, fun b hb => ?_, fun b hb => ?_, fun b hb hb2 => ?_, fun b hb hb2 => ?_, fun b hb hb2 => ?_⟩ (fun k hk => ?_) (by simp; omega)
  · refine o1.move' fun b hb => ?_
    have := b1 b hb
    have := o1.blt hb
    rw [List.getElem?_set_ne (by omega), List.getElem?_set_ne (by omega), f4 b (by omega), k3 b (by omega), f2 b (by omega)]
  · refine o2.move' fun b hb => ?_
    have := b2 b hb
    have := o2.blt hb
    rw [List.getElem?_set_ne (by omega), List.getElem?_set_ne (by omega), f4 b (by omega), k3 b (by omega)]
  · refine o4.move' fun b hb => ?_
    have := b4 b hb
    rw [List.getElem?_set_ne (by omega), List.getElem?_set_ne (by omega)]
  · have := b1 b hb; omega
  · have := b2 b hb; omega
  · have := b4 b hb; omega
  · have := b2 b hb2; have := o1.blt hb; omega
  · have := b4 b hb2; have := o1.blt hb; omega
  · have := b4 b hb2; have := o2.blt hb; omega
  · rw [List.getElem?_set_ne (by omega), List.getElem?_set_ne (by omega), f4 k (by omega), k3 k (by omega), f2 k (by omega), f1 k (by omega), List.getElem?_append_left hk]
end Go.AI
