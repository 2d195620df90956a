/- From a row to the abstract heap. -/
import Derived.Test.YtmdlhohhimdkaaaGreatAi
import Derived.ProofKit
import Derived.OpenShut
set_option linter.all false
namespace Go.AI
open Go.ChangeShapes Go.WideShapes Go.ChangeAt Go.RowKit
variable {H : Type} {enc : TypeId × Value → H} {P : Program}

/-- Fields that lie one behind the other. -/
def contig (P : Program) : Nat → List Field → Option Nat
  | o, [] => some o
  | o, f :: r => if f.offset = o then contig P (o + P.cellsOf f.type) r else none
/-- Abstract cells of a type. -/
def TR (P : Program) : Nat → TypeId → List AVal → Prop
  | 0, _, _ => False
  | n + 1, t, as =>
    match P.underlying t with
    | some .bool => ∃ b, as = [.bool b]
    | some (.int k) => ∃ x, as = [.int k x] ∧ (Lit.int k x).wf = true
    | some .string => ∃ s : List UInt8, as = [.str s] ∧ s.length ≤ reachBytes
    | some (.slice e) => as = [.nils] ∨ ∃ b o len cap rows, as = [.lst b o len cap (List.flatten rows)] ∧ len ≤ cap ∧ cap ≤ maxLen ∧ rows.length = len ∧ ∀ r ∈ rows, r.length = P.cellsOf e ∧ TR P n e r
    | some (.struct fs) => as.length = P.cellsOf t ∧ ∀ f ∈ fs.toList, TR P n f.type ((as.drop f.offset).take (P.cellsOf f.type))
    | _ => False
/-- Types of which nothing is a place; 'sl': slices may be. -/
def sup (P : Program) : Nat → Bool → TypeId → Bool
  | 0, _, _ => false
  | n + 1, sl, t =>
    match P.underlying t with
    | some .bool | some (.int _) | some .string => true
    | some (.slice e) => sl && sup P n false e
    | some (.struct fs) => (contig P 0 fs.toList == some (P.cellsOf t)) && fs.toList.all fun f => sup P n sl f.type
    | _ => false

/-- All rows of a world as never written again. -/
def zAll (w : World) : Fz := fun b => match w.heap[b]? with | some (.cells c _ _) => some c | _ => none
def plW (w : World) : Pl := ⟨fun _ => default, zAll w⟩
/-- A slice lies plainly in a row. -/
def plain (w : World) (v : Value) : Prop := ∀ a l c, v = .slice (some a) l c → a.spot = none ∧ ∃ cs e fz, w.heap[a.block]? = some (.cells cs e fz)

theorem mapM_some {α β : Type} {f : α → Option β} : ∀ {l : List α} {r : List β}, l.mapM f = some r → r.length = l.length ∧ ∀ (i : Nat) (x : α), l[i]? = some x → ∃ y, r[i]? = some y ∧ f x = some y
  | [], r, h => by simp at h; subst h; simp
  | a :: l, r, h => by
    rw [List.mapM_cons] at h
    simp only [Option.bind_eq_bind, Option.bind_eq_some_iff, Option.pure_def, Option.some.injEq] at h
    obtain ⟨y, hy, r', hr', rfl⟩ := h
    obtain ⟨h1, h2⟩ := mapM_some hr'
    refine ⟨by simp [h1], fun i x hx => ?_⟩
    cases i with
    | zero => simp at hx; subst hx; exact ⟨y, rfl, hy⟩
    | succ i => simp at hx; simpa using h2 i x hx

theorem cells_get {w : World} {a : Addr} {n : Nat} {cs : List Value} (h : w.cells? 0 a n = some cs) : cs.length = n ∧ ∀ j, j < n → ∃ v, cs[j]? = some v ∧ w.cell? (a.add j) = some v := by
  unfold World.cells? at h
  rw [if_pos (Nat.zero_le _)] at h
  obtain ⟨h1, h2⟩ := mapM_some h
  refine ⟨by simpa using h1, fun j hj => ?_⟩
  obtain ⟨y, hy, he⟩ := h2 j j (by simp [hj])
  exact ⟨y, hy, he⟩

theorem flat_get {rows : List (List AVal)} {sz : Nat} (h : ∀ r ∈ rows, r.length = sz) : ∀ (k : Nat) (x : AVal), rows.flatten[k]? = some x → ∃ i j r, rows[i]? = some r ∧ r[j]? = some x ∧ k = i * sz + j ∧ j < sz := by
  induction rows with
  | nil => intro k x hx; simp at hx
  | cons r rows ih =>
    intro k x hx
    have hr := h r (by simp)
    rw [List.flatten_cons] at hx
    by_cases hk : k < r.length
    · rw [List.getElem?_append_left hk] at hx
      exact ⟨0, k, r, rfl, hx, by omega, by omega⟩
    · rw [List.getElem?_append_right (by omega)] at hx
      obtain ⟨i, j, r', h1, h2, h3, h4⟩ := ih (fun r hr => h r (by simp [hr])) _ _ hx
      refine ⟨i + 1, j, r', by simpa using h1, h2, ?_, h4⟩
      rw [Nat.add_mul]; omega

theorem fields_TR {w : World} {n : Nat} {cs : List Value} : ∀ (fs : List Field) (o m : Nat), contig P o fs = some m → cs.length = m → o ≤ m →
    (∀ f ∈ fs, ∃ as, (cs.drop f.offset).take (P.cellsOf f.type) = concs (plW w) as ∧ belows (zAll w) 0 as ∧ TR P n f.type as) →
    ∃ as, cs.drop o = concs (plW w) as ∧ belows (zAll w) 0 as ∧ ∀ f ∈ fs, o ≤ f.offset ∧ TR P n f.type ((as.drop (f.offset - o)).take (P.cellsOf f.type))
  | [], o, m, hc, hl, ho, _ => by
    simp [contig] at hc; subst hc
    exact ⟨[], by rw [List.drop_eq_nil_of_le (by omega)]; rfl, trivial, by simp⟩
  | f :: r, o, m, hc, hl, ho, hf => by
    unfold contig at hc
    split at hc
    · rename_i hoff
      have hle : ∀ (fs : List Field) (o m : Nat), contig P o fs = some m → o ≤ m := by
        intro fs
        induction fs with
        | nil => intro o m h; simp [contig] at h; omega
        | cons g gs ih =>
          intro o m h
          unfold contig at h
          split at h
          · have := ih _ _ h; omega
          · simp at h
      have h1 := hle _ _ _ hc
      obtain ⟨as, a1, a2, a3⟩ := hf f (by simp)
      obtain ⟨bs, b1, b2, b3⟩ := fields_TR r _ m hc hl h1 (fun g hg => hf g (by simp [hg]))
      have hal : as.length = P.cellsOf f.type := by
        have := congrArg List.length a1
        simp only [concs_length, List.length_take, List.length_drop] at this
        omega
      refine ⟨as ++ bs, ?_, ?_, fun g hg => ?_⟩
      · rw [concs_append, ← a1, ← b1, hoff]
        have e : (cs.drop o).drop (P.cellsOf f.type) = cs.drop (o + P.cellsOf f.type) := by rw [List.drop_drop]
        rw [← e]
        exact (List.take_append_drop _ _).symm
      · rw [belows_iff]
        intro v hv
        rcases List.mem_append.1 hv with hv | hv
        · exact (belows_iff _ _ _).1 a2 v hv
        · exact (belows_iff _ _ _).1 b2 v hv
      · rcases List.mem_cons.1 hg with rfl | hg
        · refine ⟨by omega, ?_⟩
          rw [show g.offset - o = 0 by omega, List.drop_zero, ← hal, List.take_left]
          exact a3
        · obtain ⟨g1, g2⟩ := b3 g hg
          refine ⟨by omega, ?_⟩
          rw [List.drop_append, List.drop_eq_nil_of_le (by omega), List.nil_append]
          have e : g.offset - o - as.length = g.offset - (o + P.cellsOf f.type) := by omega
          rw [e]; exact g2
    · simp at hc

theorem sup_slice {n : Nat} {sl : Bool} {t e : TypeId} (hu : P.underlying t = some (.slice e)) (h : sup P (n + 1) sl t = true) : sl = true ∧ sup P n false e = true := by
  unfold sup at h; rw [hu] at h; simpa using h
theorem sup_struct {n : Nat} {sl : Bool} {t : TypeId} {fs : Array Field} (hu : P.underlying t = some (.struct fs)) (h : sup P (n + 1) sl t = true) : contig P 0 fs.toList = some (P.cellsOf t) ∧ ∀ f ∈ fs.toList, sup P n sl f.type = true := by
  unfold sup at h; rw [hu] at h
  simp only [Bool.and_eq_true, beq_iff_eq, List.all_eq_true] at h
  exact h
theorem weightsAll_mem {P : Program} {e : TypeId} {n : Nat} {d : DataW H} : ∀ {l : List (DataW H)}, d ∈ l → n ∈ d.weights P e → n ∈ DataW.weightsAll P e l
  | x :: r, hd, hn => by
    simp only [DataW.weightsAll, List.mem_append]
    rcases List.mem_cons.1 hd with rfl | hd
    · exact .inl hn
    · exact .inr (weightsAll_mem hd hn)
theorem weightsEach_mem {P : Program} {n : Nat} {d : DataW H} {t : TypeId} : ∀ {ts : List TypeId} {l : List (DataW H)} {i : Nat}, ts[i]? = some t → l[i]? = some d → n ∈ d.weights P t → n ∈ DataW.weightsEach P ts l
  | t' :: ts, x :: r, 0, ht, hd, hn => by
    simp at ht hd; subst ht hd
    simp only [DataW.weightsEach, List.mem_append]
    exact .inl hn
  | t' :: ts, x :: r, i + 1, ht, hd, hn => by
    simp only [DataW.weightsEach, List.mem_append]
    exact .inr (weightsEach_mem (i := i) (by simpa using ht) (by simpa using hd) hn)
  | [], _, _, ht, _, _ => by simp at ht
  | _ :: _, [], _, _, hd, _ => by simp at hd
/-- What reads as data of such a type is told by abstract cells. -/
theorem trod_TR {w : World} {sp : Nat → Bool} {held : Bool} : ∀ (n : Nat) (sl : Bool) (t : TypeId) (cs : List Value) (x : DataW H × List MemPlace), DataW.trod enc P w 0 sp held n t cs = some x → sup P n sl t = true →
    (sl = true → ∀ v ∈ cs, plain w v) → (∀ m ∈ x.1.weights P t, m ≤ reachBytes) → ∃ as, cs = concs (plW w) as ∧ belows (zAll w) 0 as ∧ TR P n t as := by
  intro n
  induction n with
  | zero => intro sl t cs x h; simp [DataW.trod] at h
  | succ n ih =>
    intro sl t cs x h hs hp hwt
    cases hu : P.underlying t with
    | none => unfold sup at hs; rw [hu] at hs; simp at hs
    | some d =>
      cases d with
      | bool =>
        obtain ⟨b, rfl, _⟩ := DataW.trod_bool hu h
        exact ⟨[.bool b], by simp [concs, conc], by simp [belows, below], by unfold TR; rw [hu]; exact ⟨b, rfl⟩⟩
      | int k =>
        obtain ⟨m, rfl, _, hw⟩ := DataW.trod_int hu h
        exact ⟨[.int k m], by simp [concs, conc], by simp [belows, below], by unfold TR; rw [hu]; exact ⟨m, rfl, hw⟩⟩
      | string =>
        obtain ⟨s, rfl, rfl, hw⟩ := DataW.trod_string hu h
        have hl : s.data.toList.length ≤ reachBytes := hwt _ (by simp [DataW.weights])
        exact ⟨[.str s.data.toList], by simp [concs, conc], by simp [belows, below], by unfold TR; rw [hu]; exact ⟨s.data.toList, rfl, hl⟩⟩
      | slice e =>
        obtain ⟨rfl, hs2⟩ := sup_slice hu hs
        have hTR : ∀ as, (as = [.nils] ∨ ∃ b o len cap rows, as = [.lst b o len cap (List.flatten rows)] ∧ len ≤ cap ∧ cap ≤ maxLen ∧ rows.length = len ∧ ∀ r ∈ rows, r.length = P.cellsOf e ∧ TR P n e r) → TR P (n + 1) t as := by
          intro as h; unfold TR; rw [hu]; exact h
        rcases DataW.trod_slice hu h with ⟨rfl, _⟩ | ⟨a, len, cap, elems, rest, n', hn, rfl, rfl, _, hlc, hcap, hlen, hget, _, _⟩
        · exact ⟨[.nils], by simp [concs, conc], by simp [belows, below], hTR _ (.inl rfl)⟩
        · have : n' = n := by omega
          subst this
          obtain ⟨hspot, c0, e0, fz0, hblk⟩ := hp rfl (.slice (some a) len cap) (by simp) a len cap rfl
          have hrow : ∀ i, i < len → ∃ cs as, w.cells? 0 (a.add (i * P.cellsOf e)) (P.cellsOf e) = some cs ∧ cs = concs (plW w) as ∧ belows (zAll w) 0 as ∧ TR P n' e as := by
            intro i hi
            have hg := hget i hi
            have hsome : elems[i]? = some elems[i] := by simp [show i < elems.length by omega]
            rw [hsome, Option.bind_eq_some_iff] at hg
            obtain ⟨cs, hcs, ht⟩ := hg
            obtain ⟨as, h2, h3, h4⟩ := ih false e cs _ ht hs2 (by simp) (fun m hm => hwt m (by
              simp only [DataW.weights, hu, List.mem_cons, List.mem_append]
              exact .inr (.inl (weightsAll_mem (List.mem_map.2 ⟨_, List.getElem_mem _, rfl⟩) hm))))
            exact ⟨cs, as, hcs, h2, h3, h4⟩
          have hrows : ∀ m, m ≤ len → ∃ rows : List (List AVal), rows.length = m ∧ ∀ (i : Nat) (r : List AVal), rows[i]? = some r → (∃ cs, w.cells? 0 (a.add (i * P.cellsOf e)) (P.cellsOf e) = some cs ∧ cs = concs (plW w) r) ∧ belows (zAll w) 0 r ∧ TR P n' e r := by
            intro m
            induction m with
            | zero => intro _; exact ⟨[], rfl, by simp⟩
            | succ m ihm =>
              intro hm
              obtain ⟨rows, r1, r2⟩ := ihm (by omega)
              obtain ⟨cs, as, k1, k2, k3, k4⟩ := hrow m (by omega)
              refine ⟨rows ++ [as], by simp [r1], fun i r hr => ?_⟩
              by_cases hi : i < rows.length
              · rw [List.getElem?_append_left hi] at hr; exact r2 i r hr
              · have hi2 := (List.getElem?_eq_some_iff.1 hr).1
                rw [List.length_append, List.length_singleton] at hi2
                have : i = m := by omega
                subst this
                rw [List.getElem?_append_right (by omega), r1] at hr
                simp at hr; subst hr
                exact ⟨⟨cs, k1, k2⟩, k3, k4⟩
          obtain ⟨rows, r1, r2⟩ := hrows len (Nat.le_refl _)
          have hmem : ∀ r ∈ rows, ∃ i : Nat, rows[i]? = some r := fun r hr => by
            obtain ⟨i, hi, he⟩ := List.getElem_of_mem hr
            exact ⟨i, by rw [← he]; exact List.getElem?_eq_getElem hi⟩
          have hsz : ∀ r ∈ rows, r.length = P.cellsOf e := fun r hr => by
            obtain ⟨i, hi⟩ := hmem r hr
            obtain ⟨⟨cs, q1, q2⟩, _, _⟩ := r2 i r hi
            have := (cells_get q1).1
            rw [q2, concs_length] at this; exact this
          refine ⟨[.lst a.block a.off len cap rows.flatten], ?_, ?_, hTR _ (.inr ⟨a.block, a.off, len, cap, rows, rfl, hlc, hcap, r1, fun r hr => ⟨hsz r hr, ?_⟩⟩)⟩
          · simp only [concs, conc]
            cases a
            simp only at hspot
            subst hspot; rfl
          · simp only [belows, below]
            refine ⟨⟨⟨c0, by simp [zAll, hblk], fun k x hx => ?_⟩, ?_⟩, trivial⟩
            · obtain ⟨i, j, r, h5, h6, rfl, h7⟩ := flat_get hsz k x hx
              obtain ⟨⟨cs, q1, q2⟩, q3, _⟩ := r2 i r h5
              obtain ⟨v, h8, h9⟩ := (cells_get q1).2 j h7
              have hv : v = conc (plW w) x := by
                rw [q2, concs_get, h6] at h8
                simpa using h8.symm
              have hadd : (a.add (i * P.cellsOf e)).add j = ⟨a.block, a.off + (i * P.cellsOf e + j), none⟩ := by
                cases a with
                | mk b o s =>
                  simp only at hspot
                  subst hspot
                  rw [addr_add, addr_add, Nat.add_assoc]
              rw [hadd] at h9
              simp only [World.cell?, hblk] at h9
              rw [conc_pl0 (ρ := plW w) ((belows_iff _ _ _).1 q3 x (List.mem_of_getElem? h6)), ← hv]
              simpa using h9
            · rw [belows_iff]
              intro x hx
              obtain ⟨r, hr, hxr⟩ := List.mem_flatten.1 hx
              obtain ⟨i, hi⟩ := hmem r hr
              exact (belows_iff _ _ _).1 (r2 i r hi).2.1 x hxr
          · obtain ⟨i, hi⟩ := hmem r hr
            exact (r2 i r hi).2.2
      | struct fs =>
        obtain ⟨hcon, hs⟩ := sup_struct hu hs
        obtain ⟨xs, n', hn, rfl, hl, hxl, hget⟩ := DataW.trod_struct hu h
        have : n' = n := by omega
        subst this
        obtain ⟨as, a1, a2, a3⟩ := fields_TR (w := w) (n := n') (cs := cs) fs.toList 0 (P.cellsOf t) hcon hl (Nat.zero_le _) (fun f hf => by
          obtain ⟨i, hi, he⟩ := List.getElem_of_mem hf
          have hfi : fs[i]? = some f := by rw [← he]; simp at hi ⊢
          have hg := hget i f hfi
          have hi' : i < xs.length := by simp at hi; omega
          rw [List.getElem?_eq_getElem hi'] at hg
          exact ih sl _ _ _ hg (hs f hf) (fun hsl v hv => hp hsl v (List.mem_of_mem_drop (List.mem_of_mem_take hv))) (fun m hm => hwt m (by
            simp only [DataW.weights, hu]
            exact weightsEach_mem (i := i) (t := f.type) (by rw [List.getElem?_map]; simp [hfi]) (by rw [List.getElem?_map, List.getElem?_eq_getElem hi']; rfl) hm)))
        refine ⟨as, by simpa using a1, a2, ?_⟩
        unfold TR
        rw [hu]
        refine ⟨?_, fun f hf => by simpa using (a3 f hf).2⟩
        have := congrArg List.length a1
        simp only [concs_length, List.drop_zero] at this
        omega
      | _ => unfold sup at hs; rw [hu] at hs; cases hs

theorem sup_up : ∀ (n : Nat) (sl : Bool) (t : TypeId), sup P n sl t = true → sup P (n + 1) sl t = true := by
  intro n
  induction n with
  | zero => intro sl t h; simp [sup] at h
  | succ n ih =>
    intro sl t h
    cases hu : P.underlying t with
    | none => unfold sup at h; rw [hu] at h; cases h
    | some d =>
      cases d with
      | bool => unfold sup; rw [hu]
      | int k => unfold sup; rw [hu]
      | string => unfold sup; rw [hu]
      | slice e =>
        obtain ⟨rfl, h2⟩ := sup_slice hu h
        unfold sup; rw [hu]; simp [ih _ _ h2]
      | struct fs =>
        obtain ⟨h1, h2⟩ := sup_struct hu h
        unfold sup; rw [hu]
        simp only [h1, beq_self_eq_true, Bool.true_and, List.all_eq_true]
        exact fun f hf => ih _ _ (h2 f hf)
      | _ => unfold sup at h; rw [hu] at h; cases h
theorem sup_le {n m : Nat} (hnm : n ≤ m) {sl : Bool} {t : TypeId} (h : sup P n sl t = true) : sup P m sl t = true := by
  induction hnm with
  | refl => exact h
  | step _ ih => exact sup_up _ _ _ ih
theorem TR_down : ∀ (k m : Nat) (sl : Bool) (t : TypeId) (as : List AVal), sup P k sl t = true → k ≤ m → TR P m t as → TR P k t as := by
  intro k
  induction k with
  | zero => intro m sl t as h; simp [sup] at h
  | succ k ih =>
    intro m sl t as h hm ht
    obtain ⟨m, rfl⟩ : ∃ j, m = j + 1 := ⟨m - 1, by omega⟩
    cases hu : P.underlying t with
    | none => unfold sup at h; rw [hu] at h; cases h
    | some d =>
      unfold TR at ht ⊢
      rw [hu] at ht ⊢
      cases d with
      | bool => exact ht
      | int k => exact ht
      | string => exact ht
      | slice e =>
        obtain ⟨rfl, h2⟩ := sup_slice hu h
        rcases ht with ht | ⟨b, o, len, cap, rows, h3, h4, h5, h6, h7⟩
        · exact .inl ht
        · exact .inr ⟨b, o, len, cap, rows, h3, h4, h5, h6, fun r hr => ⟨(h7 r hr).1, ih m false e r h2 (by omega) (h7 r hr).2⟩⟩
      | struct fs =>
        obtain ⟨h1, h2⟩ := sup_struct hu h
        exact ⟨ht.1, fun f hf => ih m sl _ _ (h2 f hf) (by omega) (ht.2 f hf)⟩
      | _ => exact ht

theorem plain_of {w : World} {r : Reach} {base : Nat} {u : TypeId} {v : Value} (h : Cell.okWide P w r base u v) : plain w v := by
  intro a l c hv
  subst hv
  unfold Cell.okWide at h
  cases hu : P.underlying u with
  | none => rw [hu] at h; simp [Cell.ok, hu] at h
  | some d =>
    rw [hu] at h
    cases d <;> simp [Cell.ok, hu] at h
    obtain ⟨_, _, _, hs, row, cells, hsh, _⟩ := h
    refine ⟨hs, ?_⟩
    unfold World.shape? at hsh
    split at hsh
    · rename_i cs e fz hb; exact ⟨cs, e, fz, hb⟩
    · simp at hsh
theorem plain_cells {w : World} {r : Reach} {base : Nat} {t : TypeId} {v : Value} (h : Value.okWide P w r base t v) : ∀ x ∈ v.cells.toList, plain w x := by
  unfold Value.okWide at h
  intro x hx
  split at h
  · obtain ⟨cs, rfl, _, ts, _, _, hc⟩ := h
    simp only [Value.cells] at hx
    obtain ⟨i, hi, rfl⟩ := List.getElem_of_mem hx
    have hi' : i < cs.size := by simpa using hi
    obtain ⟨u, _, hu⟩ := hc i cs[i] (by simp [hi'])
    simpa using plain_of hu
  · obtain ⟨cs, rfl, _, ts, _, _, hc⟩ := h
    simp only [Value.cells] at hx
    obtain ⟨i, hi, rfl⟩ := List.getElem_of_mem hx
    have hi' : i < cs.size := by simpa using hi
    obtain ⟨u, _, hu⟩ := hc i cs[i] (by simp [hi'])
    simpa using plain_of hu
  · have hp := plain_of h
    cases v <;> simp only [Value.cells] at hx <;> first
      | (simp at hx; subst hx; exact hp)
      | (intro a l c he; subst he; exfalso; unfold Cell.okWide at h; split at h <;> simp_all [Cell.ok])

/-- An abstract value out of its cells. -/
def pack (P : Program) (t : TypeId) (as : List AVal) : AVal := if aggT P t = true then .agg as else as.headD .any
theorem pack_fits {w : World} {n : Nat} {t : TypeId} {v : Value} {base : Nat} {as : List AVal} (hok : Value.okWide P w .any base t v) (hc : v.cells.toList = concs (plW w) as) (hb : belows (zAll w) 0 as) (ht : TR P n t as) :
    VR (plW w) (pack P t as) v ∧ below (zAll w) 0 (pack P t as) := by
  unfold pack
  unfold Value.okWide at hok
  cases n with
  | zero => exact ht.elim
  | succ n =>
    unfold TR at ht
    cases hu : P.underlying t with
    | none => rw [hu] at ht; exact ht.elim
    | some d =>
      rw [hu] at ht hok
      have one : ∀ a : AVal, as = [a] → v.cells.toList = [conc (plW w) a] → (∀ cs, v ≠ .agg cs) → VR (plW w) (as.headD .any) v ∧ below (zAll w) 0 (as.headD .any) := by
        intro a ha hv hn
        subst ha
        simp only [List.headD_cons]
        refine ⟨?_, by simpa [belows] using hb⟩
        have : v = conc (plW w) a := by
          cases v <;> first | (exact absurd rfl (hn _)) | simpa [Value.cells] using hv
        rw [this]; exact .same a
      cases d with
      | bool =>
        obtain ⟨b, rfl⟩ := ht
        rw [if_neg (by simp [aggT, hu])]
        exact one _ rfl (by simpa [concs] using hc) (by rintro cs rfl; simp [Cell.okWide, hu, Cell.ok] at hok)
      | int k =>
        obtain ⟨x, rfl, _⟩ := ht
        rw [if_neg (by simp [aggT, hu])]
        exact one _ rfl (by simpa [concs] using hc) (by rintro cs rfl; simp [Cell.okWide, hu, Cell.ok] at hok)
      | string =>
        obtain ⟨x, rfl, _⟩ := ht
        rw [if_neg (by simp [aggT, hu])]
        exact one _ rfl (by simpa [concs] using hc) (by rintro cs rfl; simp [Cell.okWide, hu, Cell.ok] at hok)
      | slice e =>
        rw [if_neg (by simp [aggT, hu])]
        rcases ht with rfl | ⟨b, o, len, cap, rows, rfl, _⟩
        · exact one _ rfl (by simpa [concs] using hc) (by rintro cs rfl; simp [Cell.okWide, hu, Cell.ok] at hok)
        · exact one _ rfl (by simpa [concs] using hc) (by rintro cs rfl; simp [Cell.okWide, hu, Cell.ok] at hok)
      | struct fs =>
        rw [if_pos (by simp [aggT, hu])]
        obtain ⟨cs, rfl, _, _⟩ := hok
        simp only [Value.cells] at hc
        refine ⟨VR.of_one (.inr ?_), by simpa [below] using hb⟩
        simp only [conc, ← hc]
      | _ => exact ht.elim

/-- The arguments, told by abstract values. -/
theorem args_TR {w : World} {sp : Nat → Bool} {held : Bool} {base : Nat} {us : List TypeId} {gs : List (DataW H)} : ∀ {ts : List TypeId} {vs : List Value} {ds : List (DataW H)} {ps : List MemPlace}, DataW.TrodAll enc P w 0 sp held ts vs ds ps →
    (∀ t ∈ ts, sup P 20 true t = true) → (∀ (j : Nat) t v, ts[j]? = some t → vs[j]? = some v → Value.okWide P w .any base t v) → (DataW.weightsEach P (ts ++ us) (ds ++ gs)).all (· ≤ reachBytes) = true →
    ∃ ass : List (List AVal), ass.length = ts.length ∧ (∀ (j : Nat) t as, ts[j]? = some t → ass[j]? = some as → TR P 20 t as) ∧
      VRs (plW w) (List.zipWith (pack P) ts ass) vs ∧ belows (zAll w) 0 (List.zipWith (pack P) ts ass)
  | [], [], [], _, _, _, _, _ => ⟨[], rfl, by simp, ⟨rfl, by simp⟩, trivial⟩
  | t :: ts, v :: vs, d :: ds, _, ⟨p, q, ⟨fuel, h1⟩, h2, _⟩, hs, hok, hw => by
    have hw1 : ∀ m ∈ d.weights P t, m ≤ reachBytes := fun m hm => by
      have := List.all_eq_true.1 hw m (by simp only [List.cons_append, DataW.weightsEach, List.mem_append]; exact .inl hm)
      simpa using this
    have hw2 : (DataW.weightsEach P (ts ++ us) (ds ++ gs)).all (· ≤ reachBytes) = true := List.all_eq_true.2 fun m hm =>
      List.all_eq_true.1 hw m (by simp only [List.cons_append, DataW.weightsEach, List.mem_append]; exact .inr hm)
    obtain ⟨ass, a1, a2, a3, a4⟩ := args_TR h2 (fun t ht => hs t (by simp [ht])) (fun j t v ht hv => hok (j + 1) t v (by simpa using ht) (by simpa using hv)) hw2
    have ho := hok 0 t v rfl rfl
    have hst := hs t (by simp)
    have h3 := DataW.trod_le (m := fuel + 20) (by omega) h1
    obtain ⟨as, b1, b2, b3⟩ := trod_TR (fuel + 20) true t _ _ h3 (sup_le (by omega) hst) (fun _ => plain_cells ho) hw1
    have b4 := TR_down 20 (fuel + 20) true t as hst (by omega) b3
    obtain ⟨c1, c2⟩ := pack_fits ho b1 b2 b4
    refine ⟨as :: ass, by simp [a1], fun j t' as' ht ha => ?_, ⟨by simp [a3.1], fun j a ha => ?_⟩, ?_⟩
    · cases j with
      | zero => simp at ht ha; subst ht; subst ha; exact b4
      | succ j => exact a2 j t' as' (by simpa using ht) (by simpa using ha)
    · cases j with
      | zero => simp at ha; subst ha; exact ⟨v, rfl, c1⟩
      | succ j => obtain ⟨u, hu1, hu2⟩ := a3.2 j a (by simpa using ha); exact ⟨u, by simpa using hu1, hu2⟩
    · simp only [List.zipWith_cons_cons, belows]; exact ⟨c2, a4⟩
  | [], _ :: _, _, _, h, _, _, _ => by simp [DataW.TrodAll] at h
  | [], [], _ :: _, _, h, _, _, _ => by simp [DataW.TrodAll] at h
  | _ :: _, [], _, _, h, _, _, _ => by simp [DataW.TrodAll] at h
  | _ :: _, _ :: _, [], _, h, _, _, _ => by simp [DataW.TrodAll] at h

/-! The call of a statement's function. -/
structure Left (W W' : World) : Prop where
  os : W'.os = W.os
  output : W'.output = W.output
  size : W.heap.size ≤ W'.heap.size
  block : ∀ b, b < W.heap.size → W'.heap[b]? = W.heap[b]?
variable {A : Type} {R : Adts A}
theorem rep_start (w : World) : Rep P R (plW w) (fun _ => []) [] w where
  obj i o h := by simp at h
  out _ _ := rfl
  disj _ _ _ h := by cases h
  fz b c h := by
    refine ⟨?_, by simp⟩
    have h : zAll w b = some c := h
    unfold zAll at h
    split at h
    · rename_i c' e z hb; simp only [Option.some.injEq] at h; subst h; exact ⟨e, z, hb⟩
    · cases h
  lt _ _ h := by cases h
  wf i o h := by simp at h
theorem law_walk {f : FuncId} {as : List AVal} {args : Array Value} {W : World} (t : Tri P R f as [] fun u _ => u = .bool true) (hv : VRs (plW W) as args.toList) (hb : belows (zAll W) 0 as) :
    Calls P f args W fun e W' => e = .returned (.bool true) ∧ Left W W' := by
  have := t (plW W) (fun _ => []) W args.toList (rep_start W) hv hb
  rw [show args.toList.toArray = args by simp] at this
  refine this.mono ?_
  rintro e W' ⟨v, v', ρ', ow', h', rfl, rfl, k1, _, _, f⟩
  refine ⟨?_, f.os, f.output, f.size, fun b hb => f.block b hb (by simp)⟩
  rw [k1.eq (by simp) (by simp)]; rfl
theorem Left.kept {W W' : World} (h : Left W W') (may : MemPlace → Prop) : W.keptBut W' may := by
  refine ⟨h.os, h.output, fun i hi => ?_⟩
  rw [h.block i hi]
  have : ∃ o, W.heap[i]? = some o := ⟨W.heap[i], by simp [hi]⟩
  obtain ⟨o, ho⟩ := this
  rw [ho]
  cases o <;> simp
theorem Left.same {W W' : World} (h : Left W W') {p : MemPlace} (hp : p.block < W.heap.size) : W.sameAt W' p := by
  cases p with
  | cell b off => simp only [World.sameAt, World.cell?]; rw [h.block b hp]
  | map b => exact h.block b hp
theorem trodAll_left {W W' : World} (hl : laidOutB P = true) (h : Left W W') : ∀ {ts : List TypeId} {vs : List Value} {ds : List (DataW H)} {ps : List MemPlace}, DataW.TrodAll enc P W 0 (fun _ => true) true ts vs ds ps →
    (∀ t ∈ ts, P.readableRec t = true ∧ t < P.types.size) → (∀ p ∈ ps, p.block < W.heap.size) → ∀ sp : Nat → Bool, (∀ p ∈ ps, sp p.block = true) → DataW.TrodAll enc P W' 0 sp true ts vs ds ps
  | [], [], [], _, h1, _, _, _, _ => h1
  | t :: ts, v :: vs, d :: ds, ps, ⟨p, q, h1, h2, hps⟩, hr, hlt, sp, hsp => by
    subst hps
    refine ⟨p, q, ?_, ?_, rfl⟩
    · obtain ⟨r1, r2⟩ := hr t (by simp)
      exact WideElems.Trod_stays hl r1 r2 h1 (fun x hx => h.same (hlt x (by simp [hx]))) (fun x hx => hsp x (by simp [hx]))
    · exact trodAll_left hl h h2 (fun t ht => hr t (by simp [ht])) (fun x hx => hlt x (by simp [hx])) sp (fun x hx => hsp x (by simp [hx]))
  | [], _ :: _, _, _, h, _, _, _, _ => by simp [DataW.TrodAll] at h
  | [], [], _ :: _, _, h, _, _, _, _ => by simp [DataW.TrodAll] at h
  | _ :: _, [], _, _, h, _, _, _, _ => by simp [DataW.TrodAll] at h
  | _ :: _, _ :: _, [], _, h, _, _, _, _ => by simp [DataW.TrodAll] at h

/-- What the row of a statement asks behind the call. -/
theorem law_post {f : Func} {s : ChangeSpec} {apart fresh handsOn again : Bool} {W W' : World} {args : Array Value} {ds : List (DataW H)} {before : List MemPlace} {tb : TypeId} (hl : laidOutB P = true) (hr : ∀ t ∈ f.params.toList, P.readableRec t = true ∧ t < P.types.size)
    (hvars : s.vars = []) (hres : f.resultTypes = #[tb]) (htb : P.underlying tb = some .bool) (hspec : s.fn H ds = { results := [.lit (.bool true)], args := ds })
    (hW : DataW.Whole enc P f.params.toList s.vars apart W args.toList ds [] before) (h : Left W W') : s.post enc P f apart fresh handsOn again W args (.bool true) W' := by
  have hW' := hW
  have hlt := hW.lt
  obtain ⟨p, q, hA, hV, rfl, hz, hn⟩ := hW
  rw [hvars] at hV
  have hq : q = [] := by simpa [DataW.TrodVars] using hV
  subst hq
  simp only [List.append_nil] at hlt hW' hz hn
  have hspec' : s.fn H (ds ++ []) = { results := [.lit (.bool true)], args := ds } := by rw [List.append_nil]; exact hspec
  have hargs : ∀ sp : Nat → Bool, (∀ x ∈ p, sp x.block = true) → DataW.TrodAll enc P W' 0 sp true f.params.toList args.toList (s.fn H (ds ++ [])).args p := by
    intro sp hsp
    rw [hspec']
    exact trodAll_left hl h hA hr hlt sp hsp
  have hvs : ∀ sp : Nat → Bool, DataW.TrodVars enc P W' sp s.vars (s.fn H (ds ++ [])).vars [] := by
    intro sp; rw [hvars, hspec']; rfl
  have hrs : ∀ (b : Nat) (sp : Nat → Bool) (hd : Bool), DataW.TrodAll enc P W' b sp hd f.resultTypes.toList ((Value.bool true).resultList f.resultTypes.size) (s.fn H (ds ++ [])).results [] := by
    intro b sp hd
    rw [hspec', hres]
    exact trodAll_cons_mk (shut_bool htb true) trodAll_mk0
  have hold : ∀ x ∈ p, (fun b => decide (b < W.heap.size)) x.block = true := fun x hx => by simpa using hlt x hx
  refine ⟨ds, [], p, [], p, [], hW', hrs _ _ _, hargs _ hold, hvs _, h.kept _, fun _ => ⟨ok_one hres rfl (okWide_bool_mk htb true), _, _, ([] ++ p) ++ [], ⟨[] ++ p, [], trodAll_append (hargs _ (fun _ _ => rfl)) (hrs _ _ _), hvs _, rfl, ?_, ?_⟩, ?_⟩⟩
  · intro b off hp
    have hp' : MemPlace.cell b off ∈ p := by simpa using hp
    have hb : b < W.heap.size := hlt _ hp'
    have hf : W'.frozen? ⟨b, off, none⟩ = W.frozen? ⟨b, off, none⟩ := by simp only [World.frozen?]; rw [h.block b hb]
    rw [hf]; exact hz b off hp'
  · intro ha; simpa using hn ha
  · intro x hx _; simpa using hx
theorem data_0 {w : World} {sp : Nat → Bool} {held : Bool} {base : Nat} {vs : List Value} {ds : List (DataW H)} {ps : List MemPlace} (h : DataW.TrodAll enc P w base sp held [] vs ds ps) : ds = [] := by
  cases vs with
  | nil => cases ds with
    | nil => rfl
    | cons _ _ => exact h.elim
  | cons _ _ => exact h.elim
theorem data_1 {w : World} {sp : Nat → Bool} {held : Bool} {base : Nat} {t0 : TypeId} {vs : List Value} {ds : List (DataW H)} {ps : List MemPlace} (h : DataW.TrodAll enc P w base sp held [t0] vs ds ps) : ∃ d0, ds = [d0] := by
  obtain ⟨_, _, d, ds1, _, _, _, rfl, _, _, h⟩ := trodAll_cons h
  have := data_0 h
  subst this
  exact ⟨d, rfl⟩
theorem data_2 {w : World} {sp : Nat → Bool} {held : Bool} {base : Nat} {t0 t1 : TypeId} {vs : List Value} {ds : List (DataW H)} {ps : List MemPlace} (h : DataW.TrodAll enc P w base sp held [t0, t1] vs ds ps) : ∃ d0 d1, ds = [d0, d1] := by
  obtain ⟨_, _, d, ds1, _, _, _, rfl, _, _, h⟩ := trodAll_cons h
  obtain ⟨e0, rfl⟩ := data_1 h
  exact ⟨d, e0, rfl⟩
theorem data_3 {w : World} {sp : Nat → Bool} {held : Bool} {base : Nat} {t0 t1 t2 : TypeId} {vs : List Value} {ds : List (DataW H)} {ps : List MemPlace} (h : DataW.TrodAll enc P w base sp held [t0, t1, t2] vs ds ps) : ∃ d0 d1 d2, ds = [d0, d1, d2] := by
  obtain ⟨_, _, d, ds1, _, _, _, rfl, _, _, h⟩ := trodAll_cons h
  obtain ⟨e0, e1, rfl⟩ := data_2 h
  exact ⟨d, e0, e1, rfl⟩
theorem data_4 {w : World} {sp : Nat → Bool} {held : Bool} {base : Nat} {t0 t1 t2 t3 : TypeId} {vs : List Value} {ds : List (DataW H)} {ps : List MemPlace} (h : DataW.TrodAll enc P w base sp held [t0, t1, t2, t3] vs ds ps) : ∃ d0 d1 d2 d3, ds = [d0, d1, d2, d3] := by
  obtain ⟨_, _, d, ds1, _, _, _, rfl, _, _, h⟩ := trodAll_cons h
  obtain ⟨e0, e1, e2, rfl⟩ := data_3 h
  exact ⟨d, e0, e1, e2, rfl⟩
theorem data_5 {w : World} {sp : Nat → Bool} {held : Bool} {base : Nat} {t0 t1 t2 t3 t4 : TypeId} {vs : List Value} {ds : List (DataW H)} {ps : List MemPlace} (h : DataW.TrodAll enc P w base sp held [t0, t1, t2, t3, t4] vs ds ps) : ∃ d0 d1 d2 d3 d4, ds = [d0, d1, d2, d3, d4] := by
  obtain ⟨_, _, d, ds1, _, _, _, rfl, _, _, h⟩ := trodAll_cons h
  obtain ⟨e0, e1, e2, e3, rfl⟩ := data_4 h
  exact ⟨d, e0, e1, e2, e3, rfl⟩
theorem data_6 {w : World} {sp : Nat → Bool} {held : Bool} {base : Nat} {t0 t1 t2 t3 t4 t5 : TypeId} {vs : List Value} {ds : List (DataW H)} {ps : List MemPlace} (h : DataW.TrodAll enc P w base sp held [t0, t1, t2, t3, t4, t5] vs ds ps) : ∃ d0 d1 d2 d3 d4 d5, ds = [d0, d1, d2, d3, d4, d5] := by
  obtain ⟨_, _, d, ds1, _, _, _, rfl, _, _, h⟩ := trodAll_cons h
  obtain ⟨e0, e1, e2, e3, e4, rfl⟩ := data_5 h
  exact ⟨d, e0, e1, e2, e3, e4, rfl⟩
theorem data_7 {w : World} {sp : Nat → Bool} {held : Bool} {base : Nat} {t0 t1 t2 t3 t4 t5 t6 : TypeId} {vs : List Value} {ds : List (DataW H)} {ps : List MemPlace} (h : DataW.TrodAll enc P w base sp held [t0, t1, t2, t3, t4, t5, t6] vs ds ps) : ∃ d0 d1 d2 d3 d4 d5 d6, ds = [d0, d1, d2, d3, d4, d5, d6] := by
  obtain ⟨_, _, d, ds1, _, _, _, rfl, _, _, h⟩ := trodAll_cons h
  obtain ⟨e0, e1, e2, e3, e4, e5, rfl⟩ := data_6 h
  exact ⟨d, e0, e1, e2, e3, e4, e5, rfl⟩
theorem data_8 {w : World} {sp : Nat → Bool} {held : Bool} {base : Nat} {t0 t1 t2 t3 t4 t5 t6 t7 : TypeId} {vs : List Value} {ds : List (DataW H)} {ps : List MemPlace} (h : DataW.TrodAll enc P w base sp held [t0, t1, t2, t3, t4, t5, t6, t7] vs ds ps) : ∃ d0 d1 d2 d3 d4 d5 d6 d7, ds = [d0, d1, d2, d3, d4, d5, d6, d7] := by
  obtain ⟨_, _, d, ds1, _, _, _, rfl, _, _, h⟩ := trodAll_cons h
  obtain ⟨e0, e1, e2, e3, e4, e5, e6, rfl⟩ := data_7 h
  exact ⟨d, e0, e1, e2, e3, e4, e5, e6, rfl⟩
/-- Of n lists each. -/
theorem len_1 {α : Type} {l : List α} (h : l.length = 1) : ∃ x0, l = [x0] := by
  match l, h with
  | [x0], _ => exact ⟨x0, rfl⟩
theorem len_2 {α : Type} {l : List α} (h : l.length = 2) : ∃ x0 x1, l = [x0, x1] := by
  match l, h with
  | [x0, x1], _ => exact ⟨x0, x1, rfl⟩
theorem len_3 {α : Type} {l : List α} (h : l.length = 3) : ∃ x0 x1 x2, l = [x0, x1, x2] := by
  match l, h with
  | [x0, x1, x2], _ => exact ⟨x0, x1, x2, rfl⟩
theorem len_4 {α : Type} {l : List α} (h : l.length = 4) : ∃ x0 x1 x2 x3, l = [x0, x1, x2, x3] := by
  match l, h with
  | [x0, x1, x2, x3], _ => exact ⟨x0, x1, x2, x3, rfl⟩
theorem len_5 {α : Type} {l : List α} (h : l.length = 5) : ∃ x0 x1 x2 x3 x4, l = [x0, x1, x2, x3, x4] := by
  match l, h with
  | [x0, x1, x2, x3, x4], _ => exact ⟨x0, x1, x2, x3, x4, rfl⟩
theorem len_6 {α : Type} {l : List α} (h : l.length = 6) : ∃ x0 x1 x2 x3 x4 x5, l = [x0, x1, x2, x3, x4, x5] := by
  match l, h with
  | [x0, x1, x2, x3, x4, x5], _ => exact ⟨x0, x1, x2, x3, x4, x5, rfl⟩
theorem len_7 {α : Type} {l : List α} (h : l.length = 7) : ∃ x0 x1 x2 x3 x4 x5 x6, l = [x0, x1, x2, x3, x4, x5, x6] := by
  match l, h with
  | [x0, x1, x2, x3, x4, x5, x6], _ => exact ⟨x0, x1, x2, x3, x4, x5, x6, rfl⟩
theorem len_8 {α : Type} {l : List α} (h : l.length = 8) : ∃ x0 x1 x2 x3 x4 x5 x6 x7, l = [x0, x1, x2, x3, x4, x5, x6, x7] := by
  match l, h with
  | [x0, x1, x2, x3, x4, x5, x6, x7], _ => exact ⟨x0, x1, x2, x3, x4, x5, x6, x7, rfl⟩
theorem TR_int {n : Nat} {t : TypeId} {k : IntKind} {as : List AVal} (hu : P.underlying t = some (.int k)) (h : TR P (n + 1) t as) : ∃ x, as = [.int k x] ∧ (Lit.int k x).wf = true := by unfold TR at h; rw [hu] at h; exact h
theorem TR_bool {n : Nat} {t : TypeId} {as : List AVal} (hu : P.underlying t = some .bool) (h : TR P (n + 1) t as) : ∃ b, as = [.bool b] := by unfold TR at h; rw [hu] at h; exact h
theorem TR_string {n : Nat} {t : TypeId} {as : List AVal} (hu : P.underlying t = some .string) (h : TR P (n + 1) t as) : ∃ s : List UInt8, as = [.str s] ∧ s.length ≤ reachBytes := by unfold TR at h; rw [hu] at h; exact h
theorem TR_slice {n : Nat} {t e : TypeId} {as : List AVal} (hu : P.underlying t = some (.slice e)) (h : TR P (n + 1) t as) : as = [.nils] ∨ ∃ b o len cap rows, as = [.lst b o len cap (List.flatten rows)] ∧ len ≤ cap ∧ cap ≤ maxLen ∧ rows.length = len ∧ ∀ r ∈ rows, r.length = P.cellsOf e ∧ TR P n e r := by unfold TR at h; rw [hu] at h; exact h
theorem TR_struct {n : Nat} {t : TypeId} {fs : Array Field} {as : List AVal} (hu : P.underlying t = some (.struct fs)) (h : TR P (n + 1) t as) : as.length = P.cellsOf t ∧ ∀ (i : Nat) (f : Field), fs[i]? = some f → TR P n f.type ((as.drop f.offset).take (P.cellsOf f.type)) := by
  unfold TR at h; rw [hu] at h
  exact ⟨h.1, fun i f hf => h.2 f (by simpa using Array.mem_of_getElem? hf)⟩
theorem wf_i64 {x : Int} (h : (Lit.int .i64 x).wf = true) : -9223372036854775808 ≤ x ∧ x ≤ 9223372036854775807 := by
  simpa [Lit.wf, IntKind.min, IntKind.max, IntKind.signed, IntKind.bits] using h
/-- No data types. -/
def R0 : Adts Empty := ⟨nofun, fun _ a => a⟩
theorem R0_ok : R0.Ok := nofun
/-! Slices within slices: with capacity 0 such a one may name any address. 'B' bounds the lengths. -/
variable {B : Nat}
def TR2 (P : Program) (B : Nat) : Nat → Bool → TypeId → List AVal → Prop
  | 0, _, _, _ => False
  | n + 1, sl, t, as =>
    match P.underlying t with
    | some .bool => ∃ b, as = [.bool b]
    | some (.int k) => ∃ x, as = [.int k x] ∧ (Lit.int k x).wf = true
    | some .string => ∃ s : List UInt8, as = [.str s] ∧ s.length ≤ reachBytes
    | some (.slice e) => as = [.nils] ∨ (∃ b o len cap rows, as = [.lst b o len cap (List.flatten rows)] ∧ len ≤ cap ∧ cap ≤ maxLen ∧ len ≤ B ∧ rows.length = len ∧ ∀ r ∈ rows, r.length = P.cellsOf e ∧ TR2 P B n false e r) ∨ (sl = false ∧ ∃ a, as = [.odd a])
    | some (.struct fs) => as.length = P.cellsOf t ∧ ∀ f ∈ fs.toList, TR2 P B n sl f.type ((as.drop f.offset).take (P.cellsOf f.type))
    | _ => False
def sup2 (P : Program) : Nat → Bool → TypeId → Bool
  | 0, _, _ => false
  | n + 1, sl, t =>
    match P.underlying t with
    | some .bool | some (.int _) | some .string => true
    | some (.slice e) => (sl || P.cellsOf e != 0) && sup2 P n false e
    | some (.struct fs) => (contig P 0 fs.toList == some (P.cellsOf t)) && fs.toList.all fun f => sup2 P n sl f.type
    | _ => false
theorem spot_of {w : World} {a : Addr} {k sz : Nat} {cs : List Value} (hz : sz ≠ 0) (hk : k = 0) (h : w.cells? 0 (a.add k) sz = some cs) : a.spot = none ∧ ∃ cs e fz, w.heap[a.block]? = some (.cells cs e fz) := by
  subst hk
  obtain ⟨v, _, hv⟩ := (cells_get h).2 0 (by omega)
  have e0 : (a.add 0).add 0 = a := by simp [Addr.add]
  rw [e0] at hv
  unfold World.cell? at hv
  split at hv
  · rename_i c e f hb
    split at hv
    · cases hv
    · rename_i hs
      exact ⟨by simpa using hs, c, e, f, hb⟩
  · cases hv
theorem fields_TR2 {sl : Bool} {w : World} {n : Nat} {cs : List Value} : ∀ (fs : List Field) (o m : Nat), contig P o fs = some m → cs.length = m → o ≤ m →
    (∀ f ∈ fs, ∃ as, (cs.drop f.offset).take (P.cellsOf f.type) = concs (plW w) as ∧ belows (zAll w) 0 as ∧ TR2 P B n sl f.type as) →
    ∃ as, cs.drop o = concs (plW w) as ∧ belows (zAll w) 0 as ∧ ∀ f ∈ fs, o ≤ f.offset ∧ TR2 P B n sl f.type ((as.drop (f.offset - o)).take (P.cellsOf f.type))
  | [], o, m, hc, hl, ho, _ => by
    simp [contig] at hc; subst hc
    exact ⟨[], by rw [List.drop_eq_nil_of_le (by omega)]; rfl, trivial, by simp⟩
  | f :: r, o, m, hc, hl, ho, hf => by
    unfold contig at hc
    split at hc
    · rename_i hoff
      have hle : ∀ (fs : List Field) (o m : Nat), contig P o fs = some m → o ≤ m := by
        intro fs
        induction fs with
        | nil => intro o m h; simp [contig] at h; omega
        | cons g gs ih =>
          intro o m h
          unfold contig at h
          split at h
          · have := ih _ _ h; omega
          · simp at h
      have h1 := hle _ _ _ hc
      obtain ⟨as, a1, a2, a3⟩ := hf f (by simp)
      obtain ⟨bs, b1, b2, b3⟩ := fields_TR2 r _ m hc hl h1 (fun g hg => hf g (by simp [hg]))
      have hal : as.length = P.cellsOf f.type := by
        have := congrArg List.length a1
        simp only [concs_length, List.length_take, List.length_drop] at this
        omega
      refine ⟨as ++ bs, ?_, ?_, fun g hg => ?_⟩
      · rw [concs_append, ← a1, ← b1, hoff]
        have e : (cs.drop o).drop (P.cellsOf f.type) = cs.drop (o + P.cellsOf f.type) := by rw [List.drop_drop]
        rw [← e]
        exact (List.take_append_drop _ _).symm
      · rw [belows_iff]
        intro v hv
        rcases List.mem_append.1 hv with hv | hv
        · exact (belows_iff _ _ _).1 a2 v hv
        · exact (belows_iff _ _ _).1 b2 v hv
      · rcases List.mem_cons.1 hg with rfl | hg
        · refine ⟨by omega, ?_⟩
          rw [show g.offset - o = 0 by omega, List.drop_zero, ← hal, List.take_left]
          exact a3
        · obtain ⟨g1, g2⟩ := b3 g hg
          refine ⟨by omega, ?_⟩
          rw [List.drop_append, List.drop_eq_nil_of_le (by omega), List.nil_append]
          have e : g.offset - o - as.length = g.offset - (o + P.cellsOf f.type) := by omega
          rw [e]; exact g2
    · simp at hc

theorem sup2_slice {n : Nat} {sl : Bool} {t e : TypeId} (hu : P.underlying t = some (.slice e)) (h : sup2 P (n + 1) sl t = true) : (sl = true ∨ P.cellsOf e ≠ 0) ∧ sup2 P n false e = true := by
  unfold sup2 at h; rw [hu] at h; simpa using h
theorem sup2_struct {n : Nat} {sl : Bool} {t : TypeId} {fs : Array Field} (hu : P.underlying t = some (.struct fs)) (h : sup2 P (n + 1) sl t = true) : contig P 0 fs.toList = some (P.cellsOf t) ∧ ∀ f ∈ fs.toList, sup2 P n sl f.type = true := by
  unfold sup2 at h; rw [hu] at h
  simp only [Bool.and_eq_true, beq_iff_eq, List.all_eq_true] at h
  exact h
/-- What reads as data of such a type is told by abstract cells. -/
theorem trod_TR2 {w : World} {held : Bool} {Q : DataW H → Prop} (hQs : ∀ es rest, Q (.slice es rest) → es.length ≤ B ∧ ∀ d ∈ es, Q d) (hQa : ∀ ps, Q (.agg ps) → ∀ d ∈ ps, Q d) : ∀ (n : Nat) (sl : Bool) (t : TypeId) (cs : List Value) (x : DataW H × List MemPlace), DataW.trod enc P w 0 (fun _ => true) held n t cs = some x → sup2 P n sl t = true →
    (sl = true → ∀ v ∈ cs, plain w v) → (∀ m ∈ x.1.weights P t, m ≤ reachBytes) → Q x.1 → ∃ as, cs = concs (plW w) as ∧ belows (zAll w) 0 as ∧ TR2 P B n sl t as := by
  intro n
  induction n with
  | zero => intro sl t cs x h; simp [DataW.trod] at h
  | succ n ih =>
    intro sl t cs x h hs hp hwt hq
    cases hu : P.underlying t with
    | none => unfold sup2 at hs; rw [hu] at hs; simp at hs
    | some d =>
      cases d with
      | bool =>
        obtain ⟨b, rfl, _⟩ := DataW.trod_bool hu h
        exact ⟨[.bool b], by simp [concs, conc], by simp [belows, below], by unfold TR2; rw [hu]; exact ⟨b, rfl⟩⟩
      | int k =>
        obtain ⟨m, rfl, _, hw⟩ := DataW.trod_int hu h
        exact ⟨[.int k m], by simp [concs, conc], by simp [belows, below], by unfold TR2; rw [hu]; exact ⟨m, rfl, hw⟩⟩
      | string =>
        obtain ⟨s, rfl, rfl, hw⟩ := DataW.trod_string hu h
        have hl : s.data.toList.length ≤ reachBytes := hwt _ (by simp [DataW.weights])
        exact ⟨[.str s.data.toList], by simp [concs, conc], by simp [belows, below], by unfold TR2; rw [hu]; exact ⟨s.data.toList, rfl, hl⟩⟩
      | slice e =>
        obtain ⟨hsz0, hs2⟩ := sup2_slice hu hs
        have hTR : ∀ as, (as = [.nils] ∨ (∃ b o len cap rows, as = [.lst b o len cap (List.flatten rows)] ∧ len ≤ cap ∧ cap ≤ maxLen ∧ len ≤ B ∧ rows.length = len ∧ ∀ r ∈ rows, r.length = P.cellsOf e ∧ TR2 P B n false e r) ∨ (sl = false ∧ ∃ a, as = [.odd a])) → TR2 P B (n + 1) sl t as := by
          intro as h; unfold TR2; rw [hu]; exact h
        rcases DataW.trod_slice hu h with ⟨rfl, _⟩ | ⟨a, len, cap, elems, rest, n', hn, rfl, rfl, _, hlc, hcap, hlen, hget, hspare, _⟩
        · exact ⟨[.nils], by simp [concs, conc], by simp [belows, below], hTR _ (.inl rfl)⟩
        · have : n' = n := by omega
          subst this
          obtain ⟨hB, hqe⟩ := hQs _ _ hq
          by_cases hodd : sl = false ∧ cap = 0
          · obtain ⟨rfl, rfl⟩ := hodd
            obtain rfl : len = 0 := by omega
            exact ⟨[.odd a], by simp [concs, conc], by simp [belows, below], hTR _ (.inr (.inr ⟨rfl, a, rfl⟩))⟩
          obtain ⟨hspot, c0, e0, fz0, hblk⟩ : a.spot = none ∧ ∃ cs e fz, w.heap[a.block]? = some (.cells cs e fz) := by
            cases sl with
            | true => exact hp rfl (.slice (some a) len cap) (by simp) a len cap rfl
            | false =>
              have hz : P.cellsOf e ≠ 0 := by rcases hsz0 with h | h; cases h; exact h
              have hc0 : cap ≠ 0 := fun h => hodd ⟨rfl, h⟩
              by_cases hl0 : 0 < len
              · have hg := hget 0 hl0
                rw [List.getElem?_eq_getElem (by omega), Option.bind_eq_some_iff] at hg
                obtain ⟨cs, hcs, _⟩ := hg
                exact spot_of hz (by simp) hcs
              · obtain ⟨h1, h2⟩ := hspare rfl
                have hg := h2 0 (by omega)
                rw [List.getElem?_eq_getElem (by omega), Option.bind_eq_some_iff] at hg
                obtain ⟨cs, hcs, _⟩ := hg
                exact spot_of hz (by have : len = 0 := by omega
                                     simp [this]) hcs
          have hrow : ∀ i, i < len → ∃ cs as, w.cells? 0 (a.add (i * P.cellsOf e)) (P.cellsOf e) = some cs ∧ cs = concs (plW w) as ∧ belows (zAll w) 0 as ∧ TR2 P B n' false e as := by
            intro i hi
            have hg := hget i hi
            have hsome : elems[i]? = some elems[i] := by simp [show i < elems.length by omega]
            rw [hsome, Option.bind_eq_some_iff] at hg
            obtain ⟨cs, hcs, ht⟩ := hg
            obtain ⟨as, h2, h3, h4⟩ := ih false e cs _ ht hs2 (by simp) (fun m hm => hwt m (by
              simp only [DataW.weights, hu, List.mem_cons, List.mem_append]
              exact .inr (.inl (weightsAll_mem (List.mem_map.2 ⟨_, List.getElem_mem _, rfl⟩) hm)))) (hqe _ (List.mem_map.2 ⟨_, List.getElem_mem _, rfl⟩))
            exact ⟨cs, as, hcs, h2, h3, h4⟩
          have hrows : ∀ m, m ≤ len → ∃ rows : List (List AVal), rows.length = m ∧ ∀ (i : Nat) (r : List AVal), rows[i]? = some r → (∃ cs, w.cells? 0 (a.add (i * P.cellsOf e)) (P.cellsOf e) = some cs ∧ cs = concs (plW w) r) ∧ belows (zAll w) 0 r ∧ TR2 P B n' false e r := by
            intro m
            induction m with
            | zero => intro _; exact ⟨[], rfl, by simp⟩
            | succ m ihm =>
              intro hm
              obtain ⟨rows, r1, r2⟩ := ihm (by omega)
              obtain ⟨cs, as, k1, k2, k3, k4⟩ := hrow m (by omega)
              refine ⟨rows ++ [as], by simp [r1], fun i r hr => ?_⟩
              by_cases hi : i < rows.length
              · rw [List.getElem?_append_left hi] at hr; exact r2 i r hr
              · have hi2 := (List.getElem?_eq_some_iff.1 hr).1
                rw [List.length_append, List.length_singleton] at hi2
                have : i = m := by omega
                subst this
                rw [List.getElem?_append_right (by omega), r1] at hr
                simp at hr; subst hr
                exact ⟨⟨cs, k1, k2⟩, k3, k4⟩
          obtain ⟨rows, r1, r2⟩ := hrows len (Nat.le_refl _)
          have hmem : ∀ r ∈ rows, ∃ i : Nat, rows[i]? = some r := fun r hr => by
            obtain ⟨i, hi, he⟩ := List.getElem_of_mem hr
            exact ⟨i, by rw [← he]; exact List.getElem?_eq_getElem hi⟩
          have hsz : ∀ r ∈ rows, r.length = P.cellsOf e := fun r hr => by
            obtain ⟨i, hi⟩ := hmem r hr
            obtain ⟨⟨cs, q1, q2⟩, _, _⟩ := r2 i r hi
            have := (cells_get q1).1
            rw [q2, concs_length] at this; exact this
          refine ⟨[.lst a.block a.off len cap rows.flatten], ?_, ?_, hTR _ (.inr (.inl ⟨a.block, a.off, len, cap, rows, rfl, hlc, hcap, by simp at hB; omega, r1, fun r hr => ⟨hsz r hr, ?_⟩⟩))⟩
          · simp only [concs, conc]
            cases a
            simp only at hspot
            subst hspot; rfl
          · simp only [belows, below]
            refine ⟨⟨⟨c0, by simp [zAll, hblk], fun k x hx => ?_⟩, ?_⟩, trivial⟩
            · obtain ⟨i, j, r, h5, h6, rfl, h7⟩ := flat_get hsz k x hx
              obtain ⟨⟨cs, q1, q2⟩, q3, _⟩ := r2 i r h5
              obtain ⟨v, h8, h9⟩ := (cells_get q1).2 j h7
              have hv : v = conc (plW w) x := by
                rw [q2, concs_get, h6] at h8
                simpa using h8.symm
              have hadd : (a.add (i * P.cellsOf e)).add j = ⟨a.block, a.off + (i * P.cellsOf e + j), none⟩ := by
                cases a with
                | mk b o s =>
                  simp only at hspot
                  subst hspot
                  rw [addr_add, addr_add, Nat.add_assoc]
              rw [hadd] at h9
              simp only [World.cell?, hblk] at h9
              rw [conc_pl0 (ρ := plW w) ((belows_iff _ _ _).1 q3 x (List.mem_of_getElem? h6)), ← hv]
              simpa using h9
            · rw [belows_iff]
              intro x hx
              obtain ⟨r, hr, hxr⟩ := List.mem_flatten.1 hx
              obtain ⟨i, hi⟩ := hmem r hr
              exact (belows_iff _ _ _).1 (r2 i r hi).2.1 x hxr
          · obtain ⟨i, hi⟩ := hmem r hr
            exact (r2 i r hi).2.2
      | struct fs =>
        obtain ⟨hcon, hs⟩ := sup2_struct hu hs
        obtain ⟨xs, n', hn, rfl, hl, hxl, hget⟩ := DataW.trod_struct hu h
        have : n' = n := by omega
        subst this
        obtain ⟨as, a1, a2, a3⟩ := fields_TR2 (w := w) (n := n') (cs := cs) fs.toList 0 (P.cellsOf t) hcon hl (Nat.zero_le _) (fun f hf => by
          obtain ⟨i, hi, he⟩ := List.getElem_of_mem hf
          have hfi : fs[i]? = some f := by rw [← he]; simp at hi ⊢
          have hg := hget i f hfi
          have hi' : i < xs.length := by simp at hi; omega
          rw [List.getElem?_eq_getElem hi'] at hg
          exact ih sl _ _ _ hg (hs f hf) (fun hsl v hv => hp hsl v (List.mem_of_mem_drop (List.mem_of_mem_take hv))) (fun m hm => hwt m (by
            simp only [DataW.weights, hu]
            exact weightsEach_mem (i := i) (t := f.type) (by rw [List.getElem?_map]; simp [hfi]) (by rw [List.getElem?_map, List.getElem?_eq_getElem hi']; rfl) hm)) (hQa _ hq _ (List.mem_map.2 ⟨_, List.getElem_mem hi', rfl⟩)))
        refine ⟨as, by simpa using a1, a2, ?_⟩
        unfold TR2
        rw [hu]
        refine ⟨?_, fun f hf => by simpa using (a3 f hf).2⟩
        have := congrArg List.length a1
        simp only [concs_length, List.drop_zero] at this
        omega
      | _ => unfold sup2 at hs; rw [hu] at hs; cases hs

theorem sup2_up : ∀ (n : Nat) (sl : Bool) (t : TypeId), sup2 P n sl t = true → sup2 P (n + 1) sl t = true := by
  intro n
  induction n with
  | zero => intro sl t h; simp [sup2] at h
  | succ n ih =>
    intro sl t h
    cases hu : P.underlying t with
    | none => unfold sup2 at h; rw [hu] at h; cases h
    | some d =>
      cases d with
      | bool => unfold sup2; rw [hu]
      | int k => unfold sup2; rw [hu]
      | string => unfold sup2; rw [hu]
      | slice e =>
        obtain ⟨h1, h2⟩ := sup2_slice hu h
        unfold sup2; rw [hu]; simp only [ih _ _ h2, Bool.and_true, Bool.or_eq_true, bne_iff_ne]; exact h1
      | struct fs =>
        obtain ⟨h1, h2⟩ := sup2_struct hu h
        unfold sup2; rw [hu]
        simp only [h1, beq_self_eq_true, Bool.true_and, List.all_eq_true]
        exact fun f hf => ih _ _ (h2 f hf)
      | _ => unfold sup2 at h; rw [hu] at h; cases h
theorem sup2_le {n m : Nat} (hnm : n ≤ m) {sl : Bool} {t : TypeId} (h : sup2 P n sl t = true) : sup2 P m sl t = true := by
  induction hnm with
  | refl => exact h
  | step _ ih => exact sup2_up _ _ _ ih
theorem TR2_down : ∀ (k m : Nat) (sl : Bool) (t : TypeId) (as : List AVal), sup2 P k sl t = true → k ≤ m → TR2 P B m sl t as → TR2 P B k sl t as := by
  intro k
  induction k with
  | zero => intro m sl t as h; simp [sup2] at h
  | succ k ih =>
    intro m sl t as h hm ht
    obtain ⟨m, rfl⟩ : ∃ j, m = j + 1 := ⟨m - 1, by omega⟩
    cases hu : P.underlying t with
    | none => unfold sup2 at h; rw [hu] at h; cases h
    | some d =>
      unfold TR2 at ht ⊢
      rw [hu] at ht ⊢
      cases d with
      | bool => exact ht
      | int k => exact ht
      | string => exact ht
      | slice e =>
        obtain ⟨h1, h2⟩ := sup2_slice hu h
        rcases ht with ht | ⟨b, o, len, cap, rows, h3, h4, h5, h5b, h6, h7⟩ | ht
        · exact .inl ht
        · exact .inr (.inl ⟨b, o, len, cap, rows, h3, h4, h5, h5b, h6, fun r hr => ⟨(h7 r hr).1, ih m false e r h2 (by omega) (h7 r hr).2⟩⟩)
        · exact .inr (.inr ht)
      | struct fs =>
        obtain ⟨h1, h2⟩ := sup2_struct hu h
        exact ⟨ht.1, fun f hf => ih m sl _ _ (h2 f hf) (by omega) (ht.2 f hf)⟩
      | _ => exact ht

theorem pack_fits2 {w : World} {n : Nat} {t : TypeId} {v : Value} {base : Nat} {as : List AVal} (hok : Value.okWide P w .any base t v) (hc : v.cells.toList = concs (plW w) as) (hb : belows (zAll w) 0 as) (ht : TR2 P B n true t as) :
    VR (plW w) (pack P t as) v ∧ below (zAll w) 0 (pack P t as) := by
  unfold pack
  unfold Value.okWide at hok
  cases n with
  | zero => exact ht.elim
  | succ n =>
    unfold TR2 at ht
    cases hu : P.underlying t with
    | none => rw [hu] at ht; exact ht.elim
    | some d =>
      rw [hu] at ht hok
      have one : ∀ a : AVal, as = [a] → v.cells.toList = [conc (plW w) a] → (∀ cs, v ≠ .agg cs) → VR (plW w) (as.headD .any) v ∧ below (zAll w) 0 (as.headD .any) := by
        intro a ha hv hn
        subst ha
        simp only [List.headD_cons]
        refine ⟨?_, by simpa [belows] using hb⟩
        have : v = conc (plW w) a := by
          cases v <;> first | (exact absurd rfl (hn _)) | simpa [Value.cells] using hv
        rw [this]; exact .same a
      cases d with
      | bool =>
        obtain ⟨b, rfl⟩ := ht
        rw [if_neg (by simp [aggT, hu])]
        exact one _ rfl (by simpa [concs] using hc) (by rintro cs rfl; simp [Cell.okWide, hu, Cell.ok] at hok)
      | int k =>
        obtain ⟨x, rfl, _⟩ := ht
        rw [if_neg (by simp [aggT, hu])]
        exact one _ rfl (by simpa [concs] using hc) (by rintro cs rfl; simp [Cell.okWide, hu, Cell.ok] at hok)
      | string =>
        obtain ⟨x, rfl, _⟩ := ht
        rw [if_neg (by simp [aggT, hu])]
        exact one _ rfl (by simpa [concs] using hc) (by rintro cs rfl; simp [Cell.okWide, hu, Cell.ok] at hok)
      | slice e =>
        rw [if_neg (by simp [aggT, hu])]
        rcases ht with rfl | ⟨b, o, len, cap, rows, rfl, _⟩ | ⟨h, _⟩
        · exact one _ rfl (by simpa [concs] using hc) (by rintro cs rfl; simp [Cell.okWide, hu, Cell.ok] at hok)
        · exact one _ rfl (by simpa [concs] using hc) (by rintro cs rfl; simp [Cell.okWide, hu, Cell.ok] at hok)
        · cases h
      | struct fs =>
        rw [if_pos (by simp [aggT, hu])]
        obtain ⟨cs, rfl, _, _⟩ := hok
        simp only [Value.cells] at hc
        refine ⟨VR.of_one (.inr ?_), by simpa [below] using hb⟩
        simp only [conc, ← hc]
      | _ => exact ht.elim

/-- The arguments, told by abstract values. -/
theorem args_TR2 {w : World} {held : Bool} {Q : DataW H → Prop} (hQs : ∀ es rest, Q (.slice es rest) → es.length ≤ B ∧ ∀ d ∈ es, Q d) (hQa : ∀ ps, Q (.agg ps) → ∀ d ∈ ps, Q d) {base : Nat} {us : List TypeId} {gs : List (DataW H)} : ∀ {ts : List TypeId} {vs : List Value} {ds : List (DataW H)} {ps : List MemPlace}, DataW.TrodAll enc P w 0 (fun _ => true) held ts vs ds ps →
    (∀ t ∈ ts, sup2 P 20 true t = true) → (∀ (j : Nat) t v, ts[j]? = some t → vs[j]? = some v → Value.okWide P w .any base t v) → (DataW.weightsEach P (ts ++ us) (ds ++ gs)).all (· ≤ reachBytes) = true → (∀ d ∈ ds, Q d) →
    ∃ ass : List (List AVal), ass.length = ts.length ∧ (∀ (j : Nat) t as, ts[j]? = some t → ass[j]? = some as → TR2 P B 20 true t as) ∧
      VRs (plW w) (List.zipWith (pack P) ts ass) vs ∧ belows (zAll w) 0 (List.zipWith (pack P) ts ass)
  | [], [], [], _, _, _, _, _, _ => ⟨[], rfl, by simp, ⟨rfl, by simp⟩, trivial⟩
  | t :: ts, v :: vs, d :: ds, _, ⟨p, q, ⟨fuel, h1⟩, h2, _⟩, hs, hok, hw, hq => by
    have hw1 : ∀ m ∈ d.weights P t, m ≤ reachBytes := fun m hm => by
      have := List.all_eq_true.1 hw m (by simp only [List.cons_append, DataW.weightsEach, List.mem_append]; exact .inl hm)
      simpa using this
    have hw2 : (DataW.weightsEach P (ts ++ us) (ds ++ gs)).all (· ≤ reachBytes) = true := List.all_eq_true.2 fun m hm =>
      List.all_eq_true.1 hw m (by simp only [List.cons_append, DataW.weightsEach, List.mem_append]; exact .inr hm)
    obtain ⟨ass, a1, a2, a3, a4⟩ := args_TR2 hQs hQa h2 (fun t ht => hs t (by simp [ht])) (fun j t v ht hv => hok (j + 1) t v (by simpa using ht) (by simpa using hv)) hw2 (fun d hd => hq d (by simp [hd]))
    have ho := hok 0 t v rfl rfl
    have hst := hs t (by simp)
    have h3 := DataW.trod_le (m := fuel + 20) (by omega) h1
    obtain ⟨as, b1, b2, b3⟩ := trod_TR2 hQs hQa (fuel + 20) true t _ _ h3 (sup2_le (by omega) hst) (fun _ => plain_cells ho) hw1 (hq d (by simp))
    have b4 := TR2_down 20 (fuel + 20) true t as hst (by omega) b3
    obtain ⟨c1, c2⟩ := pack_fits2 ho b1 b2 b4
    refine ⟨as :: ass, by simp [a1], fun j t' as' ht ha => ?_, ⟨by simp [a3.1], fun j a ha => ?_⟩, ?_⟩
    · cases j with
      | zero => simp at ht ha; subst ht; subst ha; exact b4
      | succ j => exact a2 j t' as' (by simpa using ht) (by simpa using ha)
    · cases j with
      | zero => simp at ha; subst ha; exact ⟨v, rfl, c1⟩
      | succ j => obtain ⟨u, hu1, hu2⟩ := a3.2 j a (by simpa using ha); exact ⟨u, by simpa using hu1, hu2⟩
    · simp only [List.zipWith_cons_cons, belows]; exact ⟨c2, a4⟩
  | [], _ :: _, _, _, h, _, _, _, _ => by simp [DataW.TrodAll] at h
  | [], [], _ :: _, _, h, _, _, _, _ => by simp [DataW.TrodAll] at h
  | _ :: _, [], _, _, h, _, _, _, _ => by simp [DataW.TrodAll] at h
  | _ :: _, _ :: _, [], _, h, _, _, _, _ => by simp [DataW.TrodAll] at h

theorem TR2_int {n : Nat} {sl : Bool} {t : TypeId} {k : IntKind} {as : List AVal} (hu : P.underlying t = some (.int k)) (h : TR2 P B (n + 1) sl t as) : ∃ x, as = [.int k x] ∧ (Lit.int k x).wf = true := by unfold TR2 at h; rw [hu] at h; exact h
theorem TR2_string {n : Nat} {sl : Bool} {t : TypeId} {as : List AVal} (hu : P.underlying t = some .string) (h : TR2 P B (n + 1) sl t as) : ∃ s : List UInt8, as = [.str s] ∧ s.length ≤ reachBytes := by unfold TR2 at h; rw [hu] at h; exact h
theorem TR2_slice {n : Nat} {sl : Bool} {t e : TypeId} {as : List AVal} (hu : P.underlying t = some (.slice e)) (h : TR2 P B (n + 1) sl t as) : as = [.nils] ∨ (∃ b o len cap rows, as = [.lst b o len cap (List.flatten rows)] ∧ len ≤ cap ∧ cap ≤ maxLen ∧ len ≤ B ∧ rows.length = len ∧ ∀ r ∈ rows, r.length = P.cellsOf e ∧ TR2 P B n false e r) ∨ (sl = false ∧ ∃ a, as = [.odd a]) := by unfold TR2 at h; rw [hu] at h; exact h
theorem TR2_struct {n : Nat} {sl : Bool} {t : TypeId} {fs : Array Field} {as : List AVal} (hu : P.underlying t = some (.struct fs)) (h : TR2 P B (n + 1) sl t as) : as.length = P.cellsOf t ∧ ∀ (i : Nat) (f : Field), fs[i]? = some f → TR2 P B n sl f.type ((as.drop f.offset).take (P.cellsOf f.type)) := by
  unfold TR2 at h; rw [hu] at h
  exact ⟨h.1, fun i f hf => h.2 f (by simpa using Array.mem_of_getElem? hf)⟩
end Go.AI
