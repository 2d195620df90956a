/- Audits: the walk over events, plainly; what a seer keeps. -/
import Derived.Test.YtmdlhohhimdkaaaGreatMbAudits
set_option linter.all false
namespace Go.AI
variable {A : Type} {R : Adts A}
/-- What comes of seeing all events. -/
def wRun {σ : Type} (C : Cfg) (step : σ → Ev → Sta → Sta → σ) : σ → Sta → List Ev → Option (σ × Sta)
  | s, S, [] => some (s, S)
  | s, S, E :: r => if (sApply C S E).2 = 0 then wRun C step (step s E S (sApply C S E).1) (sApply C S E).1 r else none
def wAll {σ : Type} (C : Cfg) (step : σ → Ev → Sta → Sta → σ) (s : σ) (es : List Ev) : Option (σ × Sta) :=
  match sNew C.addresses with
  | some S => wRun C step s S es
  | none => none
theorem uPut_len (u : Usr) : ∀ l : List Usr, (uPut u l).length = l.length + 1
  | [] => rfl
  | v :: r => by
    unfold uPut
    split
    · rfl
    · rw [List.length_cons, uPut_len u r, List.length_cons]
theorem freeAll_len {u : Int} : ∀ (xs : List Ses) {ps l : List Adr}, freeAll u xs ps = some l → l.length = ps.length
  | [], ps, l, h => by simp [freeAll] at h; rw [h]
  | x :: r, ps, l, h => by
    unfold freeAll at h
    cases hp : pFree ps x.address u with
    | none => rw [hp] at h; simp at h
    | some q => rw [hp] at h; rw [freeAll_len r h, pFree_len hp]
theorem mem_uPut {u v : Usr} : ∀ {l : List Usr}, v ∈ uPut u l → v = u ∨ v ∈ l
  | [], h => by simp [uPut] at h; exact .inl h
  | x :: r, h => by
    unfold uPut at h
    split at h
    · simp at h ⊢; rcases h with h | h | h
      · exact .inl h
      · exact .inr (.inl h)
      · exact .inr (.inr h)
    · simp at h ⊢
      rcases h with h | h
      · exact .inr (.inl h)
      · rcases mem_uPut h with h | h
        · exact .inl h
        · exact .inr (.inr h)
theorem getD_mem {l : List Usr} {j : Nat} (hj : j < l.length) : l.getD j usr0 ∈ l := by rw [usr_get hj]; exact List.getElem_mem hj
theorem uAt_lt {us : List Usr} {user : Int} {j : Nat} (h : uAt us user = some j) : j < us.length := (List.findIdx?_eq_some_iff_getElem.1 h).1
theorem xAt_lt {xs : List Ses} {x : Int} {j : Nat} (h : xAt xs x = some j) : j < xs.length := (List.findIdx?_eq_some_iff_getElem.1 h).1
theorem uTurn_used {C : Cfg} {u v : Usr} {E : Ev} (h : uTurn C u E = some v) : v.used = u.used ∧ v.user = u.user := by
  unfold uTurn at h
  split at h
  · simp only [Option.map_eq_some_iff] at h; obtain ⟨k, _, rfl⟩ := h; exact ⟨rfl, rfl⟩
  · split at h
    · split at h
      · simp at h
      · simp at h; subst h; exact ⟨rfl, rfl⟩
    · split at h
      · simp at h; subst h; exact ⟨rfl, rfl⟩
      · split at h
        · split at h
          · simp at h; subst h; exact ⟨rfl, rfl⟩
          · simp at h
        · simp at h; subst h; exact ⟨rfl, rfl⟩
theorem sum_ge {x y : Int} (hx : -9223372036854775808 ≤ x) (hy : 0 ≤ y) : -9223372036854775808 ≤ sum x y := by unfold sum; split <;> omega
/-- An event turns a state: its slices grow by one at most, its numbers stay in bounds. -/
theorem sDoes_keeps {C : Cfg} {S T : Sta} {E : Ev} (h : sDoes C S E = some T) {n : Nat} (hl : StaLe S n) (hi : StaIn S) (hE : EvIn E) : StaLe T (n + 1) ∧ StaIn T := by
  obtain ⟨l1, l2, l3, l4⟩ := hl
  obtain ⟨i1, i2⟩ := hi
  unfold sDoes at h
  split at h
  · cases hf : freeAll (E.tick + C.quarantine) S.sess S.addrs with
    | none => rw [hf] at h; simp at h
    | some ps =>
      rw [hf] at h
      dsimp only at h
      have := freeAll_len _ hf
      split at h
      · simp at h; subst h
        exact ⟨⟨by dsimp only; omega, by simp, by dsimp only; omega, by dsimp only; omega⟩, ⟨i1, i2⟩⟩
      · simp at h
  · split at h
    · split at h
      · simp at h
      · simp at h; subst h
        refine ⟨⟨by dsimp only; rw [uPut_len]; omega, by dsimp only; omega, by dsimp only; omega, by dsimp only; omega⟩, ⟨i1, fun u hu => ?_⟩⟩
        rcases mem_uPut hu with rfl | hu
        · simp
        · exact i2 u hu
    · split at h
      · cases hp : pTake S.addrs E.address E.user with
        | none => rw [hp] at h; simp at h
        | some ps =>
          rw [hp] at h
          dsimp only at h
          have := pTake_len hp
          split at h
          · simp at h; subst h
            exact ⟨⟨by dsimp only; omega, by simp; omega, by dsimp only; omega, by dsimp only; omega⟩, ⟨i1, i2⟩⟩
          · simp at h
      · split at h
        · cases hx : xAt S.sess E.session with
          | none => rw [hx] at h; simp at h
          | some k =>
            rw [hx] at h
            dsimp only at h
            cases hp : pFree S.addrs (S.sess.getD k ses0).address E.tick with
            | none => rw [hp] at h; simp at h
            | some ps =>
              rw [hp] at h
              dsimp only at h
              have := pFree_len hp
              have hk := xAt_lt hx
              cases hu : uAt S.users (S.sess.getD k ses0).user with
              | none =>
                rw [hu] at h
                simp at h; subst h
                exact ⟨⟨by dsimp only; omega, by rw [List.length_eraseIdx]; split <;> omega, by dsimp only; omega, by dsimp only; omega⟩, ⟨i1, i2⟩⟩
              | some j =>
                rw [hu] at h
                simp only [Option.some.injEq] at h; subst h
                have hj := uAt_lt hu
                refine ⟨⟨by rw [List.length_set]; omega, by rw [List.length_eraseIdx]; split <;> omega, by dsimp only; omega, by dsimp only; omega⟩, ⟨i1, fun u hu2 => ?_⟩⟩
                rcases List.mem_or_eq_of_mem_set hu2 with h1 | h1
                · exact i2 u h1
                · rw [h1]; exact sum_ge (i2 _ (getD_mem hj)) hE.a.1
        · split at h
          · split at h
            · simp at h; subst h
              exact ⟨⟨by dsimp only; omega, by dsimp only; omega, by dsimp only; omega, by dsimp only; omega⟩, ⟨by dsimp only; omega, i2⟩⟩
            · simp at h
          · split at h
            · split at h
              · simp at h
              · simp at h; subst h
                exact ⟨⟨by dsimp only; omega, by dsimp only; omega, by dsimp only; omega, by simp; omega⟩, ⟨i1, i2⟩⟩
            · cases hu : uAt S.users E.user with
              | none => rw [hu] at h; simp at h
              | some j =>
                rw [hu] at h
                dsimp only at h
                simp only [Option.map_eq_some_iff] at h
                obtain ⟨v, hv, rfl⟩ := h
                have hj := uAt_lt hu
                refine ⟨⟨by rw [List.length_set]; omega, by dsimp only; omega, by dsimp only; omega, by dsimp only; omega⟩, ⟨i1, fun u hu2 => ?_⟩⟩
                rcases List.mem_or_eq_of_mem_set hu2 with h1 | h1
                · exact i2 u h1
                · rw [h1, (uTurn_used hv).1]; exact i2 _ (getD_mem hj)
theorem sApply_ok {C : Cfg} {S : Sta} {E : Ev} (h : (sApply C S E).2 = 0) : sDoes C S E = some (sApply C S E).1 ∧ evMay E = true ∧ cMay C = true := by
  unfold sApply at h ⊢
  split at h
  · rename_i hm
    rw [if_pos hm]
    simp only [sMay, Bool.and_eq_true] at hm
    cases hd : sDoes C S E with
    | none => rw [hd] at h; simp at h
    | some T => exact ⟨rfl, hm.1.2, hm.1.1⟩
  · simp at h
theorem sApply_err (C : Cfg) (S : Sta) (E : Ev) (h : (sApply C S E).2 ≠ 0) : (sApply C S E).2 = 2000 ∨ (sApply C S E).2 = 2001 := by
  unfold sApply at h ⊢
  split
  · rename_i hm
    rw [if_pos hm] at h
    cases hd : sDoes C S E with
    | none => exact .inr rfl
    | some T => rw [hd] at h; simp at h
  · exact .inl rfl
theorem sNew_in {n : Int} {S : Sta} (h : sNew n = some S) : StaLe S 16 ∧ StaIn S := by
  unfold sNew pNew at h
  split at h
  · simp at h; subst h
    exact ⟨⟨by simp [sta0], by simp [sta0], by simp; omega, by simp [sta0]⟩, ⟨by simp [sta0], by simp [sta0]⟩⟩
  · simp at h
/-- Objects that are owned by a seer; what it keeps. -/
structure Seer {σ : Type} (A : Type) (Inv : σ → (Nat → Prop) → AHeap A → Prop) : Prop where
  lt : ∀ s O g k, Inv s O g → O k → k < g.length
  move : ∀ s O g g', Inv s O g → (∀ k, O k → g'[k]? = g[k]?) → Inv s O g'
/-- What a seer is shown. -/
structure Seen (C : Cfg) (g : AHeap A) (O : Nat → Prop) (x : Nat) (pe : AVal) (ps pt : Nat) (E : Ev) (S T : Sta) : Prop where
  hx : ∃ i : Int, g[x]? = some (.cells t_audit_seen [.int .i64 i, pe, .ptr ps 0, .ptr pt 0])
  nx : ¬ O x
  he : ∀ g', (∀ k, k < g.length → ¬ O k → g'[k]? = g[k]?) → At pe E.row g'
  hs : ∃ sv, IsSta (.agg sv) S ∧ g[ps]? = some (.cells t_api_State sv)
  ns : ¬ O ps
  ht : ∃ sv, IsSta (.agg sv) T ∧ g[pt]? = some (.cells t_api_State sv)
  nt : ¬ O pt
  ok : (sApply C S E).2 = 0 ∧ T = (sApply C S E).1
  le : StaLe S 2000000 ∧ StaIn S
  leT : StaLe T 2000000 ∧ StaIn T
/-- What a seer does. -/
def Sees {σ : Type} (P : Program) (R : Adts A) (C : Cfg) (Inv : σ → (Nat → Prop) → AHeap A → Prop) (step : σ → Ev → Sta → Sta → σ) (Bd : σ → Nat → Prop) (f : FuncId) (cap : List AVal) (es : List Ev) : Prop :=
  ∀ (s : σ) (O : Nat → Prop) (g : AHeap A) (x : Nat) (pe : AVal) (ps pt : Nat) (E : Ev) (S T : Sta) (K : AVal → AHeap A → Prop), E ∈ es → (∃ i, i < es.length ∧ Bd s i) → Inv s O g → Seen C g O x pe ps pt E S T →
    (∀ O' g', Inv (step s E S T) O' g' → (∀ k, k < g.length → ¬ O k → g'[k]? = g[k]?) → g.length ≤ g'.length → (∀ k, O' k → O k ∨ g.length ≤ k) → K (.tup []) g') → Tri P R f ([] ++ ([.ptr x 0] ++ cap)) g K
end Go.AI

/- The document's states: configs, places, pools, locks (printed by gen/sprf1.py). -/
set_option linter.all false
namespace Go.AI
variable {A : Type} {R : Adts A}
/-- A heap that has grown. -/
structure Gr (h g : AHeap A) : Prop where
  k : ∀ k, k < h.length → g[k]? = h[k]?
  l : h.length ≤ g.length
theorem Gr.refl (h : AHeap A) : Gr h h := ⟨fun _ _ => rfl, Nat.le_refl _⟩
theorem Gr.app (h g : AHeap A) : Gr h (h ++ g) := ⟨fun _ hk => List.getElem?_append_left hk, by simp⟩
theorem Gr.trans {h g k : AHeap A} (a : Gr h g) (b : Gr g k) : Gr h k := ⟨fun i hi => (b.k i (by have := a.l; omega)).trans (a.k i hi), Nat.le_trans a.l b.l⟩
theorem Gr.get {h g : AHeap A} (a : Gr h g) {k : Nat} {o : AObj A} (hk : h[k]? = some o) : g[k]? = some o := (a.k k (List.getElem?_eq_some_iff.1 hk).1).trans hk
/-- A slice that stays readable. -/
def Rg {α : Type} (f : α → List AVal) (w : Nat) (a : AVal) (l : List α) (h : AHeap A) : Prop := ∀ g, Gr h g → RdS f w a l g
theorem Rg.fz {α : Type} {f : α → List AVal} {w : Nat} (hf : RowOk f w) {a : AVal} {l : List α} (ha : IsFz f a l) (h : AHeap A) : Rg f w a l h := fun g _ => ha.rd hf g
theorem Own.gr {α : Type} {f : α → List AVal} {w : Nat} {e : TypeId} {a : AVal} {l : List α} {h g : AHeap A} (ha : Own f w e a l h) (hg : Gr h g) : Own f w e a l g := ha.move' fun b hb => hg.k b (ha.blt hb)
theorem Rg.own {α : Type} {f : α → List AVal} {w : Nat} (hf : RowOk f w) {e : TypeId} {a : AVal} {l : List α} {h : AHeap A} (ha : Own f w e a l h) : Rg f w a l h := fun g hg => (ha.gr hg).rd hf
theorem Rg.gr {α : Type} {f : α → List AVal} {w : Nat} {a : AVal} {l : List α} {h g : AHeap A} (ha : Rg f w a l h) (hg : Gr h g) : Rg f w a l g := fun k hk => ha k (hg.trans hk)
theorem ref20_life_ok (hR : R.Ok) (x : Int) {h : AHeap A} {K : AVal → AHeap A → Prop} (hk : K (.bool (life x)) h) : Tri Pr R n_ref20_life [.int .i64 x] h K := by
  refine Tri.fn1 hR _ rfl rfl ?_ hk
  apply c_ref20_life
  unfold p_ref20_life
  by_cases h1 : x ≥ 1
  · by_cases h2 : x ≤ 65536
    · have : life x = true := by simp [life]; omega
      simp -implicitDefEqProofs [h1, h2, this]
      rfl
    · have : life x = false := by simp [life]; omega
      simp -implicitDefEqProofs [h1, h2, this]
      rfl
  · have : life x = false := by simp [life]; omega
    simp -implicitDefEqProofs [h1, this]
    rfl
theorem ref20_ConfigMay_ok (hR : R.Ok) (C : Cfg) {h : AHeap A} {K : AVal → AHeap A → Prop} (hk : K (.bool (cMay C)) h) : Tri Pr R n_ref20_ConfigMay [.agg C.row] h K := by
  refine Tri.fn1 hR _ rfl rfl ?_ hk
  apply c_ref20_ConfigMay
  unfold p_ref20_ConfigMay
  simp -implicitDefEqProofs [Cfg.row]
  by_cases c0 : C.sectors ≥ 3
  case neg =>
    simp -implicitDefEqProofs [c0]
    have hf : cMay C = false := (by cases hc : cMay C with
      | false => rfl
      | true => simp only [cMay, life, Bool.and_eq_true, decide_eq_true_eq] at hc; omega)
    rw [hf]; rfl
  simp -implicitDefEqProofs [c0]
  by_cases c1 : C.sectors ≤ 256
  case neg =>
    simp -implicitDefEqProofs [c1]
    have hf : cMay C = false := (by cases hc : cMay C with
      | false => rfl
      | true => simp only [cMay, life, Bool.and_eq_true, decide_eq_true_eq] at hc; omega)
    rw [hf]; rfl
  simp -implicitDefEqProofs [c1]
  by_cases c2 : C.halves ≥ 1
  case neg =>
    simp -implicitDefEqProofs [c2]
    have hf : cMay C = false := (by cases hc : cMay C with
      | false => rfl
      | true => simp only [cMay, life, Bool.and_eq_true, decide_eq_true_eq] at hc; omega)
    rw [hf]; rfl
  simp -implicitDefEqProofs [c2]
  by_cases c3 : C.halves ≤ 8
  case neg =>
    simp -implicitDefEqProofs [c3]
    have hf : cMay C = false := (by cases hc : cMay C with
      | false => rfl
      | true => simp only [cMay, life, Bool.and_eq_true, decide_eq_true_eq] at hc; omega)
    rw [hf]; rfl
  simp -implicitDefEqProofs [c3]
  by_cases c4 : C.sessions ≥ 1
  case neg =>
    simp -implicitDefEqProofs [c4]
    have hf : cMay C = false := (by cases hc : cMay C with
      | false => rfl
      | true => simp only [cMay, life, Bool.and_eq_true, decide_eq_true_eq] at hc; omega)
    rw [hf]; rfl
  simp -implicitDefEqProofs [c4]
  by_cases c5 : C.sessions ≤ 8
  case neg =>
    simp -implicitDefEqProofs [c5]
    have hf : cMay C = false := (by cases hc : cMay C with
      | false => rfl
      | true => simp only [cMay, life, Bool.and_eq_true, decide_eq_true_eq] at hc; omega)
    rw [hf]; rfl
  simp -implicitDefEqProofs [c5]
  by_cases c6 : C.addresses ≥ 1
  case neg =>
    simp -implicitDefEqProofs [c6]
    have hf : cMay C = false := (by cases hc : cMay C with
      | false => rfl
      | true => simp only [cMay, life, Bool.and_eq_true, decide_eq_true_eq] at hc; omega)
    rw [hf]; rfl
  simp -implicitDefEqProofs [c6]
  by_cases c7 : C.addresses ≤ 16
  case neg =>
    simp -implicitDefEqProofs [c7]
    have hf : cMay C = false := (by cases hc : cMay C with
      | false => rfl
      | true => simp only [cMay, life, Bool.and_eq_true, decide_eq_true_eq] at hc; omega)
    rw [hf]; rfl
  simp -implicitDefEqProofs [c7]
  by_cases c8 : C.fails ≥ 1
  case neg =>
    simp -implicitDefEqProofs [c8]
    have hf : cMay C = false := (by cases hc : cMay C with
      | false => rfl
      | true => simp only [cMay, life, Bool.and_eq_true, decide_eq_true_eq] at hc; omega)
    rw [hf]; rfl
  simp -implicitDefEqProofs [c8]
  by_cases c9 : C.fails ≤ 8
  case neg =>
    simp -implicitDefEqProofs [c9]
    have hf : cMay C = false := (by cases hc : cMay C with
      | false => rfl
      | true => simp only [cMay, life, Bool.and_eq_true, decide_eq_true_eq] at hc; omega)
    rw [hf]; rfl
  simp -implicitDefEqProofs [c9]
  refine ref20_life_ok hR _ ?_
  by_cases c10 : 1 ≤ C.lockout ∧ C.lockout ≤ 65536
  case neg =>
    have e : life C.lockout = false := by simp only [life, decide_eq_false_iff_not]; exact c10
    simp -implicitDefEqProofs [e]
    have hf : cMay C = false := (by cases hc : cMay C with
      | false => rfl
      | true => simp only [cMay, life, Bool.and_eq_true, decide_eq_true_eq] at hc; omega)
    rw [hf]; rfl
  have e10 : life C.lockout = true := by simp only [life, decide_eq_true_eq]; exact c10
  simp -implicitDefEqProofs [e10]
  refine ref20_life_ok hR _ ?_
  by_cases c11 : 1 ≤ C.halfLife ∧ C.halfLife ≤ 65536
  case neg =>
    have e : life C.halfLife = false := by simp only [life, decide_eq_false_iff_not]; exact c11
    simp -implicitDefEqProofs [e]
    have hf : cMay C = false := (by cases hc : cMay C with
      | false => rfl
      | true => simp only [cMay, life, Bool.and_eq_true, decide_eq_true_eq] at hc; omega)
    rw [hf]; rfl
  have e11 : life C.halfLife = true := by simp only [life, decide_eq_true_eq]; exact c11
  simp -implicitDefEqProofs [e11]
  refine ref20_life_ok hR _ ?_
  by_cases c12 : 1 ≤ C.idle ∧ C.idle ≤ 65536
  case neg =>
    have e : life C.idle = false := by simp only [life, decide_eq_false_iff_not]; exact c12
    simp -implicitDefEqProofs [e]
    have hf : cMay C = false := (by cases hc : cMay C with
      | false => rfl
      | true => simp only [cMay, life, Bool.and_eq_true, decide_eq_true_eq] at hc; omega)
    rw [hf]; rfl
  have e12 : life C.idle = true := by simp only [life, decide_eq_true_eq]; exact c12
  simp -implicitDefEqProofs [e12]
  refine ref20_life_ok hR _ ?_
  by_cases c13 : 1 ≤ C.absolute ∧ C.absolute ≤ 65536
  case neg =>
    have e : life C.absolute = false := by simp only [life, decide_eq_false_iff_not]; exact c13
    simp -implicitDefEqProofs [e]
    have hf : cMay C = false := (by cases hc : cMay C with
      | false => rfl
      | true => simp only [cMay, life, Bool.and_eq_true, decide_eq_true_eq] at hc; omega)
    rw [hf]; rfl
  have e13 : life C.absolute = true := by simp only [life, decide_eq_true_eq]; exact c13
  simp -implicitDefEqProofs [e13]
  refine ref20_life_ok hR _ ?_
  by_cases c14 : 1 ≤ C.quarantine ∧ C.quarantine ≤ 65536
  case neg =>
    have e : life C.quarantine = false := by simp only [life, decide_eq_false_iff_not]; exact c14
    simp -implicitDefEqProofs [e]
    have hf : cMay C = false := (by cases hc : cMay C with
      | false => rfl
      | true => simp only [cMay, life, Bool.and_eq_true, decide_eq_true_eq] at hc; omega)
    rw [hf]; rfl
  have e14 : life C.quarantine = true := by simp only [life, decide_eq_true_eq]; exact c14
  simp -implicitDefEqProofs [e14]
  refine ref20_life_ok hR _ ?_
  by_cases c15 : 1 ≤ C.ticketLife ∧ C.ticketLife ≤ 65536
  case neg =>
    have e : life C.ticketLife = false := by simp only [life, decide_eq_false_iff_not]; exact c15
    simp -implicitDefEqProofs [e]
    have hf : cMay C = false := (by cases hc : cMay C with
      | false => rfl
      | true => simp only [cMay, life, Bool.and_eq_true, decide_eq_true_eq] at hc; omega)
    rw [hf]; rfl
  have e15 : life C.ticketLife = true := by simp only [life, decide_eq_true_eq]; exact c15
  simp -implicitDefEqProofs [e15]
  by_cases c16 : C.keep ≥ 0
  case neg =>
    simp -implicitDefEqProofs [c16]
    have hf : cMay C = false := (by cases hc : cMay C with
      | false => rfl
      | true => simp only [cMay, life, Bool.and_eq_true, decide_eq_true_eq] at hc; omega)
    rw [hf]; rfl
  simp -implicitDefEqProofs [c16]
  by_cases c17 : C.keep ≤ 4
  case neg =>
    simp -implicitDefEqProofs [c17]
    have hf : cMay C = false := (by cases hc : cMay C with
      | false => rfl
      | true => simp only [cMay, life, Bool.and_eq_true, decide_eq_true_eq] at hc; omega)
    rw [hf]; rfl
  simp -implicitDefEqProofs [c17]
  have hf : cMay C = true := by
    simp only [cMay, life, Bool.and_eq_true, decide_eq_true_eq]
    omega
  rw [hf]; rfl
def ref20_UserAtI (h : AHeap A) (bx : List AVal) (l : List Usr) (k : Int) (mm : Nat) (y : List AVal) (g : AHeap A) : Prop :=
  ∃ i : Nat, y = [.int .i64 i] ∧ i ≤ l.length ∧ (∀ j (hj : j < l.length), j < i → decide (l[j].user = k) = false) ∧ g = h ++ [.cells t_api_State bx] ∧ mm = l.length - i
theorem ref20_UserAt_ok (hR : R.Ok) {b e n : Int} {xu xs xa xp : AVal} (s1 : xu.scalar = true) (s2 : xs.scalar = true) (s3 : xa.scalar = true) (s4 : xp.scalar = true) {l : List Usr} {h : AHeap A} (hx : Rg Usr.row 9 xu l h) (hn : l.length ≤ 2000000) (k : Int) {K : AVal → AHeap A → Prop}
    (hk : ∀ g, Gr h g → K (.int .i64 (idx1 (uAt l k))) g) : Tri Pr R n_ref20_UserAt [.agg [.int .i64 b, .int .i64 e, .int .i64 n, xu, xs, xa, xp], .int .i64 k] h K := by
  apply c_ref20_UserAt
  unfold p_ref20_UserAt
  simp -implicitDefEqProofs [s1, s2, s3, s4]
  refine loopP_go (ref20_UserAtI h [.int .i64 b, .int .i64 e, .int .i64 n, xu, xs, xa, xp] l k) l.length (Gives.done (Nat.le_refl _) ⟨0, rfl, by omega, fun j _ hj => by omega, rfl, by omega⟩) ?_
  rintro mm y g ⟨i, rfl, hi, hb, rfl, rfl⟩
  have rd := hx (h ++ [.cells t_api_State [.int .i64 b, .int .i64 e, .int .i64 n, xu, xs, xa, xp]]) (Gr.app h _)
  have hl := rd.len
  have w1 := w64 (n := (i : Int) + 1) (by omega)
  by_cases h1 : i < l.length
  · have h1' : (i : Int) < l.length := by omega
    obtain ⟨p, hp, hat⟩ := rd.get i h1
    have p0 : ldV 1 false (p.fad 0) (h ++ [.cells t_api_State [.int .i64 b, .int .i64 e, .int .i64 n, xu, xs, xa, xp]]) = some (.int .i64 (l[i]).user) := hat.cell 0 (by simp [Usr.row])
    by_cases h2 : (l[i]).user = k
    · have h2' : ((l[i]).user == k) = true := by simpa using h2
      have ea : uAt l k = some i := by
        unfold uAt
        rw [List.findIdx?_eq_some_iff_getElem]
        exact ⟨h1, by simpa using h2, fun j hj => by simpa using hb j (by omega) hj⟩
      simp -implicitDefEqProofs [AObj.read, hl, h1', hp, hat.fad, p0, h2']
      have := hk (h ++ [.cells t_api_State [.int .i64 b, .int .i64 e, .int .i64 n, xu, xs, xa, xp]]) (Gr.app h _)
      rw [ea] at this
      exact this
    · have h2' : ((l[i]).user == k) = false := by simpa using h2
      simp -implicitDefEqProofs [AObj.read, hl, h1', hp, hat.fad, p0, h2', w1]
      refine Gives.done (by simp) ⟨l.length - (i + 1), by omega, i + 1, by simp, by omega, fun j hj hji => ?_, rfl, rfl⟩
      by_cases hj2 : j = i
      · subst hj2; simpa using h2
      · exact hb j hj (by omega)
  · have h1' : ¬ (i : Int) < l.length := by omega
    have ea : uAt l k = none := by
      unfold uAt
      rw [List.findIdx?_eq_none_iff]
      intro x hx2
      obtain ⟨j, hj, rfl⟩ := List.mem_iff_getElem.1 hx2
      simpa using hb j hj (by omega)
    simp -implicitDefEqProofs [AObj.read, hl, h1']
    have := hk (h ++ [.cells t_api_State [.int .i64 b, .int .i64 e, .int .i64 n, xu, xs, xa, xp]]) (Gr.app h _)
    rw [ea] at this
    exact this
def ref20_SessionAtI (h : AHeap A) (bx : List AVal) (l : List Ses) (k : Int) (mm : Nat) (y : List AVal) (g : AHeap A) : Prop :=
  ∃ i : Nat, y = [.int .i64 i] ∧ i ≤ l.length ∧ (∀ j (hj : j < l.length), j < i → decide (l[j].session = k) = false) ∧ g = h ++ [.cells t_api_State bx] ∧ mm = l.length - i
theorem ref20_SessionAt_ok (hR : R.Ok) {b e n : Int} {xu xs xa xp : AVal} (s1 : xu.scalar = true) (s2 : xs.scalar = true) (s3 : xa.scalar = true) (s4 : xp.scalar = true) {l : List Ses} {h : AHeap A} (hx : Rg Ses.row 4 xs l h) (hn : l.length ≤ 2000000) (k : Int) {K : AVal → AHeap A → Prop}
    (hk : ∀ g, Gr h g → K (.int .i64 (idx1 (xAt l k))) g) : Tri Pr R n_ref20_SessionAt [.agg [.int .i64 b, .int .i64 e, .int .i64 n, xu, xs, xa, xp], .int .i64 k] h K := by
  apply c_ref20_SessionAt
  unfold p_ref20_SessionAt
  simp -implicitDefEqProofs [s1, s2, s3, s4]
  refine loopP_go (ref20_SessionAtI h [.int .i64 b, .int .i64 e, .int .i64 n, xu, xs, xa, xp] l k) l.length (Gives.done (Nat.le_refl _) ⟨0, rfl, by omega, fun j _ hj => by omega, rfl, by omega⟩) ?_
  rintro mm y g ⟨i, rfl, hi, hb, rfl, rfl⟩
  have rd := hx (h ++ [.cells t_api_State [.int .i64 b, .int .i64 e, .int .i64 n, xu, xs, xa, xp]]) (Gr.app h _)
  have hl := rd.len
  have w1 := w64 (n := (i : Int) + 1) (by omega)
  by_cases h1 : i < l.length
  · have h1' : (i : Int) < l.length := by omega
    obtain ⟨p, hp, hat⟩ := rd.get i h1
    have p0 : ldV 1 false (p.fad 0) (h ++ [.cells t_api_State [.int .i64 b, .int .i64 e, .int .i64 n, xu, xs, xa, xp]]) = some (.int .i64 (l[i]).session) := hat.cell 0 (by simp [Ses.row])
    by_cases h2 : (l[i]).session = k
    · have h2' : ((l[i]).session == k) = true := by simpa using h2
      have ea : xAt l k = some i := by
        unfold xAt
        rw [List.findIdx?_eq_some_iff_getElem]
        exact ⟨h1, by simpa using h2, fun j hj => by simpa using hb j (by omega) hj⟩
      simp -implicitDefEqProofs [AObj.read, hl, h1', hp, hat.fad, p0, h2']
      have := hk (h ++ [.cells t_api_State [.int .i64 b, .int .i64 e, .int .i64 n, xu, xs, xa, xp]]) (Gr.app h _)
      rw [ea] at this
      exact this
    · have h2' : ((l[i]).session == k) = false := by simpa using h2
      simp -implicitDefEqProofs [AObj.read, hl, h1', hp, hat.fad, p0, h2', w1]
      refine Gives.done (by simp) ⟨l.length - (i + 1), by omega, i + 1, by simp, by omega, fun j hj hji => ?_, rfl, rfl⟩
      by_cases hj2 : j = i
      · subst hj2; simpa using h2
      · exact hb j hj (by omega)
  · have h1' : ¬ (i : Int) < l.length := by omega
    have ea : xAt l k = none := by
      unfold xAt
      rw [List.findIdx?_eq_none_iff]
      intro x hx2
      obtain ⟨j, hj, rfl⟩ := List.mem_iff_getElem.1 hx2
      simpa using hb j hj (by omega)
    simp -implicitDefEqProofs [AObj.read, hl, h1']
    have := hk (h ++ [.cells t_api_State [.int .i64 b, .int .i64 e, .int .i64 n, xu, xs, xa, xp]]) (Gr.app h _)
    rw [ea] at this
    exact this
def ref20_spentI (h : AHeap A) (bx : List AVal) (l : List Int) (k : Int) (mm : Nat) (y : List AVal) (g : AHeap A) : Prop :=
  ∃ i : Nat, y = [.int .i64 i] ∧ i ≤ l.length ∧ (∀ j (hj : j < l.length), j < i → l[j] ≠ k) ∧ g = h ++ [.cells t_api_State bx] ∧ mm = l.length - i
theorem ref20_spent_ok (hR : R.Ok) {b e n : Int} {xu xs xa xp : AVal} (s1 : xu.scalar = true) (s2 : xs.scalar = true) (s3 : xa.scalar = true) (s4 : xp.scalar = true) {l : List Int} {h : AHeap A} (hx : Rg iRow 1 xp l h) (hn : l.length ≤ 2000000) (k : Int) {K : AVal → AHeap A → Prop}
    (hk : ∀ g, Gr h g → K (.bool (decide (k ∈ l))) g) : Tri Pr R n_ref20_spent [.agg [.int .i64 b, .int .i64 e, .int .i64 n, xu, xs, xa, xp], .int .i64 k] h K := by
  apply c_ref20_spent
  unfold p_ref20_spent
  simp -implicitDefEqProofs [s1, s2, s3, s4]
  refine loopP_go (ref20_spentI h [.int .i64 b, .int .i64 e, .int .i64 n, xu, xs, xa, xp] l k) l.length (Gives.done (Nat.le_refl _) ⟨0, rfl, by omega, fun j _ hj => by omega, rfl, by omega⟩) ?_
  rintro mm y g ⟨i, rfl, hi, hb, rfl, rfl⟩
  have rd := hx (h ++ [.cells t_api_State [.int .i64 b, .int .i64 e, .int .i64 n, xu, xs, xa, xp]]) (Gr.app h _)
  have hl := rd.len
  have w1 := w64 (n := (i : Int) + 1) (by omega)
  have this := hk (h ++ [.cells t_api_State [.int .i64 b, .int .i64 e, .int .i64 n, xu, xs, xa, xp]]) (Gr.app h _)
  by_cases h1 : i < l.length
  · have h1' : (i : Int) < l.length := by omega
    obtain ⟨p, hp, hat⟩ := rd.get i h1
    have p0 : ldV 1 false p (h ++ [.cells t_api_State [.int .i64 b, .int .i64 e, .int .i64 n, xu, xs, xa, xp]]) = some (.int .i64 l[i]) := At.hd (c := []) hat
    by_cases h2 : l[i] = k
    · have h2' : (l[i] == k) = true := by simpa using h2
      have e : decide (k ∈ l) = true := by simp only [decide_eq_true_eq]; exact h2 ▸ List.getElem_mem h1
      rw [e] at this
      simp -implicitDefEqProofs [AObj.read, hl, h1', hp, p0, h2']
      exact this
    · have h2' : (l[i] == k) = false := by simpa using h2
      simp -implicitDefEqProofs [AObj.read, hl, h1', hp, p0, h2', w1]
      refine Gives.done (by simp) ⟨l.length - (i + 1), by omega, i + 1, by simp, by omega, fun j hj hji => ?_, rfl, rfl⟩
      by_cases hj2 : j = i
      · subst hj2; exact h2
      · exact hb j hj (by omega)
  · have h1' : ¬ (i : Int) < l.length := by omega
    have e : decide (k ∈ l) = false := by
      simp only [decide_eq_false_iff_not]
      intro hx2
      obtain ⟨j, hj, rfl⟩ := List.mem_iff_getElem.1 hx2
      exact hb j hj (by omega) rfl
    rw [e] at this
    simp -implicitDefEqProofs [AObj.read, hl, h1']
    exact this
def ref12_poolMayI (h : AHeap A) (l : List Adr) (mm : Nat) (y : List AVal) (g : AHeap A) : Prop :=
  ∃ i : Nat, y = [.int .i64 i] ∧ i ≤ l.length ∧ (∀ j (hj : j < l.length), j < i → adMay l[j] = true) ∧ g = h ∧ mm = l.length - i
theorem ref12_poolMay_ok (hR : R.Ok) {a : AVal} {l : List Adr} {h : AHeap A} (rd : RdS Adr.row 3 a l h) (hn : l.length ≤ 2000000) (user : Int) {K : AVal → AHeap A → Prop} (hk : K (.bool (poolMay l && decide (0 ≤ user ∧ user < 8))) h) : Tri Pr R n_ref12_poolMay [a, .int .i64 user] h K := by
  apply c_ref12_poolMay
  unfold p_ref12_poolMay
  have hl := rd.len
  refine loopP_go (ref12_poolMayI h l) l.length (Gives.done (Nat.le_refl _) ⟨0, rfl, by omega, fun j _ hj => by omega, rfl, by omega⟩) ?_
  rintro mm y g ⟨i, rfl, hi, hb, rfl, rfl⟩
  have w1 := w64 (n := (i : Int) + 1) (by omega)
  by_cases h1 : i < l.length
  · have h1' : (i : Int) < l.length := by omega
    obtain ⟨p, hp, hat⟩ := rd.get i h1
    have p1 : ldV 1 false (p.fad 1) g = some (.int .i64 (l[i]).last) := hat.cell 1 (by simp [Adr.row])
    have p2 : ldV 1 false (p.fad 2) g = some (.int .i64 (l[i]).unt) := hat.cell 2 (by simp [Adr.row])
    have no : adMay l[i] = false → K (.bool false) g := fun h2 => by
      have : poolMay l = false := by
        cases hc : poolMay l with
        | false => rfl
        | true =>
          simp only [poolMay, Bool.and_eq_true] at hc
          have := List.all_eq_true.1 hc.2 _ (List.getElem_mem h1)
          rw [h2] at this; simp at this
      rw [this] at hk
      exact hk
    by_cases c1 : (l[i]).last < -1
    · simp -implicitDefEqProofs [hl, h1', hp, hat.fad, p1, c1]
      exact no (by simp [adMay]; omega)
    by_cases c2 : (l[i]).last ≥ 8
    · simp -implicitDefEqProofs [hl, h1', hp, hat.fad, p1, c1, c2]
      exact no (by simp [adMay]; omega)
    by_cases c3 : (l[i]).unt < 0
    · simp -implicitDefEqProofs [hl, h1', hp, hat.fad, p1, p2, c1, c2, c3]
      exact no (by simp [adMay]; omega)
    simp -implicitDefEqProofs [hl, h1', hp, hat.fad, p1, p2, c1, c2, c3, w1]
    refine Gives.done (Nat.le_refl _) ⟨l.length - (i + 1), by omega, i + 1, by simp, by omega, fun j hj hji => ?_, rfl, rfl⟩
    by_cases hj2 : j = i
    · subst hj2; simp [adMay]; omega
    · exact hb j hj (by omega)
  · have h1' : ¬ (i : Int) < l.length := by omega
    have hall : l.all adMay = true := by
      rw [List.all_eq_true]
      intro x hx2
      obtain ⟨j, hj, rfl⟩ := List.mem_iff_getElem.1 hx2
      exact hb j hj (by omega)
    have e : (poolMay l && decide (0 ≤ user ∧ user < 8)) = decide ((l.length : Int) ≥ 1 ∧ (l.length : Int) ≤ 16 ∧ user ≥ 0 ∧ user < 8) := by
      unfold poolMay
      rw [hall]
      simp only [Bool.and_true]
      rw [Bool.eq_iff_iff]
      simp only [Bool.and_eq_true, decide_eq_true_eq]
      omega
    rw [e] at hk
    by_cases c1 : (l.length : Int) ≥ 1
    · by_cases c2 : (l.length : Int) ≤ 16
      · by_cases c3 : user ≥ 0
        · by_cases c4 : user < 8
          · rw [decide_eq_true ⟨c1, c2, c3, c4⟩] at hk
            simp -implicitDefEqProofs [hl, h1', c1, c2, c3, c4]
            exact hk
          · rw [decide_eq_false (fun h => c4 h.2.2.2)] at hk
            simp -implicitDefEqProofs [hl, h1', c1, c2, c3, c4]
            exact hk
        · rw [decide_eq_false (fun h => c3 h.2.2.1)] at hk
          simp -implicitDefEqProofs [hl, h1', c1, c2, c3]
          exact hk
      · rw [decide_eq_false (fun h => c2 h.2.1)] at hk
        simp -implicitDefEqProofs [hl, h1', c1, c2]
        exact hk
    · rw [decide_eq_false (fun h => c1 h.1)] at hk
      simp -implicitDefEqProofs [hl, h1', c1]
      exact hk
end Go.AI

/- The document's states: pools, locks. -/
set_option linter.all false
namespace Go.AI
variable {A : Type} {R : Adts A}
def oAns {α : Type} (f : α → List AVal) (w : Nat) (t : TypeId) (er : Int) (o : Option (List α)) (h : AHeap A) (K : AVal → AHeap A → Prop) : Prop :=
  match o with
  | none => ∀ g, Gr h g → K (.tup [.nils, .int .i64 er]) g
  | some l => ∀ x g, Own f w t x l g → (∀ b, x.blk = some b → h.length ≤ b) → Gr h g → K (.tup [x, .int .i64 0]) g
theorem ref12_with_ok {a : AVal} {l : List Adr} {h : AHeap A} (ha : Rg Adr.row 3 a l h) (hn : l.length ≤ 2000000) {k : Nat} (hk0 : k < l.length) (x : Adr) {K : AVal → AHeap A → Prop}
    (hk : ∀ a' g, Own Adr.row 3 t_api_Address a' (l.set k x) g → (∀ b, a'.blk = some b → h.length ≤ b) → Gr h g → K a' g) : Tri Pr R n_ref12_with [a, .int .i64 k, .agg x.row] h K := by
  apply c_ref12_with
  unfold p_ref12_with
  simp -implicitDefEqProofs [Adr.row]
  have rd := ha (h ++ [.cells t_api_Address [.bool x.busy, .int .i64 x.last, .int .i64 x.unt], .cells t_api_Address []]) (Gr.app _ _)
  have hq : (h ++ [.cells t_api_Address [.bool x.busy, .int .i64 x.last, .int .i64 x.unt], .cells t_api_Address []] : AHeap A)[h.length + 1]? = some (.cells t_api_Address []) := by rw [List.getElem?_append_right (by omega)]; simp
  have hne : l ≠ [] := by intro h9; rw [h9] at hk0; simp at hk0
  refine app_clone adrR (by decide) hq rd.src (by omega) ?_
  rw [if_neg hne]
  obtain ⟨g5, hg5⟩ : ∃ g5, g5 = (h ++ [AObj.cells t_api_Address [.bool x.busy, .int .i64 x.last, .int .i64 x.unt], .cells t_api_Address []]) ++ [.cells t_api_Address (l.flatMap Adr.row)] := ⟨_, rfl⟩
  rw [← hg5]
  have l5 : g5.length = h.length + 3 := by rw [hg5]; simp
  have G5 : Gr h g5 := by rw [hg5, List.append_assoc]; exact Gr.app _ _
  have own : Own Adr.row 3 t_api_Address (.sl (h.length + 2) 0 l.length l.length false) l g5 := Own.new adrR (by rw [hg5, List.getElem?_append_right (by simp)]; simp) rfl
  have hb0 : g5[h.length]? = some (.cells t_api_Address [.bool x.busy, .int .i64 x.last, .int .i64 x.unt]) := by rw [hg5, List.getElem?_append_left (by simp), List.getElem?_append_right (by omega)]; simp
  obtain ⟨b, hb, hix, _⟩ := own.el adrR hk0
  rw [show (h ++ [AObj.cells t_api_Address [.bool x.busy, .int .i64 x.last, .int .i64 x.unt], .cells t_api_Address []] : AHeap A).length = h.length + 2 by simp]
  have hbe : b = h.length + 2 := by simp [AVal.blk] at hb; exact hb.symm
  simp -implicitDefEqProofs [hb0, AObj.read, hix]
  refine own.sth adrR hk0 hb (off := 0) (o := k * 3) (c := [.bool x.busy, .int .i64 x.last, .int .i64 x.unt]) x rfl (by simp) rfl rfl fun h2 own2 f2 l2 => ?_
  exact hk _ h2 own2 (fun b' hb' => by simp [AVal.blk] at hb'; omega) ⟨fun k hk => (f2 k (by omega)).trans (G5.k k hk), by have := G5.l; omega⟩
theorem ref12_Free_ok (hR : R.Ok) {a : AVal} {l : List Adr} {h : AHeap A} (ha : Rg Adr.row 3 a l h) (hn : l.length ≤ 2000000) (i u : Int) {K : AVal → AHeap A → Prop} (hk : oAns Adr.row 3 t_api_Address 1600 (pFree l i u) h K) : Tri Pr R n_ref12_Free [a, .int .i64 i, .int .i64 u] h K := by
  have rd := ha h (Gr.refl h)
  have la := rd.len
  have no : pFree l i u = none → K (.tup [.nils, .int .i64 1600]) h := fun e => by rw [e] at hk; exact hk h (Gr.refl h)
  apply c_ref12_Free
  unfold p_ref12_Free
  refine ref12_poolMay_ok hR rd hn 0 ?_
  by_cases h1 : poolMay l = true
  case neg =>
    have h1' : poolMay l = false := by simpa using h1
    simp -implicitDefEqProofs [h1']
    exact no (by unfold pFree; rw [if_neg]; rintro ⟨h, _⟩; exact h1 h)
  by_cases c1 : i < 0
  · simp -implicitDefEqProofs [h1, c1]
    exact no (by unfold pFree; rw [if_neg]; rintro ⟨_, h, _⟩; omega)
  by_cases c2 : i ≥ (l.length : Int)
  · simp -implicitDefEqProofs [h1, c1, la, c2]
    exact no (by unfold pFree; rw [if_neg]; rintro ⟨_, _, h, _⟩; omega)
  obtain ⟨k, rfl⟩ : ∃ k : Nat, i = k := ⟨i.toNat, by omega⟩
  have hkl : k < l.length := by omega
  obtain ⟨p, hp, hat⟩ := rd.get k hkl
  have c0 : ldV 1 false (p.fad 0) h = some (.bool l[k].busy) := hat.cell 0 (by simp [Adr.row])
  have hall : ldV 3 true p h = some (.agg l[k].row) := hat.all
  have eg : l.getD k adr0 = l[k] := adr_get hkl
  by_cases c3 : l[k].busy = true
  case neg =>
    have c3' : l[k].busy = false := by simpa using c3
    simp -implicitDefEqProofs [h1, c1, la, c2, hp, hat.fad, c0, c3']
    exact no (by unfold pFree; rw [if_neg]; rintro ⟨_, _, _, h, _⟩; rw [Int.toNat_natCast, eg, c3'] at h; simp at h)
  by_cases c4 : u < 0
  · simp -implicitDefEqProofs [h1, c1, la, c2, hp, hat.fad, c0, c3, c4]
    exact no (by unfold pFree; rw [if_neg]; rintro ⟨_, _, _, _, h⟩; omega)
  have e : pFree l k u = some (l.set k ⟨false, l[k].last, u⟩) := by
    unfold pFree; rw [if_pos ⟨h1, by omega, by omega, by rw [Int.toNat_natCast, eg]; exact c3, by omega⟩, Int.toNat_natCast, eg]
  rw [e] at hk
  unfold Adr.row at hall
  simp -implicitDefEqProofs [h1, c1, la, c2, hp, hat.fad, c0, c3, c4, hall]
  refine ref12_with_ok (ha.gr (Gr.app h _)) hn hkl ⟨false, l[k].last, u⟩ fun a' g o1 b1 g1 => ?_
  exact hk a' g o1 (fun b hb => by have := b1 b hb; rw [List.length_append] at this; omega) ((Gr.app h _).trans g1)
theorem ref12_Take_ok (hR : R.Ok) {a : AVal} {l : List Adr} {h : AHeap A} (ha : Rg Adr.row 3 a l h) (hn : l.length ≤ 2000000) (i u : Int) {K : AVal → AHeap A → Prop} (hk : oAns Adr.row 3 t_api_Address 1600 (pTake l i u) h K) : Tri Pr R n_ref12_Take [a, .int .i64 i, .int .i64 u] h K := by
  have rd := ha h (Gr.refl h)
  have la := rd.len
  have no : pTake l i u = none → K (.tup [.nils, .int .i64 1600]) h := fun e => by rw [e] at hk; exact hk h (Gr.refl h)
  apply c_ref12_Take
  unfold p_ref12_Take
  refine ref12_poolMay_ok hR rd hn u ?_
  by_cases h1 : poolMay l = true
  case neg =>
    have h1' : poolMay l = false := by simpa using h1
    simp -implicitDefEqProofs [h1']
    exact no (by unfold pTake; rw [if_neg]; rintro ⟨h, _⟩; exact h1 h)
  by_cases hu : 0 ≤ u ∧ u < 8
  case neg =>
    have hu' : decide (0 ≤ u ∧ u < 8) = false := decide_eq_false hu
    rw [h1, hu']
    simp -implicitDefEqProofs
    exact no (by unfold pTake; rw [if_neg]; rintro ⟨_, h, h2, _⟩; exact hu ⟨h, h2⟩)
  have hu' : decide (0 ≤ u ∧ u < 8) = true := decide_eq_true hu
  rw [h1, hu']
  by_cases c1 : i < 0
  · simp -implicitDefEqProofs [c1]
    exact no (by unfold pTake; rw [if_neg]; rintro ⟨_, _, _, h, _⟩; omega)
  by_cases c2 : i ≥ (l.length : Int)
  · simp -implicitDefEqProofs [c1, la, c2]
    exact no (by unfold pTake; rw [if_neg]; rintro ⟨_, _, _, _, h, _⟩; omega)
  obtain ⟨k, rfl⟩ : ∃ k : Nat, i = k := ⟨i.toNat, by omega⟩
  have hkl : k < l.length := by omega
  obtain ⟨p, hp, hat⟩ := rd.get k hkl
  have c0 : ldV 1 false (p.fad 0) h = some (.bool l[k].busy) := hat.cell 0 (by simp [Adr.row])
  have eg : l.getD k adr0 = l[k] := adr_get hkl
  by_cases c3 : l[k].busy = true
  · simp -implicitDefEqProofs [c1, la, c2, hp, hat.fad, c0, c3]
    exact no (by unfold pTake; rw [if_neg]; rintro ⟨_, _, _, _, _, h⟩; rw [Int.toNat_natCast, eg, c3] at h; simp at h)
  have c3' : l[k].busy = false := by simpa using c3
  have e : pTake l k u = some (l.set k ⟨true, u, 0⟩) := by
    unfold pTake; rw [if_pos ⟨h1, hu.1, hu.2, by omega, by omega, by rw [Int.toNat_natCast, eg]; exact c3'⟩, Int.toNat_natCast]
  rw [e] at hk
  simp -implicitDefEqProofs [c1, la, c2, hp, hat.fad, c0, c3']
  refine ref12_with_ok ha hn hkl ⟨true, u, 0⟩ fun a' g o1 b1 g1 => ?_
  exact hk a' g o1 b1 g1
theorem ref12_tickMay_ok (hR : R.Ok) (x : Int) {h : AHeap A} {K : AVal → AHeap A → Prop} (hk : K (.bool (decide (0 ≤ x ∧ x ≤ 1048575))) h) : Tri Pr R n_ref12_tickMay [.int .i64 x] h K := by
  refine Tri.fn1 hR _ rfl rfl ?_ hk
  apply c_ref12_tickMay
  unfold p_ref12_tickMay
  by_cases h1 : x ≥ 0
  · by_cases h2 : x ≤ 1048575
    · rw [decide_eq_true ⟨h1, h2⟩]
      simp -implicitDefEqProofs [h1, h2]
      rfl
    · rw [decide_eq_false (fun h => h2 h.2)]
      simp -implicitDefEqProofs [h1, h2]
      rfl
  · rw [decide_eq_false (fun h => h1 h.1)]
    simp -implicitDefEqProofs [h1]
    rfl
theorem ref12_LockOpen_ok (hR : R.Ok) (f u t : Int) {h : AHeap A} {K : AVal → AHeap A → Prop} (hk : K (.bool (decide (u ≤ t))) h) : Tri Pr R n_ref12_LockOpen [.agg [.int .i64 f, .int .i64 u], .int .i64 t] h K := by
  refine Tri.fn1 hR _ rfl rfl ?_ hk
  apply c_ref12_LockOpen
  unfold p_ref12_LockOpen
  simp -implicitDefEqProofs [AObj.read]
  rfl
theorem ref12_Fail_ok (hR : R.Ok) (f u tick most out : Int) {h : AHeap A} {K : AVal → AHeap A → Prop} (hk : K (kAns (kFail f u tick most out)) h) : Tri Pr R n_ref12_Fail [.agg [.int .i64 f, .int .i64 u], .int .i64 tick, .int .i64 most, .int .i64 out] h K := by
  refine Tri.fn1 hR _ (by unfold kAns; split <;> rfl) rfl ?_ hk
  apply c_ref12_Fail
  unfold p_ref12_Fail
  by_cases g1 : f < 0
  · simp -implicitDefEqProofs [g1, AObj.read]
    exact Ans.of (by unfold kFail; rw [if_pos (by omega)]; rfl)
  by_cases g2 : f > 8
  · simp -implicitDefEqProofs [g1, g2, AObj.read]
    exact Ans.of (by unfold kFail; rw [if_pos (by omega)]; rfl)
  by_cases g3 : u < 0
  · simp -implicitDefEqProofs [g1, g2, g3, AObj.read]
    exact Ans.of (by unfold kFail; rw [if_pos (by omega)]; rfl)
  by_cases g4 : u > 1114111
  · simp -implicitDefEqProofs [g1, g2, g3, g4, AObj.read]
    exact Ans.of (by unfold kFail; rw [if_pos (by omega)]; rfl)
  simp -implicitDefEqProofs [g1, g2, g3, g4, AObj.read]
  refine ref12_tickMay_ok hR tick ?_
  by_cases g5 : 0 ≤ tick ∧ tick ≤ 1048575
  case neg =>
    rw [decide_eq_false g5]
    simp -implicitDefEqProofs [AObj.read]
    exact Ans.of (by unfold kFail; rw [if_pos (by omega)]; rfl)
  rw [decide_eq_true g5]
  by_cases g6 : most < 1
  · simp -implicitDefEqProofs [g6, AObj.read]
    exact Ans.of (by unfold kFail; rw [if_pos (by omega)]; rfl)
  by_cases g7 : most > 8
  · simp -implicitDefEqProofs [g6, g7, AObj.read]
    exact Ans.of (by unfold kFail; rw [if_pos (by omega)]; rfl)
  by_cases g8 : out < 1
  · simp -implicitDefEqProofs [g6, g7, g8, AObj.read]
    exact Ans.of (by unfold kFail; rw [if_pos (by omega)]; rfl)
  by_cases g9 : out > 65536
  · simp -implicitDefEqProofs [g6, g7, g8, g9, AObj.read]
    exact Ans.of (by unfold kFail; rw [if_pos (by omega)]; rfl)
  simp -implicitDefEqProofs [g6, g7, g8, g9, AObj.read]
  refine ref12_LockOpen_ok hR f u tick ?_
  by_cases g10 : u ≤ tick
  case neg =>
    rw [decide_eq_false g10]
    simp -implicitDefEqProofs [AObj.read]
    exact Ans.of (by unfold kFail; rw [if_pos (by omega)]; rfl)
  rw [decide_eq_true g10]
  have hf : kFail f u tick most out = some ((if most ≤ f then 1 else f + 1), if (if most ≤ f then (1 : Int) else f + 1) = most then tick + out else u) := by
    unfold kFail; rw [if_neg (by omega)]
  rw [hf]
  have w1 := w64 (n := f + 1) (by omega)
  have w2 := w64 (n := tick + out) (by omega)
  simp -implicitDefEqProofs
  refine joinP_go ?_
  by_cases g11 : f ≥ most
  · have g11' : most ≤ f := g11
    simp -implicitDefEqProofs [g11, g11', AObj.read]
    refine joinP_go ?_
    by_cases g12 : (1 : Int) = most
    · subst g12
      simp -implicitDefEqProofs [AObj.read, w2]
      rfl
    · have g12' : ((1 : Int) == most) = false := by simpa using g12
      simp -implicitDefEqProofs [AObj.read, g12, g12']
      rfl
  · have g11' : ¬ most ≤ f := g11
    simp -implicitDefEqProofs [g11, g11', AObj.read, w1]
    refine joinP_go ?_
    by_cases g12 : f + 1 = most
    · have g12' : (f + 1 == most) = true := by simpa using g12
      simp -implicitDefEqProofs [AObj.read, g12, g12', w2]
      rfl
    · have g12' : (f + 1 == most) = false := by simpa using g12
      simp -implicitDefEqProofs [AObj.read, g12, g12']
      rfl
theorem ref20_Sum_ok (hR : R.Ok) (x y : Int) (hx : -9223372036854775808 ≤ x) (hy : 0 ≤ y ∧ y ≤ 1073741823) {h : AHeap A} {K : AVal → AHeap A → Prop} (hk : K (.int .i64 (sum x y)) h) : Tri Pr R n_ref20_Sum [.int .i64 x, .int .i64 y] h K := by
  refine Tri.fn1 hR _ rfl rfl ?_ hk
  apply c_ref20_Sum
  unfold p_ref20_Sum
  have w1 := w64 (n := 1073741823 - y) (by omega)
  by_cases h1 : x > 1073741823 - y
  · have h1' : 1073741823 - y < x := h1
    simp -implicitDefEqProofs [w1, h1]
    unfold sum
    rw [if_pos h1']
    rfl
  · have h1' : ¬ 1073741823 - y < x := h1
    have w2 := w64 (n := x + y) (by omega)
    simp -implicitDefEqProofs [w1, h1, w2]
    unfold sum
    rw [if_neg h1']
    rfl
end Go.AI

/- The document's states: boots. -/
set_option linter.all false
namespace Go.AI
variable {A : Type} {R : Adts A}
def In4 (xu xs xa xp : AVal) (k : Nat) : Prop := xu.blk = some k ∨ xs.blk = some k ∨ xa.blk = some k ∨ xp.blk = some k
/-- A state of one's own. -/
structure OS (h : AHeap A) (s : Sta) (xu xs xa xp : AVal) : Prop where
  u : Own Usr.row 9 t_api_User xu s.users h
  x : Own Ses.row 4 t_api_Session xs s.sess h
  a : Own Adr.row 3 t_api_Address xa s.addrs h
  p : Own iRow 1 t_int xp s.spent h
theorem ty_ne {α β : Type} {f : α → List AVal} {f2 : β → List AVal} {w w2 : Nat} {t t2 : TypeId} {a b : AVal} {l : List α} {l2 : List β} {h : AHeap A} (ha : Own f w t a l h) (hb : Own f2 w2 t2 b l2 h) (ht : t ≠ t2) : ∀ k, a.blk = some k → b.blk ≠ some k := by
  intro k h1 h2
  obtain ⟨c1, e1⟩ := ha.at h1
  obtain ⟨c2, e2⟩ := hb.at h2
  rw [e1] at e2
  exact ht (AObj.cells.inj (Option.some.inj e2)).1
def sCells (s : Sta) (xu xs xa xp : AVal) : List AVal := [.int .i64 s.boots, .int .i64 s.epoch, .int .i64 s.next, xu, xs, xa, xp]
theorem sc7 {s : Sta} {xu xs xa xp : AVal} (s1 : xu.scalar = true) (s2 : xs.scalar = true) (s3 : xa.scalar = true) (s4 : xp.scalar = true) : (sCells s xu xs xa xp).all AVal.scalar = true := by
  unfold sCells
  simp only [List.all_cons, List.all_nil, s1, s2, s3, s4, Bool.and_true]
  rfl
theorem OS.lt {h : AHeap A} {s : Sta} {xu xs xa xp : AVal} (O : OS h s xu xs xa xp) {k : Nat} (hk : In4 xu xs xa xp k) : k < h.length := by
  rcases hk with h1 | h1 | h1 | h1
  · exact O.u.blt h1
  · exact O.x.blt h1
  · exact O.a.blt h1
  · exact O.p.blt h1
theorem OS.move {h g : AHeap A} {s : Sta} {xu xs xa xp : AVal} (O : OS h s xu xs xa xp) (hg : ∀ k, In4 xu xs xa xp k → g[k]? = h[k]?) : OS g s xu xs xa xp :=
  ⟨O.u.move' fun b hb => hg b (.inl hb), O.x.move' fun b hb => hg b (.inr (.inl hb)), O.a.move' fun b hb => hg b (.inr (.inr (.inl hb))), O.p.move' fun b hb => hg b (.inr (.inr (.inr hb)))⟩
theorem OS.gr {h g : AHeap A} {s : Sta} {xu xs xa xp : AVal} (O : OS h s xu xs xa xp) (G : Gr h g) : OS g s xu xs xa xp := O.move fun k hk => G.k k (O.lt hk)
/-- What is kept: all but what is one's own. -/
structure Fr4 (I : Nat → Prop) (h g : AHeap A) : Prop where
  k : ∀ k, k < h.length → ¬ I k → g[k]? = h[k]?
  l : h.length ≤ g.length
theorem Fr4.gr {I : Nat → Prop} {h g : AHeap A} (G : Gr h g) : Fr4 I h g := ⟨fun k hk _ => G.k k hk, G.l⟩
/-- An answer with a state. -/
def K4 (I : Nat → Prop) (h : AHeap A) (o : Option Sta) (K : AVal → AHeap A → Prop) : Prop :=
  (o = none → ∀ l g, l.length = 7 → l.all AVal.scalar = true → Fr4 I h g → K (.tup [.agg l, .bool false]) g) ∧
  (∀ s, o = some s → ∀ xu xs xa xp g, OS g s xu xs xa xp → Fr4 I h g → (∀ b, In4 xu xs xa xp b → I b ∨ h.length ≤ b) → K (.tup [.agg (sCells s xu xs xa xp), .bool true]) g)
theorem freeAll_cons (u : Int) (x : Ses) (r : List Ses) (ps : List Adr) : freeAll u (x :: r) ps = match pFree ps x.address u with | some ps => freeAll u r ps | none => none := rfl
theorem freeAll_nil (u : Int) (ps : List Adr) : freeAll u [] ps = some ps := rfl
structure BtI (C : Cfg) (E : Ev) (h : AHeap A) (s : Sta) (xu xs xa0 xp : AVal) (i : Nat) (l : List Adr) (xa : AVal) (g : AHeap A) : Prop where
  il : i ≤ s.sess.length
  o : OS g { s with boots := s.boots + 1, addrs := l } xu xs xa xp
  fr : freeAll (E.tick + C.quarantine) (s.sess.drop i) l = freeAll (E.tick + C.quarantine) s.sess s.addrs
  ll : l.length = s.addrs.length
  f : ∀ k, k < h.length → g[k]? = h[k]?
  c0 : g[h.length]? = some (.cells t_api_Config C.row)
  c1 : g[h.length + 1]? = some (.cells t_api_State (sCells { s with boots := s.boots + 1 } xu xs xa xp))
  c2 : g[h.length + 2]? = some (.cells t_api_Event E.row)
  c3 : g[h.length + 3]? = some (.cells t_api_State [.int .i64 0, .int .i64 0, .int .i64 0, .nils, .nils, .nils, .nils])
  ab : ∀ b, xa.blk = some b → xa0.blk = some b ∨ h.length + 4 ≤ b
  len : h.length + 4 ≤ g.length
def BtJ (C : Cfg) (E : Ev) (h : AHeap A) (s : Sta) (xu xs xa0 xp : AVal) (mm : Nat) (y : List AVal) (g : AHeap A) : Prop :=
  ∃ (i : Nat) (l : List Adr) (xa : AVal), y = [.int .i64 i] ∧ BtI C E h s xu xs xa0 xp i l xa g ∧ mm = s.sess.length - i
theorem ref20_booted_ok (hR : R.Ok) (C : Cfg) (E : Ev) {s : Sta} {xu xs xa xp : AVal} {h : AHeap A} (O : OS h s xu xs xa xp) (hle : StaLe s 2000000) (hE : EvIn E) (hC : 1 ≤ C.quarantine ∧ C.quarantine ≤ 65536) (hk0 : E.kind = 0) {K : AVal → AHeap A → Prop}
    (hk : K4 (In4 xu xs xa xp) h (sDoes C s E) K) : Tri Pr R n_ref20_booted [.agg C.row, .agg (sCells s xu xs xa xp), .agg E.row] h K := by
  have rc : Cfg.row C = [.int .i64 C.sectors, .int .i64 C.halves, .int .i64 C.sessions, .int .i64 C.addresses, .int .i64 C.fails, .int .i64 C.lockout, .int .i64 C.halfLife, .int .i64 C.idle, .int .i64 C.absolute, .int .i64 C.quarantine, .int .i64 C.ticketLife, .int .i64 C.keep] := rfl
  have re : Ev.row E = [.int .i64 E.kind, .int .i64 E.user, .int .i64 E.session, .int .i64 E.address, .int .i64 E.a, .int .i64 E.b, .int .i64 E.c, .int .i64 E.tick] := rfl
  have s1 := O.u.sc
  have s2 := O.x.sc
  have s3 := O.a.sc
  have s4 := O.p.sc
  unfold sDoes at hk
  rw [if_pos hk0] at hk
  apply c_ref20_booted
  unfold p_ref20_booted sCells
  by_cases h1 : 0 ≤ s.boots ∧ s.boots < 1073741823
  case neg =>
    have ho : (match freeAll (E.tick + C.quarantine) s.sess s.addrs with | some ps => if 0 ≤ s.boots ∧ s.boots < 1073741823 then some { s with boots := s.boots + 1, addrs := ps, sess := [] } else none | none => none) = none := by
      cases freeAll (E.tick + C.quarantine) s.sess s.addrs with
      | none => rfl
      | some ps => exact if_neg h1
    by_cases h2 : s.boots < 0
    · simp -implicitDefEqProofs [rc, re, s1, s2, s3, s4, AObj.read, h2]
      exact hk.1 ho (sCells s xu xs xa xp) _ rfl (sc7 s1 s2 s3 s4) (Fr4.gr (Gr.app h _))
    · have h3 : s.boots ≥ 1073741823 := by omega
      simp -implicitDefEqProofs [rc, re, s1, s2, s3, s4, AObj.read, h2, h3]
      exact hk.1 ho (sCells s xu xs xa xp) _ rfl (sc7 s1 s2 s3 s4) (Fr4.gr (Gr.app h _))
  have h2 : ¬ s.boots < 0 := by omega
  have h3 : ¬ s.boots ≥ 1073741823 := by omega
  have w1 := w64 (n := s.boots + 1) (by omega)
  simp -implicitDefEqProofs [rc, re, s1, s2, s3, s4, AObj.read, h2, h3, w1]
  obtain ⟨g0, hg0⟩ : ∃ g0, g0 = h ++ [AObj.cells t_api_Config C.row, .cells t_api_State (sCells { s with boots := s.boots + 1 } xu xs xa xp), .cells t_api_Event E.row, .cells t_api_State [.int .i64 0, .int .i64 0, .int .i64 0, .nils, .nils, .nils, .nils]] := ⟨_, rfl⟩
  have G0 : Gr h g0 := by rw [hg0]; exact Gr.app h _
  have l0 : g0.length = h.length + 4 := by rw [hg0]; simp
  refine cast (congrArg (fun z => loopP (Gives Pr R) _ [.int .i64 0] z) hg0) ?_
  refine loopP_go (BtJ C E h s xu xs xa xp) s.sess.length (Gives.done (Nat.le_refl _) ⟨0, s.addrs, xa, rfl, ⟨by omega, ⟨(O.u.gr G0), (O.x.gr G0), (O.a.gr G0), (O.p.gr G0)⟩, by rw [List.drop_zero], rfl, G0.k, ?_, ?_, ?_, ?_, fun b hb => .inl hb, by omega⟩, by omega⟩) ?_
  · rw [hg0, List.getElem?_append_right (Nat.le_refl _)]; simp
  · rw [hg0, List.getElem?_append_right (by omega)]; simp
  · rw [hg0, List.getElem?_append_right (by omega)]; simp
  · rw [hg0, List.getElem?_append_right (by omega)]; simp
  rintro mm y g ⟨i, l, xa1, rfl, B, rfl⟩
  have c0 := B.c0
  have c1 := B.c1
  have c2 := B.c2
  have c3 := B.c3
  have len := B.len
  have il := B.il
  rw [rc] at c0
  rw [re] at c2
  unfold sCells at c1
  have rdx := B.o.x.rd sesR
  have lx := rdx.len
  have a1 := B.o.a.sc
  have ltO : ∀ k, In4 xu xs xa xp k → k < h.length := fun k hk => O.lt hk
  have wi := w64 (n := (i : Int) + 1) (by have := hle.x; omega)
  have wt := w64 (n := E.tick + C.quarantine) (by have := hE.tick; omega)
  by_cases h5 : i < s.sess.length
  · have h5' : (i : Int) < s.sess.length := by omega
    obtain ⟨p, hp, hat⟩ := rdx.get i h5
    have p2 : ldV 1 false (p.fad 2) g = some (.int .i64 (s.sess[i]).address) := hat.cell 2 (by simp [Ses.row])
    have fr := B.fr
    rw [List.drop_eq_getElem_cons h5, freeAll_cons] at fr
    simp -implicitDefEqProofs [c0, c1, c2, AObj.read, lx, h5', hp, hat.fad, p2, wt]
    refine ref12_Free_ok hR (Rg.own adrR B.o.a) (by have := hle.a; have := B.ll; show l.length ≤ _; omega) _ _ ?_
    cases hpf : pFree l (s.sess[i]).address (E.tick + C.quarantine) with
    | none =>
      rw [hpf] at fr
      have ho : (match freeAll (E.tick + C.quarantine) s.sess s.addrs with | some ps => if 0 ≤ s.boots ∧ s.boots < 1073741823 then some { s with boots := s.boots + 1, addrs := ps, sess := [] } else none | none => none) = none := by
        rw [← fr]
      intro g2 G2
      have d1 := G2.get c1
      have d3 := G2.get c3
      have l3 := (List.getElem?_eq_some_iff.1 d3).1
      have r3 : ∀ o, (g2.set (h.length + 3) o)[h.length + 3]? = some o := fun o => List.getElem?_set_self l3
      simp -implicitDefEqProofs [d1, d3, AObj.read, s1, s2, a1, s4, r3]
      refine hk.1 ho (sCells { s with boots := s.boots + 1 } xu xs xa1 xp) _ rfl (sc7 s1 s2 a1 s4) ⟨fun k hk _ => ?_, by have := G2.l; simp; omega⟩
      rw [List.getElem?_set_ne (by omega), G2.k k (by omega)]
      exact B.f k hk
    | some l' =>
      rw [hpf] at fr
      intro x g2 o2 b2 G2
      have d1 := G2.get c1
      have l2 := G2.l
      have sx := o2.sc
      have cx := sc_cs sx
      have lt1 : h.length + 1 < g2.length := by omega
      simp -implicitDefEqProofs [d1, AObj.read, sx, cx, wi]
      have mv : ∀ k, In4 xu xs xa1 xp k → k ≠ h.length + 1 := fun k hk => by
        rcases hk with h6 | h6 | h6 | h6
        · have := ltO k (.inl h6); omega
        · have := ltO k (.inr (.inl h6)); omega
        · rcases B.ab k h6 with h7 | h7
          · have := ltO k (.inr (.inr (.inl h7))); omega
          · omega
        · have := ltO k (.inr (.inr (.inr h6))); omega
      refine Gives.done (by simp; omega) ⟨s.sess.length - (i + 1), by omega, i + 1, l', x, by simp, ⟨by omega, ⟨?_, ?_, ?_, ?_⟩, fr, by rw [pFree_len hpf]; exact B.ll, fun k hk => ?_, ?_, ?_, ?_, ?_, fun b hb => .inr (by have := b2 b hb; omega), by simp; omega⟩, rfl⟩
      · exact (B.o.u.gr G2).move' fun b hb => List.getElem?_set_ne (Ne.symm (mv b (.inl hb)))
      · exact (B.o.x.gr G2).move' fun b hb => List.getElem?_set_ne (Ne.symm (mv b (.inr (.inl hb))))
      · exact o2.move' fun b hb => List.getElem?_set_ne (by have := b2 b hb; omega)
      · exact (B.o.p.gr G2).move' fun b hb => List.getElem?_set_ne (Ne.symm (mv b (.inr (.inr (.inr hb)))))
      · rw [List.getElem?_set_ne (by omega), G2.k k (by omega)]; exact B.f k hk
      · rw [List.getElem?_set_ne (by omega)]; exact G2.get B.c0
      · rw [List.getElem?_set_self lt1]; rfl
      · rw [List.getElem?_set_ne (by omega)]; exact G2.get B.c2
      · rw [List.getElem?_set_ne (by omega)]; exact G2.get B.c3
  · have h5' : ¬ (i : Int) < s.sess.length := by omega
    have hie : s.sess.drop i = [] := List.drop_eq_nil_of_le (by omega)
    have fr := B.fr
    rw [hie, freeAll_nil] at fr
    have ho : (match freeAll (E.tick + C.quarantine) s.sess s.addrs with | some ps => if 0 ≤ s.boots ∧ s.boots < 1073741823 then some { s with boots := s.boots + 1, addrs := ps, sess := [] } else none | none => none) = some { s with boots := s.boots + 1, addrs := l, sess := [] } := by
      rw [← fr]
      exact if_pos h1
    have r1 : ∀ o, (g.set (h.length + 1) o)[h.length + 1]? = some o := fun o => List.getElem?_set_self (by omega)
    have r3 : ∀ o o', ((g.set (h.length + 1) o).set (h.length + 3) o')[h.length + 3]? = some o' := fun o o' => List.getElem?_set_self (by simp; omega)
    have r13 : ∀ o, (g.set (h.length + 1) o)[h.length + 3]? = g[h.length + 3]? := fun o => List.getElem?_set_ne (by omega)
    simp -implicitDefEqProofs [c1, AObj.read, lx, h5', r1, r13, c3, s1, a1, s4, r3]
    have mv : ∀ k, In4 xu .nils xa1 xp k → k ≠ h.length + 1 ∧ k ≠ h.length + 3 := fun k hk => by
      rcases hk with h6 | h6 | h6 | h6
      · have := ltO k (.inl h6); omega
      · simp [AVal.blk] at h6
      · rcases B.ab k h6 with h7 | h7
        · have := ltO k (.inr (.inr (.inl h7))); omega
        · omega
      · have := ltO k (.inr (.inr (.inr h6))); omega
    have same : ∀ (o o' : AObj A) k, k ≠ h.length + 1 ∧ k ≠ h.length + 3 → ((g.set (h.length + 1) o).set (h.length + 3) o')[k]? = g[k]? := fun o o' k hk => by
      rw [List.getElem?_set_ne (Ne.symm hk.2), List.getElem?_set_ne (Ne.symm hk.1)]
    refine hk.2 _ ho xu .nils xa1 xp _ ⟨?_, Own.nil, ?_, ?_⟩ ⟨fun k hk _ => ?_, by simp; omega⟩ (fun b hb => ?_)
    · exact B.o.u.move' fun b hb => same _ _ b (mv b (.inl hb))
    · exact B.o.a.move' fun b hb => same _ _ b (mv b (.inr (.inr (.inl hb))))
    · exact B.o.p.move' fun b hb => same _ _ b (mv b (.inr (.inr (.inr hb))))
    · rw [same _ _ k (by omega)]; exact B.f k hk
    · rcases hb with h6 | h6 | h6 | h6
      · exact .inl (.inl h6)
      · simp [AVal.blk] at h6
      · rcases B.ab b h6 with h7 | h7
        · exact .inl (.inr (.inr (.inl h7)))
        · exact .inr (by omega)
      · exact .inl (.inr (.inr (.inr h6)))
end Go.AI

/- The document's states: an event of a user. -/
set_option linter.all false
namespace Go.AI
variable {A : Type} {R : Adts A}
theorem rp9 : reps 9 (AVal.int .i64 0) = [.int .i64 0, .int .i64 0, .int .i64 0, .int .i64 0, .int .i64 0, .int .i64 0, .int .i64 0, .int .i64 0, .int .i64 0] := rfl
def TdJ (C : Cfg) (E : Ev) (u : Usr) (h g1 : AHeap A) (vs : List AVal) (g : AHeap A) : Prop :=
  vs = [] ∧ ∃ u', uTurn C u E = some u' ∧ g[h.length + 4]? = some (.cells t_api_User u'.row) ∧ (∀ k, k ≠ h.length + 4 → k < g1.length → g[k]? = g1[k]?) ∧ g1.length ≤ g.length
theorem ref20_turned_ok (hR : R.Ok) (C : Cfg) (E : Ev) {s : Sta} {xu xs xa xp : AVal} {h : AHeap A} (O : OS h s xu xs xa xp) (hE : EvIn E) {j : Nat} (hj : j < s.users.length) {K : AVal → AHeap A → Prop}
    (hk : K4 (In4 xu xs xa xp) h ((uTurn C s.users[j] E).map fun u => { s with users := s.users.set j u }) K) : Tri Pr R n_ref20_turned [.agg C.row, .agg (sCells s xu xs xa xp), .int .i64 j, .agg E.row] h K := by
  have rc : Cfg.row C = [.int .i64 C.sectors, .int .i64 C.halves, .int .i64 C.sessions, .int .i64 C.addresses, .int .i64 C.fails, .int .i64 C.lockout, .int .i64 C.halfLife, .int .i64 C.idle, .int .i64 C.absolute, .int .i64 C.quarantine, .int .i64 C.ticketLife, .int .i64 C.keep] := rfl
  have re : Ev.row E = [.int .i64 E.kind, .int .i64 E.user, .int .i64 E.session, .int .i64 E.address, .int .i64 E.a, .int .i64 E.b, .int .i64 E.c, .int .i64 E.tick] := rfl
  have s1 := O.u.sc
  have s2 := O.x.sc
  have s3 := O.a.sc
  have s4 := O.p.sc
  obtain ⟨u, hu⟩ : ∃ u, u = s.users[j] := ⟨_, rfl⟩
  rw [← hu] at hk
  apply c_ref20_turned
  unfold p_ref20_turned sCells
  -- the user's place
  obtain ⟨b, hb, hix, _⟩ := O.u.el usrR hj
  have bl := O.u.blt hb
  have rdb : ∀ g : AHeap A, Gr h g → (g[b]?.bind AObj.read).bind (fun cs => if j * 9 + 9 ≤ cs.length then some (AVal.agg ((cs.drop (j * 9)).take 9)) else none) = some (.agg u.row) := by
    intro g G
    obtain ⟨b', hb', hix', hat⟩ := (O.u.gr G).el usrR hj
    have hbb : b = b' := Option.some.inj (hb.symm.trans hb')
    subst hbb
    have : ldV 9 true (.ptr b (j * 9)) g = some (.agg (s.users[j]).row) := hat.all
    rw [← hu] at this
    simpa using this
  have rd1 := fun g : AHeap A => rdb (h ++ g) (Gr.app h g)
  have ur : u.row = [.int .i64 u.user, .int .i64 u.key, .int .i64 u.secret, .int .i64 u.quota, .int .i64 u.used, .int .i64 u.fails, .int .i64 u.unt, .int .i64 u.step, .int .i64 u.gen] := rfl
  rw [ur] at rd1
  simp -implicitDefEqProofs [rc, re, s1, s2, s3, s4, AObj.read, hix, rd1, rp9]
  rw [← rc, ← re, ← ur]
  obtain ⟨g1, hg1⟩ : ∃ g1, g1 = h ++ [AObj.cells t_api_Config C.row, .cells t_api_State (sCells s xu xs xa xp), .cells t_api_Event E.row, .cells t_api_State [.int .i64 0, .int .i64 0, .int .i64 0, .nils, .nils, .nils, .nils], .cells t_api_User u.row] := ⟨_, rfl⟩
  have G1 : Gr h g1 := by rw [hg1]; exact Gr.app h _
  have l1 : g1.length = h.length + 5 := by rw [hg1]; simp
  have c0 : g1[h.length]? = some (.cells t_api_Config C.row) := by rw [hg1, List.getElem?_append_right (Nat.le_refl _)]; simp
  have c1 : g1[h.length + 1]? = some (.cells t_api_State (sCells s xu xs xa xp)) := by rw [hg1, List.getElem?_append_right (by omega)]; simp
  have c2 : g1[h.length + 2]? = some (.cells t_api_Event E.row) := by rw [hg1, List.getElem?_append_right (by omega)]; simp
  have c3 : g1[h.length + 3]? = some (.cells t_api_State [.int .i64 0, .int .i64 0, .int .i64 0, .nils, .nils, .nils, .nils]) := by rw [hg1, List.getElem?_append_right (by omega)]; simp
  have c4 : g1[h.length + 4]? = some (.cells t_api_User u.row) := by rw [hg1, List.getElem?_append_right (by omega)]; simp
  refine joinP_all (TdJ C E u h g1) ?_ ?_
  · rw [show (h ++ [AObj.cells t_api_Config C.row, .cells t_api_State [.int .i64 s.boots, .int .i64 s.epoch, .int .i64 s.next, xu, xs, xa, xp], .cells t_api_Event E.row, .cells t_api_State [.int .i64 0, .int .i64 0, .int .i64 0, .nils, .nils, .nils, .nils], .cells t_api_User u.row] : AHeap A) = g1 from hg1.symm]
    rw [rc] at c0
    rw [re] at c2
    rw [ur] at c4
    have c1' := c1
    unfold sCells at c1
    have no : (uTurn C u E = none) → ∀ g, Gr g1 g → K (.tup [.agg (sCells s xu xs xa xp), .bool false]) (g.set (h.length + 3) (.cells t_api_State (sCells s xu xs xa xp))) := fun hn g G => hk.1 (by rw [hn]; rfl) (sCells s xu xs xa xp) _ rfl (sc7 s1 s2 s3 s4) ⟨fun k hk _ => by rw [List.getElem?_set_ne (by omega), G.k k (by omega)]; exact G1.k k hk, by have := G.l; simp; omega⟩
    have r3 : ∀ o, (g1.set (h.length + 3) o)[h.length + 3]? = some o := fun o => List.getElem?_set_self (by omega)
    have yes : ∀ u', uTurn C u E = some u' → ∀ g, Gr g1 g → TdJ C E u h g1 [] (g.set (h.length + 4) (.cells t_api_User u'.row)) := fun u' hu' g G => ⟨rfl, u', hu', List.getElem?_set_self (by have := G.l; omega), fun k hk hk2 => by rw [List.getElem?_set_ne (Ne.symm hk)]; exact G.k k hk2, by have := G.l; simp; omega⟩
    have set4 : ∀ o, g1.set (h.length + 4) o = h ++ [AObj.cells t_api_Config C.row, .cells t_api_State [.int .i64 s.boots, .int .i64 s.epoch, .int .i64 s.next, xu, xs, xa, xp], .cells t_api_Event E.row, .cells t_api_State [.int .i64 0, .int .i64 0, .int .i64 0, .nils, .nils, .nils, .nils], o] := fun o => by
      rw [hg1, List.set_append_right _ _ (by omega)]; simp [sCells]
    have set3 : ∀ o, g1.set (h.length + 3) o = h ++ [AObj.cells t_api_Config C.row, .cells t_api_State [.int .i64 s.boots, .int .i64 s.epoch, .int .i64 s.next, xu, xs, xa, xp], .cells t_api_Event E.row, o, .cells t_api_User u.row] := fun o => by
      rw [hg1, List.set_append_right _ _ (by omega)]; simp [sCells]
    by_cases k2 : E.kind = 2
    · have hT : uTurn C u E = (kFail u.fails u.unt E.tick C.fails C.lockout).map fun k => { u with fails := k.1, unt := k.2 } := by unfold uTurn; rw [if_pos k2]
      simp -implicitDefEqProofs [c0, c1, c2, c4, AObj.read, k2]
      refine ref12_Fail_ok hR _ _ _ _ _ ?_
      cases hq : kFail u.fails u.unt E.tick C.fails C.lockout with
      | none =>
        rw [hq] at hT
        have e1 : kAns none = .tup [.agg [.int .i64 0, .int .i64 0], .int .i64 1300] := rfl
        rw [e1]
        have d1 : (g1 ++ [.cells t_api_Lock [.int .i64 0, .int .i64 0]] : AHeap A)[h.length + 1]? = _ := get_app c1
        have d3 : (g1 ++ [.cells t_api_Lock [.int .i64 0, .int .i64 0]] : AHeap A)[h.length + 3]? = _ := get_app c3
        have r3' : ∀ o, ((g1 ++ [.cells t_api_Lock [.int .i64 0, .int .i64 0]] : AHeap A).set (h.length + 3) o)[h.length + 3]? = some o := fun o => List.getElem?_set_self (by simp; omega)
        simp -implicitDefEqProofs [d1, d3, AObj.read, s1, s2, s3, s4, r3']
        exact no hT _ (Gr.app g1 _)
      | some q =>
        rw [hq] at hT
        have e1 : kAns (some q) = .tup [.agg [.int .i64 q.1, .int .i64 q.2], .int .i64 0] := rfl
        rw [e1]
        have d4 : (g1 ++ [.cells t_api_Lock [.int .i64 q.1, .int .i64 q.2]] : AHeap A)[h.length + 4]? = _ := get_app c4
        simp -implicitDefEqProofs [d4, AObj.read]
        exact yes _ hT _ (Gr.app g1 _)
    have k2' : (E.kind == 2) = false := by simpa using k2
    by_cases k3 : E.kind = 3
    · by_cases h9 : E.a ≤ u.step
      · have hT : uTurn C u E = none := by unfold uTurn; rw [if_neg k2, if_pos k3, if_pos h9]
        simp -implicitDefEqProofs [c0, c1, c2, c3, c4, AObj.read, k3, h9, s1, s2, s3, s4, r3]
        have q := no hT _ (Gr.refl g1)
        rw [set3] at q
        exact q
      · have hT : uTurn C u E = some { u with step := E.a, fails := 0, unt := 0 } := by unfold uTurn; rw [if_neg k2, if_pos k3, if_neg h9]
        have r4 : ∀ o, (g1.set (h.length + 4) o)[h.length + 4]? = some o := fun o => List.getElem?_set_self (by omega)
        simp -implicitDefEqProofs [c0, c1, c2, c4, AObj.read, k3, h9, r4]
        have q := yes _ hT _ (Gr.refl g1)
        rw [set4] at q
        exact q
    have k3' : (E.kind == 3) = false := by simpa using k3
    by_cases k4 : E.kind = 4
    · have hT : uTurn C u E = some { u with fails := 0, unt := 0 } := by unfold uTurn; rw [if_neg k2, if_neg k3, if_pos k4]
      simp -implicitDefEqProofs [c0, c1, c2, c4, AObj.read, k4]
      have q := yes _ hT _ (Gr.refl g1)
      rw [set4] at q
      exact q
    have k4' : (E.kind == 4) = false := by simpa using k4
    by_cases k7 : E.kind = 7
    · by_cases h9 : u.gen < 0
      · have hT : uTurn C u E = none := by unfold uTurn; rw [if_neg k2, if_neg k3, if_neg k4, if_pos k7, if_neg (by omega)]
        simp -implicitDefEqProofs [c0, c1, c2, c3, c4, AObj.read, k7, h9, s1, s2, s3, s4, r3]
        have q := no hT _ (Gr.refl g1)
        rw [set3] at q
        exact q
      · by_cases h8 : u.gen ≥ 1073741823
        · have hT : uTurn C u E = none := by unfold uTurn; rw [if_neg k2, if_neg k3, if_neg k4, if_pos k7, if_neg (by omega)]
          simp -implicitDefEqProofs [c0, c1, c2, c3, c4, AObj.read, k7, h9, h8, s1, s2, s3, s4, r3]
          have q := no hT _ (Gr.refl g1)
          rw [set3] at q
          exact q
        · have hT : uTurn C u E = some { u with gen := u.gen + 1 } := by unfold uTurn; rw [if_neg k2, if_neg k3, if_neg k4, if_pos k7, if_pos (by omega)]
          have w1 := w64 (n := u.gen + 1) (by omega)
          simp -implicitDefEqProofs [c0, c1, c2, c4, AObj.read, k7, h9, h8, w1]
          have q := yes _ hT _ (Gr.refl g1)
          rw [set4] at q
          exact q
    have k7' : (E.kind == 7) = false := by simpa using k7
    have hT : uTurn C u E = some u := by unfold uTurn; rw [if_neg k2, if_neg k3, if_neg k4, if_neg k7]
    simp -implicitDefEqProofs [c0, c1, c2, c4, AObj.read, k2', k3', k4', k7']
    exact ⟨rfl, u, hT, by rw [ur]; exact c4, fun _ _ _ => rfl, Nat.le_refl _⟩
  · rintro _ g' ⟨rfl, u', hu', d4, df, dl⟩
    refine ⟨by omega, ?_⟩
    have d1 := (df (h.length + 1) (by omega) (by omega)).trans c1
    have d3 := (df (h.length + 3) (by omega) (by omega)).trans c3
    unfold sCells at d1
    have G' : Gr h g' := ⟨fun k hk => (df k (by omega) (by omega)).trans (G1.k k hk), by omega⟩
    have O' := O.gr G'
    have ur' : u'.row = [.int .i64 u'.user, .int .i64 u'.key, .int .i64 u'.secret, .int .i64 u'.quota, .int .i64 u'.used, .int .i64 u'.fails, .int .i64 u'.unt, .int .i64 u'.step, .int .i64 u'.gen] := rfl
    rw [ur'] at d4
    simp -implicitDefEqProofs [d1, d4, AObj.read, hix]
    refine O'.u.sth usrR hj hb (off := 0) (o := j * 9) (c := u'.row) u' rfl (by simp [Usr.row]) rfl rfl fun h2 own2 f2 l2 => ?_
    have e1 := (f2 (h.length + 1) (by omega)).trans d1
    have e3 := (f2 (h.length + 3) (by omega)).trans d3
    have r3 : ∀ o, (h2.set (h.length + 3) o)[h.length + 3]? = some o := fun o => List.getElem?_set_self (by omega)
    simp -implicitDefEqProofs [e1, e3, AObj.read, s1, s2, s3, s4, r3]
    have nx := ty_ne O.u O.x (by decide) b hb
    have na := ty_ne O.u O.a (by decide) b hb
    have np := ty_ne O.u O.p (by decide) b hb
    refine hk.2 { s with users := s.users.set j u' } (by rw [hu']; rfl) xu xs xa xp _ ⟨?_, ?_, ?_, ?_⟩ ⟨fun k hk hn => ?_, by simp; omega⟩ (fun b hb => .inl hb)
    · exact own2.move' fun b hb => List.getElem?_set_ne (by have := O.u.blt hb; omega)
    · exact O'.x.move' fun k hk => by rw [List.getElem?_set_ne (by have := O.x.blt hk; omega)]; exact f2 k fun h9 => nx (h9 ▸ hk)
    · exact O'.a.move' fun k hk => by rw [List.getElem?_set_ne (by have := O.a.blt hk; omega)]; exact f2 k fun h9 => na (h9 ▸ hk)
    · exact O'.p.move' fun k hk => by rw [List.getElem?_set_ne (by have := O.p.blt hk; omega)]; exact f2 k fun h9 => np (h9 ▸ hk)
    · rw [List.getElem?_set_ne (by omega), f2 k (fun h9 => hn (.inl (h9 ▸ hb)))]
      exact G'.k k hk
end Go.AI

/- The document's states: leases. -/
set_option linter.all false
namespace Go.AI
variable {A : Type} {R : Adts A}
def leDoes (C : Cfg) (s : Sta) (E : Ev) : Option Sta := match pTake s.addrs E.address E.user with | some ps => if E.session = s.next ∧ (uAt s.users E.user).isSome = true ∧ (s.sess.length : Int) < C.sessions then some { s with addrs := ps, sess := s.sess ++ [⟨E.session, E.user, E.address, E.tick⟩], next := s.next + 1 } else none | none => none
theorem OS.rgU {h : AHeap A} {s : Sta} {xu xs xa xp : AVal} (O : OS h s xu xs xa xp) : Rg Usr.row 9 xu s.users h := Rg.own usrR O.u
theorem OS.rgX {h : AHeap A} {s : Sta} {xu xs xa xp : AVal} (O : OS h s xu xs xa xp) : Rg Ses.row 4 xs s.sess h := Rg.own sesR O.x
theorem OS.rgA {h : AHeap A} {s : Sta} {xu xs xa xp : AVal} (O : OS h s xu xs xa xp) : Rg Adr.row 3 xa s.addrs h := Rg.own adrR O.a
theorem OS.rgP {h : AHeap A} {s : Sta} {xu xs xa xp : AVal} (O : OS h s xu xs xa xp) : Rg iRow 1 xp s.spent h := Rg.own intR O.p
theorem ref20_leased_ok (hR : R.Ok) (C : Cfg) (E : Ev) {s : Sta} {xu xs xa xp : AVal} {h : AHeap A} (O : OS h s xu xs xa xp) (hle : StaLe s 2000000) (hE : EvIn E) (hk5 : E.kind = 5) {K : AVal → AHeap A → Prop}
    (hk : K4 (In4 xu xs xa xp) h (sDoes C s E) K) : Tri Pr R n_ref20_leased [.agg C.row, .agg (sCells s xu xs xa xp), .agg E.row] h K := by
  have rc : Cfg.row C = [.int .i64 C.sectors, .int .i64 C.halves, .int .i64 C.sessions, .int .i64 C.addresses, .int .i64 C.fails, .int .i64 C.lockout, .int .i64 C.halfLife, .int .i64 C.idle, .int .i64 C.absolute, .int .i64 C.quarantine, .int .i64 C.ticketLife, .int .i64 C.keep] := rfl
  have re : Ev.row E = [.int .i64 E.kind, .int .i64 E.user, .int .i64 E.session, .int .i64 E.address, .int .i64 E.a, .int .i64 E.b, .int .i64 E.c, .int .i64 E.tick] := rfl
  have s1 := O.u.sc
  have s2 := O.x.sc
  have s3 := O.a.sc
  have s4 := O.p.sc
  have lx := (O.rgX h (Gr.refl h)).len
  have hx := hle.x
  unfold sDoes at hk
  rw [if_neg (by omega), if_neg (by omega), if_pos hk5] at hk
  change K4 _ h (leDoes C s E) K at hk
  have no : leDoes C s E = none → ∀ g, Gr h g → K (.tup [.agg (sCells s xu xs xa xp), .bool false]) g := fun ho g G => hk.1 ho _ g rfl (sc7 s1 s2 s3 s4) (Fr4.gr G)
  have no2 : ¬ (E.session = s.next ∧ (uAt s.users E.user).isSome = true ∧ (s.sess.length : Int) < C.sessions) → leDoes C s E = none := fun hn => by
    unfold leDoes
    cases pTake s.addrs E.address E.user with
    | none => rfl
    | some ps => exact if_neg hn
  apply c_ref20_leased
  unfold p_ref20_leased
  by_cases h1 : E.session = s.next
  case neg =>
    have h1' : (E.session != s.next) = true := by simpa using h1
    unfold sCells
    simp -implicitDefEqProofs [rc, re, s1, s2, s3, s4, AObj.read, h1']
    exact no (no2 fun h => h1 h.1) _ (Gr.app h _)
  have h1' : (E.session != s.next) = false := by simpa using h1
  unfold sCells
  simp -implicitDefEqProofs [rc, re, s1, s2, s3, s4, AObj.read, h1']
  refine ref20_UserAt_ok hR s1 s2 s3 s4 (O.rgU.gr (Gr.app h _)) hle.u E.user fun g1 G1 => ?_
  have G0 : Gr h g1 := (Gr.app h _).trans G1
  have l1 := G1.l
  simp only [List.length_append, List.length_cons, List.length_nil] at l1
  have c0 : g1[h.length]? = some (.cells t_api_Config C.row) := G1.get (by rw [List.getElem?_append_right (Nat.le_refl _)]; simp [rc])
  have c1 : g1[h.length + 1]? = some (.cells t_api_State [.int .i64 s.boots, .int .i64 s.epoch, .int .i64 s.next, xu, xs, xa, xp]) := G1.get (by rw [List.getElem?_append_right (by omega)]; simp)
  have c2 : g1[h.length + 2]? = some (.cells t_api_Event E.row) := G1.get (by rw [List.getElem?_append_right (by omega)]; simp [re])
  have c3 : g1[h.length + 3]? = some (.cells t_api_State [.int .i64 0, .int .i64 0, .int .i64 0, .nils, .nils, .nils, .nils]) := G1.get (by rw [List.getElem?_append_right (by omega)]; simp)
  rw [rc] at c0
  rw [re] at c2
  have r3 : ∀ o, (g1.set (h.length + 3) o)[h.length + 3]? = some o := fun o => List.getElem?_set_self (by omega)
  have gset : ∀ (g : AHeap A) (o : AObj A), Gr h g → Gr h (g.set (h.length + 3) o) := fun g o G => ⟨fun k hk => by rw [List.getElem?_set_ne (by omega)]; exact G.k k hk, by have := G.l; simpa using this⟩
  cases hu : uAt s.users E.user with
  | none =>
    have h2 : idx1 (none : Option Nat) < 0 := by simp [idx1]
    simp -implicitDefEqProofs [h2, c1, c3, AObj.read, s1, s2, s3, s4, r3]
    exact no (no2 fun h => by rw [hu] at h; simp at h) _ (gset g1 _ G0)
  | some j =>
  have h2 : ¬ idx1 (some j) < 0 := by simp [idx1]
  by_cases h3 : (s.sess.length : Int) ≥ C.sessions
  · simp -implicitDefEqProofs [h2, c0, c1, c3, AObj.read, lx, h3, s1, s2, s3, s4, r3]
    exact no (no2 fun h => by omega) _ (gset g1 _ G0)
  have hcond : E.session = s.next ∧ (uAt s.users E.user).isSome = true ∧ (s.sess.length : Int) < C.sessions := ⟨h1, by rw [hu]; rfl, by omega⟩
  simp -implicitDefEqProofs [h2, c0, c1, c2, AObj.read, lx, h3]
  refine ref12_Take_ok hR (O.rgA.gr G0) hle.a _ _ ?_
  cases hp : pTake s.addrs E.address E.user with
  | none =>
    intro g2 G2
    have d1 := G2.get c1
    have d3 := G2.get c3
    have l2 := G2.l
    have r3 : ∀ o, (g2.set (h.length + 3) o)[h.length + 3]? = some o := fun o => List.getElem?_set_self (by omega)
    simp -implicitDefEqProofs [d1, d3, AObj.read, s1, s2, s3, s4, r3]
    exact no (by unfold leDoes; rw [hp]) _ (gset g2 _ (G0.trans G2))
  | some ps =>
    intro ax g2 o2 b2 G2
    have ho : leDoes C s E = some { s with addrs := ps, sess := s.sess ++ [⟨E.session, E.user, E.address, E.tick⟩], next := s.next + 1 } := by
      unfold leDoes
      rw [hp]
      exact if_pos hcond
    have d1 := G2.get c1
    have d2 := G2.get c2
    have d3 := G2.get c3
    have l2 := G2.l
    have sa := o2.sc
    have ca := sc_cs sa
    have wn := w64 (n := s.next + 1) (by have := hE.session; omega)
    have O2 := O.gr (G0.trans G2)
    have r1 : ∀ o, (g2.set (h.length + 1) o)[h.length + 1]? = some o := fun o => List.getElem?_set_self (by omega)
    have r12 : ∀ o, (g2.set (h.length + 1) o)[h.length + 2]? = g2[h.length + 2]? := fun o => List.getElem?_set_ne (by omega)
    simp -implicitDefEqProofs [d1, d2, AObj.read, sa, ca, r1, r12, wn]
    have lt : ∀ k, In4 xu xs xa xp k → k < h.length := fun k hk => O.lt hk
    obtain ⟨g3, hg3⟩ : ∃ g3, g3 = (g2.set (h.length + 1) (.cells t_api_State [.int .i64 s.boots, .int .i64 s.epoch, .int .i64 (s.next + 1), xu, xs, ax, xp])) := ⟨_, rfl⟩
    rw [← hg3]
    have l3 : g3.length = g2.length := by rw [hg3]; simp
    have e1 : g3[h.length + 1]? = some (.cells t_api_State [.int .i64 s.boots, .int .i64 s.epoch, .int .i64 (s.next + 1), xu, xs, ax, xp]) := by rw [hg3]; exact r1 _
    have e3 : g3[h.length + 3]? = some (.cells t_api_State [.int .i64 0, .int .i64 0, .int .i64 0, .nils, .nils, .nils, .nils]) := by rw [hg3, List.getElem?_set_ne (by omega)]; exact d3
    have k3 : ∀ k, k ≠ h.length + 1 → g3[k]? = g2[k]? := fun k hk => by rw [hg3, List.getElem?_set_ne (Ne.symm hk)]
    have ox3 := O2.x.move' (h' := g3 ++ [.cells t_api_Session (Ses.row ⟨E.session, E.user, E.address, E.tick⟩)]) fun b hb => by
      have := lt b (.inr (.inl hb))
      rw [List.getElem?_append_left (by omega)]; exact k3 b (by omega)
    refine app_own sesR (l2 := [⟨E.session, E.user, E.address, E.tick⟩]) ox3 (by decide) ?_ (by simp; omega) fun x' g4 o4 f4 l4 b4 => ?_
    · have hq : (g3 ++ [.cells t_api_Session (Ses.row ⟨E.session, E.user, E.address, E.tick⟩)] : AHeap A)[g2.length]? = some (.cells t_api_Session (Ses.row ⟨E.session, E.user, E.address, E.tick⟩)) := by rw [← l3]; simp
      simp only [Ses.row] at hq
      simp [srcOf, cellsAt, hq, AObj.read, Ses.row]
    rw [List.length_append, List.length_singleton] at f4 l4 b4
    have nb1 : ∀ k, h.length ≤ k → k < h.length + 4 → xs.blk ≠ some k := fun k h5 h6 h7 => by have := lt k (.inr (.inl h7)); omega
    have q1 : g4[h.length + 1]? = some (.cells t_api_State [.int .i64 s.boots, .int .i64 s.epoch, .int .i64 (s.next + 1), xu, xs, ax, xp]) := by
      rw [f4 _ (by omega) (nb1 _ (by omega) (by omega)), List.getElem?_append_left (by omega)]; exact e1
    have q3 : g4[h.length + 3]? = some (.cells t_api_State [.int .i64 0, .int .i64 0, .int .i64 0, .nils, .nils, .nils, .nils]) := by
      rw [f4 _ (by omega) (nb1 _ (by omega) (by omega)), List.getElem?_append_left (by omega)]; exact e3
    have sx := o4.sc
    have cx := sc_cs sx
    have t1 : ∀ o, (g4.set (h.length + 1) o)[h.length + 1]? = some o := fun o => List.getElem?_set_self (by omega)
    have t13 : ∀ o, (g4.set (h.length + 1) o)[h.length + 3]? = g4[h.length + 3]? := fun o => List.getElem?_set_ne (by omega)
    have t3 : ∀ o o', ((g4.set (h.length + 1) o).set (h.length + 3) o')[h.length + 3]? = some o' := fun o o' => List.getElem?_set_self (by simp; omega)
    simp -implicitDefEqProofs [q1, AObj.read, sx, cx, t1, t13, q3, s1, sa, s4, t3]
    have same : ∀ (o o' : AObj A) k, k ≠ h.length + 1 → k ≠ h.length + 3 → ((g4.set (h.length + 1) o).set (h.length + 3) o')[k]? = g4[k]? := fun o o' k hk hk2 => by
      rw [List.getElem?_set_ne (Ne.symm hk2), List.getElem?_set_ne (Ne.symm hk)]
    have old : ∀ k, k < h.length → xs.blk ≠ some k → g4[k]? = h[k]? := fun k hk hn => by
      rw [f4 k (by omega) hn, List.getElem?_append_left (by omega), k3 k (by omega)]
      exact (G0.trans G2).k k hk
    have nux := ty_ne O.u O.x (by decide)
    have npx := ty_ne O.p O.x (by decide)
    refine hk.2 _ ho xu x' ax xp _ ⟨?_, ?_, ?_, ?_⟩ ⟨fun k hk hn => ?_, by simp; omega⟩ (fun b hb => ?_)
    · exact O.u.move' fun b hb => by have := O.u.blt hb; rw [same _ _ b (by omega) (by omega)]; exact old b this (nux b hb)
    · refine o4.move' fun b hb => same _ _ b ?_ ?_
      · rcases b4 b hb with h9 | h9
        · have := O.x.blt h9; omega
        · omega
      · rcases b4 b hb with h9 | h9
        · have := O.x.blt h9; omega
        · omega
    · refine o2.move' fun b hb => ?_
      have h5 := b2 b hb
      have h6 := o2.blt hb
      rw [same _ _ b (by omega) (by omega), f4 b (by omega) (fun h9 => by have := O.x.blt h9; omega), List.getElem?_append_left (by omega), k3 b (by omega)]
    · exact O.p.move' fun b hb => by have := O.p.blt hb; rw [same _ _ b (by omega) (by omega)]; exact old b this (npx b hb)
    · rw [same _ _ k (by omega) (by omega)]; exact old k hk fun h9 => hn (.inr (.inl h9))
    · rcases hb with h6 | h6 | h6 | h6
      · exact .inl (.inl h6)
      · rcases b4 b h6 with h9 | h9
        · exact .inl (.inr (.inl h9))
        · exact .inr (by omega)
      · exact .inr (by have := b2 b h6; omega)
      · exact .inl (.inr (.inr (.inr h6)))
end Go.AI

/- The document's states: users that are added. -/
set_option linter.all false
namespace Go.AI
variable {A : Type} {R : Adts A}
theorem app_one {α : Type} {f : α → List AVal} {w : Nat} (hf : RowOk f w) {e : TypeId} {bytes : Nat} {a : AVal} {l : List α} {h : AHeap A} {K : AVal → AHeap A → Prop} (ha : Own f w e a l h) (hb : 0 < bytes) (x : α) (hn : (2 * (l.length + 1) + 1000) * bytes ≤ 140737488355328)
    (hk : ∀ a' h', Own f w e a' (l ++ [x]) h' → (∀ k, k < h.length → a.blk ≠ some k → h'[k]? = h[k]?) → h.length + 1 ≤ h'.length → (∀ b, a'.blk = some b → a.blk = some b ∨ h.length < b) → K a' h') : appP e w bytes a (.sl h.length 0 1 1 true) (h ++ [.cells e (f x)]) K := by
  have ha2 := ha.move' (h' := h ++ [.cells e (f x)]) fun b hb => List.getElem?_append_left (ha.blt hb)
  refine app_own hf (l2 := [x]) ha2 hb ?_ (by simpa using hn) fun a' h' q1 q2 q3 q4 => ?_
  · have hq : (h ++ [.cells e (f x)] : AHeap A)[h.length]? = some (.cells e (f x)) := by simp
    have h1 : 0 + 1 * w ≤ (f x).length := by rw [hf.len]; omega
    have h2 : ((f x).drop 0).take (1 * w) = f x := by rw [List.drop_zero, Nat.one_mul, ← hf.len x, List.take_length]
    simp only [srcOf, cellsAt, hq, Option.bind_some, AObj.read]
    rw [if_pos h1, h2]
    simp
  · rw [List.length_append, List.length_singleton] at q2 q3 q4
    refine hk a' h' q1 (fun k hk hn => ?_) q3 (fun b hb => ?_)
    · rw [q2 k (by omega) hn, List.getElem?_append_left hk]
    · rcases q4 b hb with h9 | h9
      · exact .inl h9
      · exact .inr (by omega)
def usrOf (E : Ev) : Usr := ⟨E.user, E.a, E.b, E.c, 0, 0, 0, 0, 0⟩
def AdI (u : Usr) (l : List Usr) (base : AHeap A) (mm : Nat) (y : List AVal) (g : AHeap A) : Prop :=
  ∃ (i : Nat) (out : List Usr) (av : AVal) (put : Bool), y = [av, .bool put, .int .i64 i] ∧ i ≤ l.length ∧ Own Usr.row 9 t_api_User av out g ∧ (∀ b, av.blk = some b → base.length ≤ b) ∧ (∀ k, k < base.length → g[k]? = base[k]?) ∧ base.length ≤ g.length ∧ out.length ≤ i + 1 ∧
    ((put = true ∧ out ++ l.drop i = uPut u l) ∨ (put = false ∧ out = l.take i ∧ uPut u l = l.take i ++ uPut u (l.drop i))) ∧ mm = l.length - i
theorem uPut_cons (u v : Usr) (r : List Usr) : uPut u (v :: r) = if u.user < v.user then u :: v :: r else v :: uPut u r := rfl
theorem ref20_added_ok (hR : R.Ok) (C : Cfg) (E : Ev) {s : Sta} {xu xs xa xp : AVal} {h : AHeap A} (O : OS h s xu xs xa xp) (hle : StaLe s 2000000) (hk1 : E.kind = 1) {K : AVal → AHeap A → Prop}
    (hk : K4 (In4 xu xs xa xp) h (sDoes C s E) K) : Tri Pr R n_ref20_added [.agg (sCells s xu xs xa xp), .agg E.row] h K := by
  have re : Ev.row E = [.int .i64 E.kind, .int .i64 E.user, .int .i64 E.session, .int .i64 E.address, .int .i64 E.a, .int .i64 E.b, .int .i64 E.c, .int .i64 E.tick] := rfl
  have s1 := O.u.sc
  have s2 := O.x.sc
  have s3 := O.a.sc
  have s4 := O.p.sc
  have lu := (O.rgU h (Gr.refl h)).len
  have hul := hle.u
  unfold sDoes at hk
  rw [if_neg (by omega), if_pos hk1] at hk
  apply c_ref20_added
  unfold p_ref20_added sCells
  simp -implicitDefEqProofs [re, s1, s2, s3, s4, AObj.read]
  refine ref20_UserAt_ok hR s1 s2 s3 s4 (O.rgU.gr (Gr.app h _)) hle.u E.user fun g1 G1 => ?_
  have G0 : Gr h g1 := (Gr.app h _).trans G1
  have l1 := G1.l
  simp only [List.length_append, List.length_cons, List.length_nil] at l1
  have c1 : g1[h.length]? = some (.cells t_api_State [.int .i64 s.boots, .int .i64 s.epoch, .int .i64 s.next, xu, xs, xa, xp]) := G1.get (by rw [List.getElem?_append_right (Nat.le_refl _)]; simp)
  have c2 : g1[h.length + 1]? = some (.cells t_api_Event E.row) := G1.get (by rw [List.getElem?_append_right (by omega)]; simp [re])
  have c3 : g1[h.length + 2]? = some (.cells t_api_State [.int .i64 0, .int .i64 0, .int .i64 0, .nils, .nils, .nils, .nils]) := G1.get (by rw [List.getElem?_append_right (by omega)]; simp)
  rw [re] at c2
  cases hu : uAt s.users E.user with
  | some j =>
    rw [hu] at hk
    have h2 : idx1 (some j) ≥ 0 := by simp [idx1]
    have r3 : ∀ o, (g1.set (h.length + 2) o)[h.length + 2]? = some o := fun o => List.getElem?_set_self (by omega)
    simp -implicitDefEqProofs [h2, c1, c3, AObj.read, s1, s2, s3, s4, r3]
    exact hk.1 rfl (sCells s xu xs xa xp) _ rfl (sc7 s1 s2 s3 s4) (Fr4.gr ⟨fun k hk => by rw [List.getElem?_set_ne (by omega)]; exact G0.k k hk, by have := G0.l; simpa using this⟩)
  | none =>
  rw [hu] at hk
  have hk2 := hk.2 { s with users := uPut (usrOf E) s.users } rfl
  have h2 : ¬ idx1 (none : Option Nat) ≥ 0 := by simp [idx1]
  obtain ⟨u, hue⟩ : ∃ u, u = usrOf E := ⟨_, rfl⟩
  rw [← hue] at hk2
  have ur : u.row = [.int .i64 E.user, .int .i64 E.a, .int .i64 E.b, .int .i64 E.c, .int .i64 0, .int .i64 0, .int .i64 0, .int .i64 0, .int .i64 0] := by rw [hue]; rfl
  have uu : u.user = E.user := by rw [hue]; rfl
  simp -implicitDefEqProofs [h2, c1, c2, AObj.read, rp9]
  rw [← ur]
  obtain ⟨g2, hg2⟩ : ∃ g2, g2 = g1 ++ [AObj.cells t_api_User u.row] := ⟨_, rfl⟩
  have l2 : g2.length = g1.length + 1 := by rw [hg2]; simp
  have G2 : Gr g1 g2 := by rw [hg2]; exact Gr.app _ _
  have c4 : g2[g1.length]? = some (.cells t_api_User u.row) := by rw [hg2]; simp
  rw [← hg2]
  refine loopP_go (AdI u s.users g2) s.users.length (Gives.done (Nat.le_refl _) ⟨0, [], .nils, false, rfl, by omega, Own.nil, fun b hb => by simp [AVal.blk] at hb, fun _ _ => rfl, Nat.le_refl _, by simp, .inr ⟨rfl, rfl, rfl⟩, by omega⟩) ?_
  rintro mm y g ⟨i, out, av, put, rfl, hi, ov, ovb, kg, lg, lo, cond, rfl⟩
  have d1 := (kg _ (by omega)).trans (G2.get c1)
  have d2 := (kg _ (by omega)).trans (G2.get c2)
  have d3 := (kg _ (by omega)).trans (G2.get c3)
  have d4 := (kg _ (by omega)).trans c4
  have wi := w64 (n := (i : Int) + 1) (by omega)
  have Gh : Gr h g := ⟨fun k hk => (kg k (by omega)).trans ((G2.k k (by omega)).trans (G0.k k hk)), by omega⟩
  have rd := O.rgU g Gh
  have sav := ov.sc
  by_cases h1 : i < s.users.length
  · have h1' : (i : Int) < s.users.length := by omega
    obtain ⟨p, hp, hat⟩ := rd.get i h1
    have p0 : ldV 1 false (p.fad 0) g = some (.int .i64 (s.users[i]).user) := hat.cell 0 (by simp [Usr.row])
    have hdr := List.drop_eq_getElem_cons h1
    have tk := List.take_succ_eq_append_getElem h1
    -- the second append, from any heap
    have second : ∀ (g' : AHeap A) (av' : AVal) (out' : List Usr) (put' : Bool), Own Usr.row 9 t_api_User av' out' g' → (∀ b, av'.blk = some b → g2.length ≤ b) → (∀ k, k < g2.length → g'[k]? = g2[k]?) → g.length ≤ g'.length → (out' ++ [s.users[i]]).length ≤ i + 2 →
        ((put' = true ∧ (out' ++ [s.users[i]]) ++ s.users.drop (i + 1) = uPut u s.users) ∨ (put' = false ∧ out' ++ [s.users[i]] = s.users.take (i + 1) ∧ uPut u s.users = s.users.take (i + 1) ++ uPut u (s.users.drop (i + 1)))) →
        appP t_api_User 9 72 av' (.sl g'.length 0 1 1 true) (g' ++ [.cells t_api_User (s.users[i]).row]) fun v52 h => Gives Pr R g2.length h [v52, .bool put', .int .i64 ((i : Int) + 1)] fun z k => ∃ m', m' < s.users.length - i ∧ AdI u s.users g2 m' z k := by
      intro g' av' out' put' o' b' k' l' len' cond'
      refine app_one usrR o' (by decide) (s.users[i]) (by simp at len'; omega) fun a' h' q1 q2 q3 q4 => ?_
      refine Gives.done (by omega) ⟨s.users.length - (i + 1), by omega, i + 1, _, a', put', by simp, by omega, q1, fun b hb => ?_, fun k hk => ?_, by omega, len', cond', rfl⟩
      · rcases q4 b hb with h9 | h9
        · exact b' b h9
        · omega
      · rw [q2 k (by omega) (fun h9 => by have := b' k h9; omega)]; exact k' k hk
    have ui : (s.users[i]).row = [.int .i64 (s.users[i]).user, .int .i64 (s.users[i]).key, .int .i64 (s.users[i]).secret, .int .i64 (s.users[i]).quota, .int .i64 (s.users[i]).used, .int .i64 (s.users[i]).fails, .int .i64 (s.users[i]).unt, .int .i64 (s.users[i]).step, .int .i64 (s.users[i]).gen] := rfl
    have all0 : ldV 9 true p g = some (.agg (s.users[i]).row) := hat.all
    rw [ui] at all0
    simp -implicitDefEqProofs [d1, AObj.read, lu, h1']
    refine joinP_go ?_
    refine joinP_go ?_
    rcases cond with ⟨rfl, hc⟩ | ⟨rfl, hc, hc2⟩
    · simp -implicitDefEqProofs [d1, AObj.read, hp, all0, wi]
      rw [← ui]
      exact second g av out true ov ovb kg (Nat.le_refl _) (by simp; omega) (.inl ⟨rfl, by rw [← hc, hdr]; simp⟩)
    · rw [hdr, uPut_cons] at hc2
      by_cases h3 : (s.users[i]).user > E.user
      · have h3' : u.user < (s.users[i]).user := by rw [uu]; exact h3
        rw [if_pos h3'] at hc2
        rw [ur] at d4
        simp -implicitDefEqProofs [d1, d2, AObj.read, hp, hat.fad, p0, h3, d4]
        rw [← ur]
        refine app_one usrR ov (by decide) u (by omega) fun a' h' q1 q2 q3 q4 => ?_
        have k' : ∀ k, k < g2.length → h'[k]? = g2[k]? := fun k hk => (q2 k (by omega) (fun h9 => by have := ovb k h9; omega)).trans (kg k hk)
        have Gh' : Gr h h' := ⟨fun k hk => (k' k (by omega)).trans ((G2.k k (by omega)).trans (G0.k k hk)), by omega⟩
        obtain ⟨p', hp', hat'⟩ := (O.rgU h' Gh').get i h1
        obtain rfl := idx_uniq hp hp'
        have all1 : ldV 9 true p h' = some (.agg (s.users[i]).row) := hat'.all
        rw [ui] at all1
        have f1 := (k' _ (by omega)).trans (G2.get c1)
        simp -implicitDefEqProofs [f1, AObj.read, hp, all1, wi]
        rw [← ui]
        refine ⟨by omega, ?_⟩
        exact second h' a' (out ++ [u]) true q1 (fun b hb => by rcases q4 b hb with h9 | h9; exact ovb b h9; omega) k' (by omega) (by simp; rw [hc]; simp; omega) (.inl ⟨rfl, by rw [hc2, hc]; simp⟩)
      · have h3' : ¬ u.user < (s.users[i]).user := by rw [uu]; exact h3
        rw [if_neg h3'] at hc2
        simp -implicitDefEqProofs [d1, d2, AObj.read, hp, hat.fad, p0, h3, all0, wi]
        rw [← ui]
        exact second g av out false ov ovb kg (Nat.le_refl _) (by simp; omega) (.inr ⟨rfl, by rw [hc, tk], by rw [hc2, tk, List.append_assoc]; rfl⟩)
  · have h1' : ¬ (i : Int) < s.users.length := by omega
    have hie : i = s.users.length := by omega
    subst hie
    rw [List.drop_length, List.take_length, List.append_nil] at cond
    have fin : ∀ (a' : AVal) (h' : AHeap A), Own Usr.row 9 t_api_User a' (uPut u s.users) h' → (∀ b, a'.blk = some b → g2.length ≤ b) → (∀ k, k < g2.length → h'[k]? = g2[k]?) → g2.length ≤ h'.length → K (.tup [.agg [.int .i64 s.boots, .int .i64 s.epoch, .int .i64 s.next, a', xs, xa, xp], .bool true]) ((h'.set h.length (.cells t_api_State [.int .i64 s.boots, .int .i64 s.epoch, .int .i64 s.next, a', xs, xa, xp])).set (h.length + 2) (.cells t_api_State [.int .i64 s.boots, .int .i64 s.epoch, .int .i64 s.next, a', xs, xa, xp])) := by
      intro a' h' o' b' k' l'
      have same : ∀ (o o' : AObj A) k, k ≠ h.length → k ≠ h.length + 2 → ((h'.set h.length o).set (h.length + 2) o')[k]? = h'[k]? := fun o o' k hk hk2 => by
        rw [List.getElem?_set_ne (Ne.symm hk2), List.getElem?_set_ne (Ne.symm hk)]
      have old : ∀ k, k < h.length → h'[k]? = h[k]? := fun k hk => (k' k (by omega)).trans ((G2.k k (by omega)).trans (G0.k k hk))
      refine hk2 a' xs xa xp _ ⟨?_, ?_, ?_, ?_⟩ ⟨fun k hk hn => ?_, by simp; omega⟩ (fun b hb => ?_)
      · exact o'.move' fun b hb => same _ _ b (by have := b' b hb; omega) (by have := b' b hb; omega)
      · exact O.x.move' fun b hb => by have := O.x.blt hb; rw [same _ _ b (by omega) (by omega)]; exact old b this
      · exact O.a.move' fun b hb => by have := O.a.blt hb; rw [same _ _ b (by omega) (by omega)]; exact old b this
      · exact O.p.move' fun b hb => by have := O.p.blt hb; rw [same _ _ b (by omega) (by omega)]; exact old b this
      · rw [same _ _ k (by omega) (by omega)]; exact old k hk
      · rcases hb with h6 | h6 | h6 | h6
        · exact .inr (by have := b' b h6; omega)
        · exact .inl (.inr (.inl h6))
        · exact .inl (.inr (.inr (.inl h6)))
        · exact .inl (.inr (.inr (.inr h6)))
    rcases cond with ⟨rfl, hc⟩ | ⟨rfl, hc, hc2⟩
    · rw [hc] at ov
      have cav := sc_cs sav
      have r1 : ∀ o, (g.set h.length o)[h.length]? = some o := fun o => List.getElem?_set_self (by omega)
      have r12 : ∀ o, (g.set h.length o)[h.length + 2]? = g[h.length + 2]? := fun o => List.getElem?_set_ne (by omega)
      have r2 : ∀ o o', ((g.set h.length o).set (h.length + 2) o')[h.length + 2]? = some o' := fun o o' => List.getElem?_set_self (by simp; omega)
      simp -implicitDefEqProofs [d1, AObj.read, lu, h1']
      refine joinP_go ?_
      simp -implicitDefEqProofs [d1, d3, AObj.read, sav, cav, r1, r12, r2, s2, s3, s4]
      exact fin av g ov ovb kg lg
    · have hcu : uPut u s.users = s.users ++ [u] := by rw [hc2]; rfl
      rw [ur] at d4
      simp -implicitDefEqProofs [d1, AObj.read, lu, h1']
      refine joinP_go ?_
      simp -implicitDefEqProofs [d4, AObj.read]
      rw [← ur]
      refine app_one usrR ov (by decide) u (by omega) fun a' h' q1 q2 q3 q4 => ?_
      have k' : ∀ k, k < g2.length → h'[k]? = g2[k]? := fun k hk => (q2 k (by omega) (fun h9 => by have := ovb k h9; omega)).trans (kg k hk)
      have e1 := (k' _ (by omega)).trans (G2.get c1)
      have e3 := (k' _ (by omega)).trans (G2.get c3)
      have sa' := q1.sc
      have ca' := sc_cs sa'
      have r1 : ∀ o, (h'.set h.length o)[h.length]? = some o := fun o => List.getElem?_set_self (by omega)
      have r12 : ∀ o, (h'.set h.length o)[h.length + 2]? = h'[h.length + 2]? := fun o => List.getElem?_set_ne (by omega)
      have r2 : ∀ o o', ((h'.set h.length o).set (h.length + 2) o')[h.length + 2]? = some o' := fun o o' => List.getElem?_set_self (by simp; omega)
      simp -implicitDefEqProofs [e1, e3, AObj.read, sa', ca', r1, r12, r2, s2, s3, s4]
      rw [hc, ← hcu] at q1
      exact ⟨by omega, fin a' h' q1 (fun b hb => by rcases q4 b hb with h9 | h9; exact ovb b h9; omega) k' (by omega)⟩
end Go.AI

/- The document's states: closes. -/
set_option linter.all false
namespace Go.AI
variable {A : Type} {R : Adts A}
theorem Own.pre {α : Type} {f : α → List AVal} {w : Nat} (hf : RowOk f w) {e : TypeId} {a : AVal} {l : List α} {h : AHeap A} (ha : Own f w e a l h) {i : Nat} (hi : i ≤ l.length) :
    ∃ y, (∀ K, rslP w a none (some (.int .i64 i)) none K = K y) ∧ ∀ g : AHeap A, (∀ b, a.blk = some b → g[b]? = h[b]?) → srcOf w g y = some (i, (l.take i).flatMap f) := by
  rcases ha with ⟨rfl, rfl⟩ | ⟨b, cap, ex, cs, rfl, hb, hl, hc, ht, hx⟩
  · simp at hi
    subst hi
    exact ⟨.nils, fun K => by simp [rslP, bnd], fun g _ => rfl⟩
  · have hlw : l.length * w ≤ cs.length := by rw [hl]; exact Nat.mul_le_mul_right w hc
    have h1 : i * w ≤ l.length * w := Nat.mul_le_mul_right w hi
    refine ⟨.sl b 0 i cap ex, fun K => ?_, fun g hg => ?_⟩
    · simp only [rslP, bnd]
      rw [if_pos (by omega), if_pos (by omega)]
      simp
    · have hca : cellsAt g b = some cs := by simp [cellsAt, hg b rfl, hb, AObj.read]
      simp only [srcOf, hca, Nat.zero_add]
      rw [if_pos (by omega), List.drop_zero]
      have : cs.take (i * w) = (cs.take (l.length * w)).take (i * w) := by rw [List.take_take, Nat.min_eq_left h1]
      rw [this, ht, rows_taken hf]
theorem Own.suf {α : Type} {f : α → List AVal} {w : Nat} (hf : RowOk f w) {e : TypeId} {a : AVal} {l : List α} {h : AHeap A} (ha : Own f w e a l h) {i : Nat} (hi : i ≤ l.length) :
    ∃ y, (∀ K, rslP w a (some (.int .i64 i)) none none K = K y) ∧ ∀ g : AHeap A, (∀ b, a.blk = some b → g[b]? = h[b]?) → srcOf w g y = some (l.length - i, (l.drop i).flatMap f) := by
  rcases ha with ⟨rfl, rfl⟩ | ⟨b, cap, ex, cs, rfl, hb, hl, hc, ht, hx⟩
  · simp at hi
    subst hi
    exact ⟨.nils, fun K => by simp [rslP, bnd], fun g _ => rfl⟩
  · have hlw : l.length * w ≤ cs.length := by rw [hl]; exact Nat.mul_le_mul_right w hc
    have h1 : i * w ≤ l.length * w := Nat.mul_le_mul_right w hi
    have e0 : (l.length - i) * w + i * w = l.length * w := by rw [← Nat.add_mul]; congr 1; omega
    by_cases h2 : i < cap ∨ i = 0
    · refine ⟨.sl b (0 + i * w) (l.length - i) (cap - i) ex, fun K => by rw [rsl_lo hi hc h2 K], fun g hg => ?_⟩
      have hca : cellsAt g b = some cs := by simp [cellsAt, hg b rfl, hb, AObj.read]
      simp only [srcOf, hca, Nat.zero_add]
      rw [if_pos (by omega)]
      have : l.length * w - i * w = (l.length - i) * w := by omega
      rw [← this, ← List.drop_take, ht, rows_dropn hf]
    · have hie : l.length - i = 0 := by omega
      have hd : l.drop i = [] := List.drop_eq_nil_of_le (by omega)
      by_cases h5 : ex = true
      · refine ⟨.sl b 0 0 0 true, fun K => ?_, fun g hg => ?_⟩
        · simp only [rslP, bnd]
          rw [if_pos (by omega), if_neg (by omega), h5]
          rfl
        · have hca : cellsAt g b = some cs := by simp [cellsAt, hg b rfl, hb, AObj.read]
          simp only [srcOf, hca]
          rw [if_pos (by omega), hd, hie]
          simp
      · refine ⟨.empt b 0 (i * w), fun K => ?_, fun g hg => ?_⟩
        · simp only [rslP, bnd]
          rw [if_pos (by omega), if_neg (by omega)]
          simp [h5]
        · simp [srcOf, hie, hd]
/-- A copy behind an empty slice. -/
theorem app_copy {α : Type} {f : α → List AVal} {w : Nat} (hf : RowOk f w) {e : TypeId} {bytes : Nat} {y : AVal} {l : List α} {h : AHeap A} {K : AVal → AHeap A → Prop} (hb : 0 < bytes) (hy : srcOf w (h ++ [.cells e []]) y = some (l.length, l.flatMap f)) (hn : l.length * bytes ≤ 140737488355328)
    (hk : ∀ a g, Own f w e a l g → (∀ b, a.blk = some b → h.length ≤ b) → Gr h g → K a g) : appP e w bytes (.sl h.length 0 0 0 true) y (h ++ [.cells e []]) K := by
  refine app_clone hf hb (q := h.length) (by simp) hy hn ?_
  by_cases h0 : l = []
  · rw [if_pos h0]
    subst h0
    exact hk _ _ (Own.new hf (l := []) (by simp) rfl) (fun b hb => by simp [AVal.blk] at hb; omega) (Gr.app h _)
  · rw [if_neg h0]
    refine hk _ _ (Own.new hf (by simp) rfl) (fun b hb => by simp [AVal.blk] at hb; omega) ?_
    rw [List.append_assoc]
    exact Gr.app h _
def clDoes (s : Sta) (E : Ev) : Option Sta :=
  match xAt s.sess E.session with
  | some k => match pFree s.addrs (s.sess.getD k ses0).address E.tick with
    | some ps => match uAt s.users (s.sess.getD k ses0).user with
      | some j => some { s with addrs := ps, sess := s.sess.eraseIdx k, users := s.users.set j { s.users.getD j usr0 with used := sum (s.users.getD j usr0).used E.a } }
      | none => some { s with addrs := ps, sess := s.sess.eraseIdx k }
    | none => none
  | none => none
def clUsers (s : Sta) (E : Ev) (k : Nat) : List Usr :=
  match uAt s.users (s.sess.getD k ses0).user with
  | some j => s.users.set j { s.users.getD j usr0 with used := sum (s.users.getD j usr0).used E.a }
  | none => s.users
theorem clDoes_some {s : Sta} {E : Ev} {k : Nat} {ps : List Adr} (h1 : xAt s.sess E.session = some k) (h2 : pFree s.addrs (s.sess.getD k ses0).address E.tick = some ps) : clDoes s E = some { s with addrs := ps, sess := s.sess.eraseIdx k, users := clUsers s E k } := by
  unfold clDoes clUsers
  rw [h1]
  dsimp only
  rw [h2]
  dsimp only
  cases uAt s.users (s.sess.getD k ses0).user <;> rfl
def ClJ (us : List Usr) (xu : AVal) (g4 : AHeap A) (vs : List AVal) (g : AHeap A) : Prop :=
  vs = [] ∧ Own Usr.row 9 t_api_User xu us g ∧ (∀ k, k < g4.length → xu.blk ≠ some k → g[k]? = g4[k]?) ∧ g4.length ≤ g.length
theorem ref20_closed_ok (hR : R.Ok) (C : Cfg) (E : Ev) {s : Sta} {xu xs xa xp : AVal} {h : AHeap A} (O : OS h s xu xs xa xp) (hle : StaLe s 2000000) (hE : EvIn E) (hin : ∀ u ∈ s.users, -9223372036854775808 ≤ u.used) (hk6 : E.kind = 6) {K : AVal → AHeap A → Prop}
    (hk : K4 (In4 xu xs xa xp) h (sDoes C s E) K) : Tri Pr R n_ref20_closed [.agg (sCells s xu xs xa xp), .agg E.row] h K := by
  have re : Ev.row E = [.int .i64 E.kind, .int .i64 E.user, .int .i64 E.session, .int .i64 E.address, .int .i64 E.a, .int .i64 E.b, .int .i64 E.c, .int .i64 E.tick] := rfl
  have s1 := O.u.sc
  have s2 := O.x.sc
  have s3 := O.a.sc
  have s4 := O.p.sc
  unfold sDoes at hk
  rw [if_neg (by omega), if_neg (by omega), if_neg (by omega), if_pos hk6] at hk
  change K4 _ h (clDoes s E) K at hk
  have lt : ∀ k, In4 xu xs xa xp k → k < h.length := fun k hk => O.lt hk
  have no : clDoes s E = none → ∀ g, Gr h g → K (.tup [.agg (sCells s xu xs xa xp), .bool false]) g := fun ho g G => hk.1 ho _ g rfl (sc7 s1 s2 s3 s4) (Fr4.gr G)
  have gset : ∀ (g : AHeap A) (o : AObj A), Gr h g → Gr h (g.set (h.length + 2) o) := fun g o G => ⟨fun k hk => by rw [List.getElem?_set_ne (by omega)]; exact G.k k hk, by have := G.l; simpa using this⟩
  apply c_ref20_closed
  unfold p_ref20_closed sCells
  simp -implicitDefEqProofs [re, s1, s2, s3, s4, AObj.read]
  refine ref20_SessionAt_ok hR s1 s2 s3 s4 (O.rgX.gr (Gr.app h _)) hle.x E.session fun g1 G1 => ?_
  have G0 : Gr h g1 := (Gr.app h _).trans G1
  have l1 := G1.l
  simp only [List.length_append, List.length_cons, List.length_nil] at l1
  have c1 : g1[h.length]? = some (.cells t_api_State [.int .i64 s.boots, .int .i64 s.epoch, .int .i64 s.next, xu, xs, xa, xp]) := G1.get (by rw [List.getElem?_append_right (Nat.le_refl _)]; simp)
  have c2 : g1[h.length + 1]? = some (.cells t_api_Event E.row) := G1.get (by rw [List.getElem?_append_right (by omega)]; simp [re])
  have c3 : g1[h.length + 2]? = some (.cells t_api_State [.int .i64 0, .int .i64 0, .int .i64 0, .nils, .nils, .nils, .nils]) := G1.get (by rw [List.getElem?_append_right (by omega)]; simp)
  rw [re] at c2
  cases hx : xAt s.sess E.session with
  | none =>
    have h2 : idx1 (none : Option Nat) < 0 := by simp [idx1]
    have r3 : ∀ o, (g1.set (h.length + 2) o)[h.length + 2]? = some o := fun o => List.getElem?_set_self (by omega)
    simp -implicitDefEqProofs [h2, c1, c3, AObj.read, s1, s2, s3, s4, r3]
    exact no (by unfold clDoes; rw [hx]) _ (gset g1 _ G0)
  | some k =>
  have hkl := xAt_lt hx
  have h2 : ¬ (k : Int) < 0 := by omega
  have ik : idx1 (some k) = (k : Int) := rfl
  obtain ⟨p, hp, hat⟩ := (O.rgX g1 G0).get k hkl
  have allp : ldV 4 true p g1 = some (.agg (s.sess[k]).row) := hat.all
  have hgd : s.sess.getD k ses0 = s.sess[k] := ses_get hkl
  unfold Ses.row at allp
  simp -implicitDefEqProofs [h2, ik, c1, c2, AObj.read, hp, allp]
  obtain ⟨g1b, hg1b⟩ : ∃ g, g = g1 ++ [AObj.cells t_api_Session [.int .i64 (s.sess[k]).session, .int .i64 (s.sess[k]).user, .int .i64 (s.sess[k]).address, .int .i64 (s.sess[k]).start]] := ⟨_, rfl⟩
  rw [← hg1b]
  have G1b : Gr g1 g1b := by rw [hg1b]; exact Gr.app _ _
  have l1b : g1b.length = g1.length + 1 := by rw [hg1b]; simp
  have cx : g1b[g1.length]? = some (.cells t_api_Session [.int .i64 (s.sess[k]).session, .int .i64 (s.sess[k]).user, .int .i64 (s.sess[k]).address, .int .i64 (s.sess[k]).start]) := by rw [hg1b]; simp
  have c1b := G1b.get c1
  have c2b := G1b.get c2
  simp -implicitDefEqProofs [c1b, c2b, AObj.read]
  refine ref12_Free_ok hR (O.rgA.gr (G0.trans G1b)) hle.a _ _ ?_
  cases hpf : pFree s.addrs (s.sess[k]).address E.tick with
  | none =>
    intro g2 G2
    have d1 := (G1b.trans G2).get c1
    have d3 := (G1b.trans G2).get c3
    have l2 := G2.l
    have r3 : ∀ o, (g2.set (h.length + 2) o)[h.length + 2]? = some o := fun o => List.getElem?_set_self (by omega)
    simp -implicitDefEqProofs [d1, d3, AObj.read, s1, s2, s3, s4, r3]
    exact no (by unfold clDoes; rw [hx]; dsimp only; rw [hgd, hpf]) _ (gset g2 _ (G0.trans (G1b.trans G2)))
  | some ps =>
  intro ax g2 o2 b2 G2
  have ho := clDoes_some hx (ps := ps) (by rw [hgd]; exact hpf)
  have G02 := G0.trans (G1b.trans G2)
  have d1 := (G1b.trans G2).get c1
  have d2 := (G1b.trans G2).get c2
  have d3 := (G1b.trans G2).get c3
  have dx := G2.get cx
  have l2 := G2.l
  have sa := o2.sc
  have ca := sc_cs sa
  have r1 : ∀ o, (g2.set h.length o)[h.length]? = some o := fun o => List.getElem?_set_self (by omega)
  have r1x : ∀ o, (g2.set h.length o)[g1.length]? = g2[g1.length]? := fun o => List.getElem?_set_ne (by omega)
  simp -implicitDefEqProofs [d1, AObj.read, sa, ca, r1, r1x, dx, s1, s2, s4]
  obtain ⟨g3, hg3⟩ : ∃ g3, g3 = g2.set h.length (.cells t_api_State [.int .i64 s.boots, .int .i64 s.epoch, .int .i64 s.next, xu, xs, ax, xp]) := ⟨_, rfl⟩
  rw [← hg3]
  have l3 : g3.length = g2.length := by rw [hg3]; simp
  have k3 : ∀ k, k ≠ h.length → g3[k]? = g2[k]? := fun k hk => by rw [hg3, List.getElem?_set_ne (Ne.symm hk)]
  have e1 : g3[h.length]? = some (.cells t_api_State [.int .i64 s.boots, .int .i64 s.epoch, .int .i64 s.next, xu, xs, ax, xp]) := by rw [hg3]; exact r1 _
  have e2 := (k3 (h.length + 1) (by omega)).trans d2
  have e3 := (k3 (h.length + 2) (by omega)).trans d3
  have ex := (k3 g1.length (by omega)).trans dx
  have G03 : Gr h g3 := ⟨fun k hk => (k3 k (by omega)).trans (G02.k k hk), by omega⟩
  refine ref20_UserAt_ok hR s1 s2 sa s4 (O.rgU.gr G03) hle.u (s.sess[k]).user fun g4 G4 => ?_
  have G04 := G03.trans G4
  have f1 := G4.get e1
  have f2 := G4.get e2
  have f3 := G4.get e3
  have l4 := G4.l
  have o24 : Own Adr.row 3 t_api_Address ax ps g4 := (o2.move' (h' := g3) fun b hb => k3 b (by have := b2 b hb; omega)).gr G4
  have O4 := O.gr G04
  refine joinP_all (ClJ (clUsers s E k) xu g4) ?_ ?_
  · have hcu : clUsers s E k = match uAt s.users (s.sess[k]).user with | some j => s.users.set j { s.users.getD j usr0 with used := sum (s.users.getD j usr0).used E.a } | none => s.users := by (unfold clUsers; rw [hgd]) <;> rfl
    cases hu : uAt s.users (s.sess[k]).user with
    | none =>
      rw [hu] at hcu
      have h5 : ¬ idx1 (none : Option Nat) ≥ 0 := by simp [idx1]
      simp -implicitDefEqProofs [h5]
      exact ⟨rfl, by rw [hcu]; exact O4.u, fun _ _ _ => rfl, Nat.le_refl _⟩
    | some j =>
      rw [hu] at hcu
      have hjl := uAt_lt hu
      have hgu := usr_get hjl
      have h5 : (j : Int) ≥ 0 := by omega
      have ij : idx1 (some j) = (j : Int) := rfl
      obtain ⟨bu, hbu, hixu, hatu⟩ := O4.u.el usrR hjl
      have allu : ldV 9 true (.ptr bu (j * 9)) g4 = some (.agg (s.users[j]).row) := hatu.all
      have allu' : (g4[bu]?.bind AObj.read).bind (fun cs => if j * 9 + 9 ≤ cs.length then some (AVal.agg ((cs.drop (j * 9)).take 9)) else none) = some (.agg (s.users[j]).row) := by simpa using allu
      unfold Usr.row at allu'
      have f1' : ∀ g : AHeap A, (g4 ++ g)[h.length]? = some (.cells t_api_State [.int .i64 s.boots, .int .i64 s.epoch, .int .i64 s.next, xu, xs, ax, xp]) := fun g => get_app f1
      have f2' : ∀ g : AHeap A, (g4 ++ g)[h.length + 1]? = some (.cells t_api_Event [.int .i64 E.kind, .int .i64 E.user, .int .i64 E.session, .int .i64 E.address, .int .i64 E.a, .int .i64 E.b, .int .i64 E.c, .int .i64 E.tick]) := fun g => get_app f2
      simp -implicitDefEqProofs [h5, ij, f1, f1', f2', AObj.read, hixu, allu', rp9]
      refine ref20_Sum_ok hR _ _ (hin _ (List.getElem_mem hjl)) hE.a ?_
      simp -implicitDefEqProofs [f1', AObj.read, hixu]
      obtain ⟨u', hu'⟩ : ∃ u' : Usr, u' = { s.users[j] with used := sum (s.users[j]).used E.a } := ⟨_, rfl⟩
      have ur' : u'.row = [.int .i64 (s.users[j]).user, .int .i64 (s.users[j]).key, .int .i64 (s.users[j]).secret, .int .i64 (s.users[j]).quota, .int .i64 (sum (s.users[j]).used E.a), .int .i64 (s.users[j]).fails, .int .i64 (s.users[j]).unt, .int .i64 (s.users[j]).step, .int .i64 (s.users[j]).gen] := by rw [hu']; rfl
      rw [← ur']
      have O5 := O4.gr (Gr.app g4 [AObj.cells t_api_User u'.row])
      refine O5.u.sth usrR hjl hbu (off := 0) (o := j * 9) (c := u'.row) u' rfl (by simp [Usr.row]) rfl rfl fun h2 own2 fr2 ln2 => ?_
      refine ⟨rfl, by rw [hcu]; dsimp only; rw [hgu, ← hu']; exact own2, fun m hm hn => ?_, by rw [List.length_append] at ln2; omega⟩
      rw [fr2 m (fun h9 => hn (h9 ▸ hbu)), List.getElem?_append_left hm]
  · rintro _ g5 ⟨rfl, ou5, fr5, ln5⟩
    refine ⟨ln5, ?_⟩
    have nb : ∀ m, h.length ≤ m → xu.blk ≠ some m := fun m hm h9 => by have := lt m (.inl h9); omega
    have i1 := (fr5 h.length (by omega) (nb _ (by omega))).trans f1
    have i3 := (fr5 (h.length + 2) (by omega) (nb _ (by omega))).trans f3
    obtain ⟨y1, hy1, src1⟩ := O.x.pre sesR (i := k) (by omega)
    obtain ⟨y2, hy2, src2⟩ := O.x.suf sesR (i := k + 1) (by omega)
    have hy2' : ∀ K, rslP 4 xs (some (.int .i64 ((k : Int) + 1))) none none K = K y2 := fun K => by rw [← hy2 K]; rfl
    have nux := ty_ne O.x O.u (by decide)
    have kx5 : ∀ b, xs.blk = some b → g5[b]? = h[b]? := fun b hb => by
      have := O.x.blt hb
      rw [fr5 b (by omega) (nux b hb)]; exact G04.k b this
    have wk := w64 (n := (k : Int) + 1) (by have := hle.x; omega)
    have i1' : ∀ g : AHeap A, Gr g5 g → g[h.length]? = some (.cells t_api_State [.int .i64 s.boots, .int .i64 s.epoch, .int .i64 s.next, xu, xs, ax, xp]) := fun g G => G.get i1
    have i1'' : ∀ g : AHeap A, (g5 ++ g)[h.length]? = some (.cells t_api_State [.int .i64 s.boots, .int .i64 s.epoch, .int .i64 s.next, xu, xs, ax, xp]) := fun g => get_app i1
    simp -implicitDefEqProofs [i1'', AObj.read, hy1]
    refine app_copy sesR (l := s.sess.take k) (by decide) ?_ (by simp; have := hle.x; omega) fun x6 g6 o6 b6 G6 => ?_
    · rw [src1 _ fun b hb => by have := O.x.blt hb; rw [List.getElem?_append_left (by omega)]; exact kx5 b hb]
      rw [List.length_take, Nat.min_eq_left (by omega)]
    have j1 := G6.get i1
    have j3 := G6.get i3
    have l6 := G6.l
    simp -implicitDefEqProofs [j1, AObj.read, wk, hy2']
    refine app_own sesR (l2 := s.sess.drop (k + 1)) o6 (by decide) ?_ (by simp; have := hle.x; omega) fun x7 g7 o7 fr7 ln7 b7 => ?_
    · rw [src2 _ fun b hb => by have := O.x.blt hb; rw [G6.k b (by omega)]; exact kx5 b hb]
      rw [List.length_drop]
    have n6 : ∀ m, m < g5.length → x6.blk ≠ some m := fun m hm h9 => by have := b6 m h9; omega
    have q1 := (fr7 h.length (by omega) (n6 _ (by omega))).trans j1
    have q3 := (fr7 (h.length + 2) (by omega) (n6 _ (by omega))).trans j3
    have sx := o7.sc
    have cx := sc_cs sx
    have t1 : ∀ o, (g7.set h.length o)[h.length]? = some o := fun o => List.getElem?_set_self (by omega)
    have t13 : ∀ o, (g7.set h.length o)[h.length + 2]? = g7[h.length + 2]? := fun o => List.getElem?_set_ne (by omega)
    have t3 : ∀ o o', ((g7.set h.length o).set (h.length + 2) o')[h.length + 2]? = some o' := fun o o' => List.getElem?_set_self (by simp; omega)
    simp -implicitDefEqProofs [q1, AObj.read, sx, cx, t1, t13, q3, s1, sa, s4, t3]
    have same : ∀ (o o' : AObj A) m, m ≠ h.length → m ≠ h.length + 2 → ((g7.set h.length o).set (h.length + 2) o')[m]? = g7[m]? := fun o o' m hm hm2 => by
      rw [List.getElem?_set_ne (Ne.symm hm2), List.getElem?_set_ne (Ne.symm hm)]
    have k57 : ∀ m, m < g5.length → g7[m]? = g5[m]? := fun m hm => (fr7 m (by omega) (n6 m hm)).trans (G6.k m hm)
    have o7' : Own Ses.row 4 t_api_Session x7 (s.sess.eraseIdx k) g7 := by rw [List.eraseIdx_eq_take_drop_succ]; exact o7
    have b7' : ∀ b, x7.blk = some b → g5.length ≤ b := fun b hb => by
      rcases b7 b hb with h9 | h9
      · exact b6 b h9
      · omega
    have nup := ty_ne O.p O.u (by decide)
    have na := ty_ne o24 O4.u (by decide)
    refine hk.2 _ ho xu x7 ax xp _ ⟨?_, ?_, ?_, ?_⟩ ⟨fun m hm hn => ?_, by simp; omega⟩ (fun b hb => ?_)
    · exact ou5.move' fun b hb => by have := lt b (.inl hb); rw [same _ _ b (by omega) (by omega)]; exact k57 b (by omega)
    · exact o7'.move' fun b hb => same _ _ b (by have := b7' b hb; omega) (by have := b7' b hb; omega)
    · refine o24.move' fun b hb => ?_
      have h5 := b2 b hb
      have h6 := o24.blt hb
      rw [same _ _ b (by omega) (by omega), k57 b (by omega), fr5 b h6 (na b hb)]
    · exact O.p.move' fun b hb => by
        have := O.p.blt hb
        rw [same _ _ b (by omega) (by omega), k57 b (by omega), fr5 b (by omega) (nup b hb)]; exact G04.k b this
    · rw [same _ _ m (by omega) (by omega), k57 m (by omega), fr5 m (by omega) (fun h9 => hn (.inl h9))]
      exact G04.k m hm
    · rcases hb with h6 | h6 | h6 | h6
      · exact .inl (.inl h6)
      · exact .inr (by have := b7' b h6; omega)
      · exact .inr (by have := b2 b h6; omega)
      · exact .inl (.inr (.inr (.inr h6)))
end Go.AI

/- The document's states: an event upon a state of one's own. -/
set_option linter.all false
namespace Go.AI
variable {A : Type} {R : Adts A}
theorem K4.wrap {I : Nat → Prop} {h h0 : AHeap A} {o : Option Sta} {K : AVal → AHeap A → Prop} (hk : K4 I h o K) (G : Gr h h0) (hI : ∀ k, I k → k < h.length) {q : Nat} (hq : h.length ≤ q) (hz : h0[q]? = some (.cells t_api_State [.int .i64 0, .int .i64 0, .int .i64 0, .nils, .nils, .nils, .nils])) :
    K4 I h0 o (fun v g => extP v 0 fun v1 => extP v 1 fun v2 => stP 7 (.ptr q 0) v1 g fun h => optP ((h[q]?.bind AObj.read).bind fun cs => if 7 ≤ cs.length then some (AVal.agg (cs.take 7)) else none) fun v3 => K (.tup [v3, v2]) h) := by
  have hqI : ¬ I q := fun h9 => by have := hI q h9; omega
  have hq2 := (List.getElem?_eq_some_iff.1 hz).1
  refine ⟨fun ho l g hl hs F => ?_, fun s ho xu xs xa xp g O F hn => ?_⟩
  · have d := (F.k q hq2 hqI).trans hz
    have ql := (List.getElem?_eq_some_iff.1 d).1
    have r : ∀ o, (g.set q o)[q]? = some o := fun o => List.getElem?_set_self ql
    obtain ⟨x0, x1, x2, x3, x4, x5, x6, rfl⟩ := len_7 hl
    simp only [List.all_cons, List.all_nil, Bool.and_true, Bool.and_eq_true] at hs
    obtain ⟨a0, a1, a2, a3, a4, a5, a6⟩ := hs
    simp -implicitDefEqProofs [d, AObj.read, a0, a1, a2, a3, a4, a5, a6, r]
    exact hk.1 ho [x0, x1, x2, x3, x4, x5, x6] _ rfl (by simp [a0, a1, a2, a3, a4, a5, a6]) ⟨fun k hk hn => by rw [List.getElem?_set_ne (by omega), F.k k (by have := G.l; omega) hn]; exact G.k k hk, by have := F.l; have := G.l; simp; omega⟩
  · have d := (F.k q hq2 hqI).trans hz
    have ql := (List.getElem?_eq_some_iff.1 d).1
    have r : ∀ o, (g.set q o)[q]? = some o := fun o => List.getElem?_set_self ql
    have s1 := O.u.sc
    have s2 := O.x.sc
    have s3 := O.a.sc
    have s4 := O.p.sc
    have hne : ∀ k, In4 xu xs xa xp k → k ≠ q := fun k hk h9 => by
      rcases hn k hk with h8 | h8
      · exact hqI (h9 ▸ h8)
      · omega
    have hk2 := hk.2 s ho xu xs xa xp (g.set q (.cells t_api_State (sCells s xu xs xa xp))) (O.move fun k hk => List.getElem?_set_ne (Ne.symm (hne k hk))) ⟨fun k hk hn => by rw [List.getElem?_set_ne (by omega), F.k k (by have := G.l; omega) hn]; exact G.k k hk, by have := F.l; have := G.l; simp; omega⟩ (fun b hb => by
      rcases hn b hb with h9 | h9
      · exact .inl h9
      · exact .inr (by have := G.l; omega))
    unfold sCells at hk2 ⊢
    simp -implicitDefEqProofs [d, AObj.read, s1, s2, s3, s4, r]
    exact hk2
theorem ref20_applied_ok (hR : R.Ok) (C : Cfg) (E : Ev) {s : Sta} {xu xs xa xp : AVal} {h : AHeap A} (O : OS h s xu xs xa xp) (hle : StaLe s 2000000) (hE : EvIn E) (hC : 1 ≤ C.quarantine ∧ C.quarantine ≤ 65536) (hs : StaIn s) {K : AVal → AHeap A → Prop}
    (hk : K4 (In4 xu xs xa xp) h (sDoes C s E) K) : Tri Pr R n_ref20_applied [.agg C.row, .agg (sCells s xu xs xa xp), .agg E.row] h K := by
  have rc : Cfg.row C = [.int .i64 C.sectors, .int .i64 C.halves, .int .i64 C.sessions, .int .i64 C.addresses, .int .i64 C.fails, .int .i64 C.lockout, .int .i64 C.halfLife, .int .i64 C.idle, .int .i64 C.absolute, .int .i64 C.quarantine, .int .i64 C.ticketLife, .int .i64 C.keep] := rfl
  have re : Ev.row E = [.int .i64 E.kind, .int .i64 E.user, .int .i64 E.session, .int .i64 E.address, .int .i64 E.a, .int .i64 E.b, .int .i64 E.c, .int .i64 E.tick] := rfl
  have sc : sCells s xu xs xa xp = [.int .i64 s.boots, .int .i64 s.epoch, .int .i64 s.next, xu, xs, xa, xp] := rfl
  have s1 := O.u.sc
  have s2 := O.x.sc
  have s3 := O.a.sc
  have s4 := O.p.sc
  obtain ⟨h0, hh0⟩ : ∃ h0, h0 = h ++ [AObj.cells t_api_Config C.row, .cells t_api_State (sCells s xu xs xa xp), .cells t_api_Event E.row, .cells t_api_State [.int .i64 0, .int .i64 0, .int .i64 0, .nils, .nils, .nils, .nils]] := ⟨_, rfl⟩
  have G0 : Gr h h0 := by rw [hh0]; exact Gr.app h _
  have l0 : h0.length = h.length + 4 := by rw [hh0]; simp
  have c0 : h0[h.length]? = some (.cells t_api_Config C.row) := by rw [hh0, List.getElem?_append_right (Nat.le_refl _)]; simp
  have c1 : h0[h.length + 1]? = some (.cells t_api_State (sCells s xu xs xa xp)) := by rw [hh0, List.getElem?_append_right (by omega)]; simp
  have c2 : h0[h.length + 2]? = some (.cells t_api_Event E.row) := by rw [hh0, List.getElem?_append_right (by omega)]; simp
  have c3 : h0[h.length + 3]? = some (.cells t_api_State [.int .i64 0, .int .i64 0, .int .i64 0, .nils, .nils, .nils, .nils]) := by rw [hh0, List.getElem?_append_right (by omega)]; simp
  have O0 := O.gr G0
  have wr := K4.wrap hk G0 (fun k hk => O.lt hk) (q := h.length + 3) (by omega) c3
  have h0e : h ++ [AObj.cells t_api_Config [.int .i64 C.sectors, .int .i64 C.halves, .int .i64 C.sessions, .int .i64 C.addresses, .int .i64 C.fails, .int .i64 C.lockout, .int .i64 C.halfLife, .int .i64 C.idle, .int .i64 C.absolute, .int .i64 C.quarantine, .int .i64 C.ticketLife, .int .i64 C.keep], .cells t_api_State [.int .i64 s.boots, .int .i64 s.epoch, .int .i64 s.next, xu, xs, xa, xp], .cells t_api_Event [.int .i64 E.kind, .int .i64 E.user, .int .i64 E.session, .int .i64 E.address, .int .i64 E.a, .int .i64 E.b, .int .i64 E.c, .int .i64 E.tick], .cells t_api_State [.int .i64 0, .int .i64 0, .int .i64 0, .nils, .nils, .nils, .nils]] = h0 := hh0.symm
  apply c_ref20_applied
  unfold p_ref20_applied
  by_cases k0 : E.kind = 0
  · have k0' : (E.kind == 0) = true := by simpa using k0
    simp -implicitDefEqProofs [rc, re, sc, s1, s2, s3, s4, AObj.read, k0']
    rw [h0e]
    exact ref20_booted_ok hR C E O0 hle hE hC k0 wr
  have k0' : (E.kind == 0) = false := by simpa using k0
  by_cases k5 : E.kind = 5
  · have k5' : (E.kind == 5) = true := by simpa using k5
    simp -implicitDefEqProofs [rc, re, sc, s1, s2, s3, s4, AObj.read, k0', k5']
    rw [h0e]
    exact ref20_leased_ok hR C E O0 hle hE k5 wr
  have k5' : (E.kind == 5) = false := by simpa using k5
  by_cases k6 : E.kind = 6
  · have k6' : (E.kind == 6) = true := by simpa using k6
    simp -implicitDefEqProofs [rc, re, sc, s1, s2, s3, s4, AObj.read, k0', k5', k6']
    rw [h0e]
    exact ref20_closed_ok hR C E O0 hle hE hs.used k6 wr
  have k6' : (E.kind == 6) = false := by simpa using k6
  have lt : ∀ k, In4 xu xs xa xp k → k < h.length := fun k hk => O.lt hk
  by_cases k8 : E.kind = 8
  · have k8' : (E.kind == 8) = true := by simpa using k8
    have hd : sDoes C s E = if s.epoch < 1073741823 then some { s with epoch := s.epoch + 1 } else none := by
      unfold sDoes
      rw [if_neg k0, if_neg (by omega), if_neg k5, if_neg k6, if_pos k8]
    rw [hd] at hk
    by_cases h1 : s.epoch ≥ 1073741823
    · simp -implicitDefEqProofs [rc, re, sc, s1, s2, s3, s4, AObj.read, k0', k5', k6', k8', h1]
      exact hk.1 (if_neg (by omega)) (sCells s xu xs xa xp) _ rfl (sc7 s1 s2 s3 s4) (Fr4.gr (Gr.app h _))
    · have w1 := w64 (n := s.epoch + 1) (by have := hs.epoch; omega)
      simp -implicitDefEqProofs [rc, re, sc, s1, s2, s3, s4, AObj.read, k0', k5', k6', k8', h1, w1]
      exact hk.2 _ (if_pos (by omega)) xu xs xa xp _ (⟨O.u.gr (Gr.app h _), O.x.gr (Gr.app h _), O.a.gr (Gr.app h _), O.p.gr (Gr.app h _)⟩) (Fr4.gr (Gr.app h _)) (fun b hb => .inl hb)
  have k8' : (E.kind == 8) = false := by simpa using k8
  by_cases k9 : E.kind = 9
  · have k9' : (E.kind == 9) = true := by simpa using k9
    have hd : sDoes C s E = if E.session ∈ s.spent then none else some { s with spent := s.spent ++ [E.session] } := by
      unfold sDoes
      rw [if_neg k0, if_neg (by omega), if_neg k5, if_neg k6, if_neg k8, if_pos k9]
    rw [hd] at hk
    simp -implicitDefEqProofs [rc, re, sc, s1, s2, s3, s4, AObj.read, k0', k5', k6', k8', k9']
    rw [h0e]
    refine ref20_spent_ok hR s1 s2 s3 s4 (O.rgP.gr G0) hle.p E.session fun g1 G1 => ?_
    have d1 := G1.get c1
    have d2 := G1.get c2
    have d3 := G1.get c3
    have l1 := G1.l
    have GG := G0.trans G1
    unfold sCells at d1
    rw [re] at d2
    by_cases h1 : E.session ∈ s.spent
    · rw [decide_eq_true h1]
      have r3 : ∀ o, (g1.set (h.length + 3) o)[h.length + 3]? = some o := fun o => List.getElem?_set_self (by omega)
      simp -implicitDefEqProofs [d1, d3, AObj.read, s1, s2, s3, s4, r3]
      exact hk.1 (if_pos h1) (sCells s xu xs xa xp) _ rfl (sc7 s1 s2 s3 s4) (Fr4.gr ⟨fun k hk => by rw [List.getElem?_set_ne (by omega)]; exact GG.k k hk, by have := GG.l; simpa using this⟩)
    · rw [decide_eq_false h1]
      simp -implicitDefEqProofs [d1, d2, AObj.read]
      refine app_one intR (O.p.gr GG) (by decide) E.session (by have := hle.p; omega) fun x' g2 o2 f2 l2 b2 => ?_
      have nb : ∀ m, h.length ≤ m → xp.blk ≠ some m := fun m hm h9 => by have := lt m (.inr (.inr (.inr h9))); omega
      have q1 := (f2 (h.length + 1) (by omega) (nb _ (by omega))).trans d1
      have q3 := (f2 (h.length + 3) (by omega) (nb _ (by omega))).trans d3
      have sx := o2.sc
      have cx := sc_cs sx
      have t1 : ∀ o, (g2.set (h.length + 1) o)[h.length + 1]? = some o := fun o => List.getElem?_set_self (by omega)
      have t13 : ∀ o, (g2.set (h.length + 1) o)[h.length + 3]? = g2[h.length + 3]? := fun o => List.getElem?_set_ne (by omega)
      have t3 : ∀ o o', ((g2.set (h.length + 1) o).set (h.length + 3) o')[h.length + 3]? = some o' := fun o o' => List.getElem?_set_self (by simp; omega)
      simp -implicitDefEqProofs [q1, AObj.read, sx, cx, t1, t13, q3, s1, s2, s3, t3]
      have same : ∀ (o o' : AObj A) m, m ≠ h.length + 1 → m ≠ h.length + 3 → ((g2.set (h.length + 1) o).set (h.length + 3) o')[m]? = g2[m]? := fun o o' m hm hm2 => by
        rw [List.getElem?_set_ne (Ne.symm hm2), List.getElem?_set_ne (Ne.symm hm)]
      have old : ∀ m, m < h.length → xp.blk ≠ some m → g2[m]? = h[m]? := fun m hm hn => (f2 m (by omega) hn).trans (GG.k m hm)
      have nu := ty_ne O.u O.p (by decide)
      have nx := ty_ne O.x O.p (by decide)
      have na := ty_ne O.a O.p (by decide)
      refine hk.2 _ (if_neg h1) xu xs xa x' _ ⟨?_, ?_, ?_, ?_⟩ ⟨fun m hm hn => ?_, by simp; omega⟩ (fun b hb => ?_)
      · exact O.u.move' fun b hb => by have := O.u.blt hb; rw [same _ _ b (by omega) (by omega)]; exact old b this (nu b hb)
      · exact O.x.move' fun b hb => by have := O.x.blt hb; rw [same _ _ b (by omega) (by omega)]; exact old b this (nx b hb)
      · exact O.a.move' fun b hb => by have := O.a.blt hb; rw [same _ _ b (by omega) (by omega)]; exact old b this (na b hb)
      · refine o2.move' fun b hb => same _ _ b ?_ ?_
        · rcases b2 b hb with h9 | h9
          · have := O.p.blt h9; omega
          · omega
        · rcases b2 b hb with h9 | h9
          · have := O.p.blt h9; omega
          · omega
      · rw [same _ _ m (by omega) (by omega)]; exact old m hm fun h9 => hn (.inr (.inr (.inr h9)))
      · rcases hb with h6 | h6 | h6 | h6
        · exact .inl (.inl h6)
        · exact .inl (.inr (.inl h6))
        · exact .inl (.inr (.inr (.inl h6)))
        · rcases b2 b h6 with h9 | h9
          · exact .inl (.inr (.inr (.inr h9)))
          · exact .inr (by omega)
  have k9' : (E.kind == 9) = false := by simpa using k9
  by_cases k1 : E.kind = 1
  · have k1' : (E.kind == 1) = true := by simpa using k1
    simp -implicitDefEqProofs [rc, re, sc, s1, s2, s3, s4, AObj.read, k0', k5', k6', k8', k9', k1']
    rw [h0e]
    exact ref20_added_ok hR C E O0 hle k1 wr
  have k1' : (E.kind == 1) = false := by simpa using k1
  have hd : sDoes C s E = match uAt s.users E.user with
    | some j => (uTurn C (s.users.getD j usr0) E).map fun u => { s with users := s.users.set j u }
    | none => none := by
    unfold sDoes
    rw [if_neg k0, if_neg k1, if_neg k5, if_neg k6, if_neg k8, if_neg k9]
    rfl
  rw [hd] at hk
  simp -implicitDefEqProofs [rc, re, sc, s1, s2, s3, s4, AObj.read, k0', k5', k6', k8', k9', k1']
  rw [h0e]
  refine ref20_UserAt_ok hR s1 s2 s3 s4 (O.rgU.gr G0) hle.u E.user fun g1 G1 => ?_
  have d0 := G1.get c0
  have d1 := G1.get c1
  have d2 := G1.get c2
  have d3 := G1.get c3
  have l1 := G1.l
  have GG := G0.trans G1
  unfold sCells at d1
  rw [re] at d2
  rw [rc] at d0
  cases hu : uAt s.users E.user with
  | none =>
    rw [hu] at hk
    have h2 : idx1 (none : Option Nat) < 0 := by simp [idx1]
    have r3 : ∀ o, (g1.set (h.length + 3) o)[h.length + 3]? = some o := fun o => List.getElem?_set_self (by omega)
    simp -implicitDefEqProofs [h2, d1, d3, AObj.read, s1, s2, s3, s4, r3]
    exact hk.1 rfl (sCells s xu xs xa xp) _ rfl (sc7 s1 s2 s3 s4) (Fr4.gr ⟨fun k hk => by rw [List.getElem?_set_ne (by omega)]; exact GG.k k hk, by have := GG.l; simpa using this⟩)
  | some j =>
    rw [hu] at hk
    dsimp only at hk
    have hjl := uAt_lt hu
    rw [usr_get hjl] at hk
    have h2 : ¬ (j : Int) < 0 := by omega
    have ij : idx1 (some j) = (j : Int) := rfl
    simp -implicitDefEqProofs [h2, ij, d0, d1, d2, AObj.read]
    exact ref20_turned_ok hR C E (O.gr GG) hE hjl (K4.wrap hk GG (fun k hk => O.lt hk) (q := h.length + 3) (by omega) d3)
end Go.AI

/- Events are written, are read (printed by gen/event_gen2.py). -/
set_option linter.all false
namespace Go.AI
variable {A : Type} {R : Adts A}
/-- What reading an event tells. -/
def evTup (o : Option Ev) : AVal := match o with | some e => .tup [.agg e.row, .int .i64 0] | none => .tup [.agg ev0.row, .int .i64 700]
end Go.AI

/- Events are read; the document's events (printed by gen/event_gen3.py). -/
set_option linter.all false
namespace Go.AI
variable {A : Type} {R : Adts A}
theorem ref1_part_0 (hR : R.Ok) (u s ad a b c t : Int) {h : AHeap A} {K : AVal → AHeap A → Prop} (hk : K (.tup [.agg (Ev.row ⟨0, 0, 0, 0, 0, 0, 0, t⟩), .bool true]) h) : Tri Pr R n_ref1_part [.agg (Ev.row ⟨0, u, s, ad, a, b, c, t⟩)] h K := by
  refine Tri.fn1 hR _ rfl rfl ?_ hk
  apply c_ref1_part
  unfold p_ref1_part
  simp -implicitDefEqProofs [Ev.row]
  repeat (first | refine joinP_go ?_ | simp -implicitDefEqProofs)
  exact Ans.rfl' _
theorem ref1_part_1 (hR : R.Ok) (u s ad a b c t : Int) {h : AHeap A} {K : AVal → AHeap A → Prop} (hk : K (.tup [.agg (Ev.row ⟨1, u, 0, 0, a, b, c, 0⟩), .bool true]) h) : Tri Pr R n_ref1_part [.agg (Ev.row ⟨1, u, s, ad, a, b, c, t⟩)] h K := by
  refine Tri.fn1 hR _ rfl rfl ?_ hk
  apply c_ref1_part
  unfold p_ref1_part
  simp -implicitDefEqProofs [Ev.row]
  repeat (first | refine joinP_go ?_ | simp -implicitDefEqProofs)
  exact Ans.rfl' _
theorem ref1_part_2 (hR : R.Ok) (u s ad a b c t : Int) {h : AHeap A} {K : AVal → AHeap A → Prop} (hk : K (.tup [.agg (Ev.row ⟨2, u, 0, 0, 0, 0, 0, t⟩), .bool true]) h) : Tri Pr R n_ref1_part [.agg (Ev.row ⟨2, u, s, ad, a, b, c, t⟩)] h K := by
  refine Tri.fn1 hR _ rfl rfl ?_ hk
  apply c_ref1_part
  unfold p_ref1_part
  simp -implicitDefEqProofs [Ev.row]
  repeat (first | refine joinP_go ?_ | simp -implicitDefEqProofs)
  exact Ans.rfl' _
theorem ref1_part_3 (hR : R.Ok) (u s ad a b c t : Int) {h : AHeap A} {K : AVal → AHeap A → Prop} (hk : K (.tup [.agg (Ev.row ⟨3, u, 0, 0, a, 0, 0, 0⟩), .bool true]) h) : Tri Pr R n_ref1_part [.agg (Ev.row ⟨3, u, s, ad, a, b, c, t⟩)] h K := by
  refine Tri.fn1 hR _ rfl rfl ?_ hk
  apply c_ref1_part
  unfold p_ref1_part
  simp -implicitDefEqProofs [Ev.row]
  repeat (first | refine joinP_go ?_ | simp -implicitDefEqProofs)
  exact Ans.rfl' _
theorem ref1_part_4 (hR : R.Ok) (u s ad a b c t : Int) {h : AHeap A} {K : AVal → AHeap A → Prop} (hk : K (.tup [.agg (Ev.row ⟨4, u, 0, 0, 0, 0, 0, 0⟩), .bool true]) h) : Tri Pr R n_ref1_part [.agg (Ev.row ⟨4, u, s, ad, a, b, c, t⟩)] h K := by
  refine Tri.fn1 hR _ rfl rfl ?_ hk
  apply c_ref1_part
  unfold p_ref1_part
  simp -implicitDefEqProofs [Ev.row]
  repeat (first | refine joinP_go ?_ | simp -implicitDefEqProofs)
  exact Ans.rfl' _
theorem ref1_part_5 (hR : R.Ok) (u s ad a b c t : Int) {h : AHeap A} {K : AVal → AHeap A → Prop} (hk : K (.tup [.agg (Ev.row ⟨5, u, s, ad, 0, 0, 0, t⟩), .bool true]) h) : Tri Pr R n_ref1_part [.agg (Ev.row ⟨5, u, s, ad, a, b, c, t⟩)] h K := by
  refine Tri.fn1 hR _ rfl rfl ?_ hk
  apply c_ref1_part
  unfold p_ref1_part
  simp -implicitDefEqProofs [Ev.row]
  repeat (first | refine joinP_go ?_ | simp -implicitDefEqProofs)
  exact Ans.rfl' _
theorem ref1_part_6 (hR : R.Ok) (u s ad a b c t : Int) {h : AHeap A} {K : AVal → AHeap A → Prop} (hk : K (.tup [.agg (Ev.row ⟨6, 0, s, 0, a, b, 0, t⟩), .bool true]) h) : Tri Pr R n_ref1_part [.agg (Ev.row ⟨6, u, s, ad, a, b, c, t⟩)] h K := by
  refine Tri.fn1 hR _ rfl rfl ?_ hk
  apply c_ref1_part
  unfold p_ref1_part
  simp -implicitDefEqProofs [Ev.row]
  repeat (first | refine joinP_go ?_ | simp -implicitDefEqProofs)
  exact Ans.rfl' _
theorem ref1_part_7 (hR : R.Ok) (u s ad a b c t : Int) {h : AHeap A} {K : AVal → AHeap A → Prop} (hk : K (.tup [.agg (Ev.row ⟨7, u, 0, 0, 0, 0, 0, 0⟩), .bool true]) h) : Tri Pr R n_ref1_part [.agg (Ev.row ⟨7, u, s, ad, a, b, c, t⟩)] h K := by
  refine Tri.fn1 hR _ rfl rfl ?_ hk
  apply c_ref1_part
  unfold p_ref1_part
  simp -implicitDefEqProofs [Ev.row]
  repeat (first | refine joinP_go ?_ | simp -implicitDefEqProofs)
  exact Ans.rfl' _
theorem ref1_part_8 (hR : R.Ok) (u s ad a b c t : Int) {h : AHeap A} {K : AVal → AHeap A → Prop} (hk : K (.tup [.agg (Ev.row ⟨8, 0, 0, 0, 0, 0, 0, 0⟩), .bool true]) h) : Tri Pr R n_ref1_part [.agg (Ev.row ⟨8, u, s, ad, a, b, c, t⟩)] h K := by
  refine Tri.fn1 hR _ rfl rfl ?_ hk
  apply c_ref1_part
  unfold p_ref1_part
  simp -implicitDefEqProofs [Ev.row]
  repeat (first | refine joinP_go ?_ | simp -implicitDefEqProofs)
  exact Ans.rfl' _
theorem ref1_part_9 (hR : R.Ok) (u s ad a b c t : Int) {h : AHeap A} {K : AVal → AHeap A → Prop} (hk : K (.tup [.agg (Ev.row ⟨9, 0, s, 0, 0, 0, 0, 0⟩), .bool true]) h) : Tri Pr R n_ref1_part [.agg (Ev.row ⟨9, u, s, ad, a, b, c, t⟩)] h K := by
  refine Tri.fn1 hR _ rfl rfl ?_ hk
  apply c_ref1_part
  unfold p_ref1_part
  simp -implicitDefEqProofs [Ev.row]
  repeat (first | refine joinP_go ?_ | simp -implicitDefEqProofs)
  exact Ans.rfl' _
theorem ref1_part_ok (hR : R.Ok) (e : Ev) {h : AHeap A} {K : AVal → AHeap A → Prop} (hk : if 0 ≤ e.kind ∧ e.kind ≤ 9 then K (.tup [.agg (evPlain e).row, .bool true]) h else ∀ f : Ev, K (.tup [.agg f.row, .bool false]) h) : Tri Pr R n_ref1_part [.agg e.row] h K := by
  obtain ⟨k, u, s, ad, a, b, c, t⟩ := e
  simp only at hk
  by_cases hc : 0 ≤ k ∧ k ≤ 9
  · rw [if_pos hc] at hk
    have hc2 : k = 0 ∨ k = 1 ∨ k = 2 ∨ k = 3 ∨ k = 4 ∨ k = 5 ∨ k = 6 ∨ k = 7 ∨ k = 8 ∨ k = 9 := by omega
    rcases hc2 with rfl | rfl | rfl | rfl | rfl | rfl | rfl | rfl | rfl | rfl
    · exact ref1_part_0 hR u s ad a b c t hk
    · exact ref1_part_1 hR u s ad a b c t hk
    · exact ref1_part_2 hR u s ad a b c t hk
    · exact ref1_part_3 hR u s ad a b c t hk
    · exact ref1_part_4 hR u s ad a b c t hk
    · exact ref1_part_5 hR u s ad a b c t hk
    · exact ref1_part_6 hR u s ad a b c t hk
    · exact ref1_part_7 hR u s ad a b c t hk
    · exact ref1_part_8 hR u s ad a b c t hk
    · exact ref1_part_9 hR u s ad a b c t hk
  · rw [if_neg hc] at hk
    have f0 : (k == 0) = false := by simp; omega
    have f1 : (k == 1) = false := by simp; omega
    have f2 : (k == 2) = false := by simp; omega
    have f3 : (k == 3) = false := by simp; omega
    have f4 : (k == 4) = false := by simp; omega
    have f5 : (k == 5) = false := by simp; omega
    have f6 : (k == 6) = false := by simp; omega
    have f7 : (k == 7) = false := by simp; omega
    have f8 : (k == 8) = false := by simp; omega
    have f9 : (k == 9) = false := by simp; omega
    refine Tri.fn1 hR _ rfl rfl ?_ (hk ⟨k, 0, 0, 0, 0, 0, 0, 0⟩)
    apply c_ref1_part
    unfold p_ref1_part
    simp -implicitDefEqProofs [Ev.row, f0, f1, f2, f3, f4, f5, f6, f7, f8, f9]
    repeat (first | refine joinP_go ?_ | simp -implicitDefEqProofs [f0, f1, f2, f3, f4, f5, f6, f7, f8, f9])
    exact Ans.rfl' _
theorem evMay_iff (e : Ev) : evMay e = true ↔ (0 ≤ e.kind ∧ e.kind ≤ 9) ∧ e = evPlain e ∧ (0 ≤ e.user ∧ e.user < 8) ∧ (0 ≤ e.address ∧ e.address < 16) ∧ (0 ≤ e.tick ∧ e.tick ≤ 1048575) ∧ nMay e.session = true ∧ nMay e.a = true ∧ nMay e.b = true ∧ (0 ≤ e.c ∧ e.c ≤ 1048576) ∧ (e.kind = 6 → e.b ≤ 4) := by
  obtain ⟨k, u, s, ad, a, b, c, t⟩ := e
  constructor
  · intro h
    have h1 := evMay_kind h
    have h2 := evMay_plain h
    have h3 := evMay_parts h
    have h4 : (k = 6 → b ≤ 4) ∧ u < 8 ∧ ad < 16 ∧ t ≤ 1048575 ∧ c ≤ 1048576 := by
      unfold evMay at h
      simp only [Bool.and_eq_true, Bool.not_eq_true', Bool.and_eq_false_iff, decide_eq_true_eq, decide_eq_false_iff_not] at h
      obtain ⟨⟨⟨⟨⟨⟨⟨_, a1⟩, _⟩, a2⟩, a3⟩, a4⟩, a5⟩, _⟩ := h
      refine ⟨fun hk => ?_, a2, a3, a4, a5⟩
      rcases a1 with a1 | a1 <;> omega
    simp only at h1
    have hc2 : k = 0 ∨ k = 1 ∨ k = 2 ∨ k = 3 ∨ k = 4 ∨ k = 5 ∨ k = 6 ∨ k = 7 ∨ k = 8 ∨ k = 9 := by omega
    refine ⟨h1, h2, ?_⟩
    rcases hc2 with rfl | rfl | rfl | rfl | rfl | rfl | rfl | rfl | rfl | rfl <;>
      (simp [evPlain, evParts, evOf, ev0] at h2 h3 ⊢; simp [nMay] at h3 ⊢; omega)
  · rintro ⟨h1, h2, h3, h4, h5, h6, h7, h8, h9, h10⟩
    simp only at h1 h3 h4 h5 h6 h7 h8 h9 h10
    unfold evMay
    rw [← h2]
    have hc2 : k = 0 ∨ k = 1 ∨ k = 2 ∨ k = 3 ∨ k = 4 ∨ k = 5 ∨ k = 6 ∨ k = 7 ∨ k = 8 ∨ k = 9 := by omega
    rcases hc2 with rfl | rfl | rfl | rfl | rfl | rfl | rfl | rfl | rfl | rfl <;>
      (simp [evParts]; simp [nMay] at h6 h7 h8 ⊢; omega)
theorem ref1_EventMay_ok (hR : R.Ok) (e : Ev) {h : AHeap A} {K : AVal → AHeap A → Prop} (hk : K (.bool (evMay e)) h) : Tri Pr R n_ref1_EventMay [.agg e.row] h K := by
  refine Tri.fn1 hR _ rfl rfl ?_ hk
  have no : evMay e = true → _ := (evMay_iff e).1
  have bad : ¬ (evMay e = true) → Ans (.bool (evMay e)) (.bool false) := fun h => Ans.of (by simp at h; rw [h])
  apply c_ref1_EventMay
  unfold p_ref1_EventMay
  simp -implicitDefEqProofs [Ev.row]
  refine ref1_part_ok hR e ?_
  by_cases c0 : 0 ≤ e.kind ∧ e.kind ≤ 9
  · rw [if_pos c0]
    have he := shEv (evPlain e) e
    simp only [Ev.row] at he
    by_cases c1 : evPlain e = e
    · have c1' : decide (evPlain e = e) = true := by simpa using c1
      simp -implicitDefEqProofs [Ev.row, he, c1']
      by_cases c2 : e.user < 0
      · simp -implicitDefEqProofs [c2]; exact bad fun h => by have := no h; omega
      by_cases c3 : 8 ≤ e.user
      · simp -implicitDefEqProofs [c2, c3]; exact bad fun h => by have := no h; omega
      by_cases c4 : e.address < 0
      · simp -implicitDefEqProofs [c2, c3, c4]; exact bad fun h => by have := no h; omega
      by_cases c5 : 16 ≤ e.address
      · simp -implicitDefEqProofs [c2, c3, c4, c5]; exact bad fun h => by have := no h; omega
      by_cases c6 : e.tick < 0
      · simp -implicitDefEqProofs [c2, c3, c4, c5, c6]; exact bad fun h => by have := no h; omega
      by_cases c7 : 1048575 < e.tick
      · simp -implicitDefEqProofs [c2, c3, c4, c5, c6, c7]; exact bad fun h => by have := no h; omega
      simp -implicitDefEqProofs [c2, c3, c4, c5, c6, c7]
      refine ref1_num_ok _ ?_
      cases c8 : nMay e.session with
      | false => simp -implicitDefEqProofs; exact bad fun h => by have := no h; simp [c8] at this
      | true =>
        simp -implicitDefEqProofs
        refine ref1_num_ok _ ?_
        cases c9 : nMay e.a with
        | false => simp -implicitDefEqProofs; exact bad fun h => by have := no h; simp [c9] at this
        | true =>
          simp -implicitDefEqProofs
          refine ref1_num_ok _ ?_
          cases c10 : nMay e.b with
          | false => simp -implicitDefEqProofs; exact bad fun h => by have := no h; simp [c10] at this
          | true =>
            simp -implicitDefEqProofs
            by_cases c11 : e.c < 0
            · simp -implicitDefEqProofs [c11]; exact bad fun h => by have := no h; omega
            by_cases c12 : 1048576 < e.c
            · simp -implicitDefEqProofs [c11, c12]; exact bad fun h => by have := no h; omega
            by_cases c13 : e.kind = 6
            · have c13' : (e.kind != 6) = false := by simp [c13]
              by_cases c14 : e.b ≤ 4
              · simp -implicitDefEqProofs [c11, c12, c13', c14]
                exact Ans.of (by rw [(evMay_iff e).2 ⟨c0, c1.symm, by omega, by omega, by omega, c8, c9, c10, by omega, fun _ => c14⟩])
              · simp -implicitDefEqProofs [c11, c12, c13', c14]; exact bad fun h => by have := no h; omega
            · have c13' : (e.kind != 6) = true := by simpa using c13
              simp -implicitDefEqProofs [c11, c12, c13']
              exact Ans.of (by rw [(evMay_iff e).2 ⟨c0, c1.symm, by omega, by omega, by omega, c8, c9, c10, by omega, fun h => absurd h c13⟩])
    · have c1' : decide (evPlain e = e) = false := by simpa using c1
      simp -implicitDefEqProofs [Ev.row, he, c1']
      exact bad fun h => c1 (no h).2.1.symm
  · rw [if_neg c0]
    intro f
    simp -implicitDefEqProofs [Ev.row]
    exact bad fun h => c0 (no h).1
end Go.AI

/- The document's states: copies, an event upon a state, all events. -/
set_option linter.all false
namespace Go.AI
variable {A : Type} {R : Adts A}
theorem ref20_CopyState_ok {sv : AVal} {s : Sta} (hs : IsSta sv s) (hle : StaLe s 2000000) {h : AHeap A} {K : AVal → AHeap A → Prop}
    (hk : ∀ xu xs xa xp g, OS g s xu xs xa xp → (∀ b, In4 xu xs xa xp b → h.length ≤ b) → Gr h g → K (.agg (sCells s xu xs xa xp)) g) : Tri Pr R n_ref20_CopyState [sv] h K := by
  obtain ⟨u, x, a, p, rfl, hu, hx, ha, hp⟩ := hs
  have su := hu.sc
  have sx := hx.sc
  have sa := ha.sc
  have sp := hp.sc
  obtain ⟨n1, n2, n3, n4⟩ := hle
  apply c_ref20_CopyState
  unfold p_ref20_CopyState
  simp -implicitDefEqProofs [su, sx, sa, sp, AObj.read]
  obtain ⟨h0, hh0⟩ : ∃ h0, h0 = h ++ [AObj.cells t_api_State [.int .i64 s.boots, .int .i64 s.epoch, .int .i64 s.next, u, x, a, p], .cells t_api_State [.int .i64 0, .int .i64 0, .int .i64 0, .nils, .nils, .nils, .nils]] := ⟨_, rfl⟩
  have l0 : h0.length = h.length + 2 := by rw [hh0]; simp
  have G0 : Gr h h0 := by rw [hh0]; exact Gr.app h _
  have b0 : h0[h.length]? = some (.cells t_api_State [.int .i64 s.boots, .int .i64 s.epoch, .int .i64 s.next, u, x, a, p]) := by rw [hh0, List.getElem?_append_right (Nat.le_refl _)]; simp
  have z0 : h0[h.length + 1]? = some (.cells t_api_State [.int .i64 0, .int .i64 0, .int .i64 0, .nils, .nils, .nils, .nils]) := by rw [hh0, List.getElem?_append_right (by omega)]; simp
  have e0 : h ++ [AObj.cells t_api_State [.int .i64 s.boots, .int .i64 s.epoch, .int .i64 s.next, u, x, a, p], .cells t_api_State [.int .i64 0, .int .i64 0, .int .i64 0, .nils, .nils, .nils, .nils], .cells t_api_User []] = h0 ++ [.cells t_api_User []] := by rw [hh0]; simp
  rw [e0, show h.length + 2 = h0.length from l0.symm]
  refine app_copy usrR (by decide) (hu.rd usrR _).src (by omega) fun u' g1 o1 b1 G1 => ?_
  have l1 := G1.l
  have d1 := G1.get b0
  have y1 := G1.get z0
  have s1 := o1.sc
  have t1 := sc_cs s1
  have r1 : ∀ o, (g1.set h.length o)[h.length]? = some o := fun o => List.getElem?_set_self (by omega)
  have r1' : ∀ o g, (g1.set h.length o ++ g)[h.length]? = some o := fun o g => by rw [List.getElem?_append_left (by simp; omega)]; exact r1 o
  simp -implicitDefEqProofs [d1, AObj.read, s1, t1, r1', sx]
  obtain ⟨h1, hh1⟩ : ∃ h1, h1 = g1.set h.length (.cells t_api_State [.int .i64 s.boots, .int .i64 s.epoch, .int .i64 s.next, u', x, a, p]) := ⟨_, rfl⟩
  have ll1 : h1.length = g1.length := by rw [hh1]; simp
  rw [← hh1, ← ll1]
  have f1 : h1[h.length]? = some (.cells t_api_State [.int .i64 s.boots, .int .i64 s.epoch, .int .i64 s.next, u', x, a, p]) := by rw [hh1]; exact r1 _
  have k1 : ∀ k, k ≠ h.length → h1[k]? = g1[k]? := fun k hk => by rw [hh1, List.getElem?_set_ne (Ne.symm hk)]
  have w1 := (k1 (h.length + 1) (by omega)).trans y1
  have ou1 : Own Usr.row 9 t_api_User u' s.users h1 := o1.move' fun b hb => k1 b (by have := b1 b hb; omega)
  have G01 : Gr h h1 := ⟨fun k hk => by rw [k1 k (by omega), G1.k k (by omega)]; exact G0.k k hk, by omega⟩
  refine app_copy sesR (by decide) (hx.rd sesR _).src (by omega) fun x' g2 o2 b2 G2 => ?_
  have l2 := G2.l
  have d2 := G2.get f1
  have y2 := G2.get w1
  have s2 := o2.sc
  have t2 := sc_cs s2
  have r2 : ∀ o, (g2.set h.length o)[h.length]? = some o := fun o => List.getElem?_set_self (by omega)
  have r2' : ∀ o g, (g2.set h.length o ++ g)[h.length]? = some o := fun o g => by rw [List.getElem?_append_left (by simp; omega)]; exact r2 o
  simp -implicitDefEqProofs [d2, AObj.read, s2, t2, r2', sa]
  obtain ⟨h2, hh2⟩ : ∃ h2, h2 = g2.set h.length (.cells t_api_State [.int .i64 s.boots, .int .i64 s.epoch, .int .i64 s.next, u', x', a, p]) := ⟨_, rfl⟩
  have ll2 : h2.length = g2.length := by rw [hh2]; simp
  rw [← hh2, ← ll2]
  have f2 : h2[h.length]? = some (.cells t_api_State [.int .i64 s.boots, .int .i64 s.epoch, .int .i64 s.next, u', x', a, p]) := by rw [hh2]; exact r2 _
  have k2 : ∀ k, k ≠ h.length → h2[k]? = g2[k]? := fun k hk => by rw [hh2, List.getElem?_set_ne (Ne.symm hk)]
  have w2 := (k2 (h.length + 1) (by omega)).trans y2
  have ou2 : Own Usr.row 9 t_api_User u' s.users h2 := (ou1.gr G2).move' fun b hb => k2 b (by have := b1 b hb; omega)
  have ox2 : Own Ses.row 4 t_api_Session x' s.sess h2 := o2.move' fun b hb => k2 b (by have := b2 b hb; omega)
  have G02 : Gr h h2 := ⟨fun k hk => by rw [k2 k (by omega), G2.k k (by omega)]; exact G01.k k hk, by omega⟩
  refine app_copy adrR (by decide) (ha.rd adrR _).src (by omega) fun a' g3 o3 b3 G3 => ?_
  have l3 := G3.l
  have d3 := G3.get f2
  have y3 := G3.get w2
  have s3 := o3.sc
  have t3 := sc_cs s3
  have r3 : ∀ o, (g3.set h.length o)[h.length]? = some o := fun o => List.getElem?_set_self (by omega)
  have r3' : ∀ o g, (g3.set h.length o ++ g)[h.length]? = some o := fun o g => by rw [List.getElem?_append_left (by simp; omega)]; exact r3 o
  simp -implicitDefEqProofs [d3, AObj.read, s3, t3, r3', sp]
  obtain ⟨h3, hh3⟩ : ∃ h3, h3 = g3.set h.length (.cells t_api_State [.int .i64 s.boots, .int .i64 s.epoch, .int .i64 s.next, u', x', a', p]) := ⟨_, rfl⟩
  have ll3 : h3.length = g3.length := by rw [hh3]; simp
  rw [← hh3, ← ll3]
  have f3 : h3[h.length]? = some (.cells t_api_State [.int .i64 s.boots, .int .i64 s.epoch, .int .i64 s.next, u', x', a', p]) := by rw [hh3]; exact r3 _
  have k3 : ∀ k, k ≠ h.length → h3[k]? = g3[k]? := fun k hk => by rw [hh3, List.getElem?_set_ne (Ne.symm hk)]
  have w3 := (k3 (h.length + 1) (by omega)).trans y3
  have ou3 : Own Usr.row 9 t_api_User u' s.users h3 := (ou2.gr G3).move' fun b hb => k3 b (by have := b1 b hb; omega)
  have ox3 : Own Ses.row 4 t_api_Session x' s.sess h3 := (ox2.gr G3).move' fun b hb => k3 b (by have := b2 b hb; omega)
  have oa3 : Own Adr.row 3 t_api_Address a' s.addrs h3 := o3.move' fun b hb => k3 b (by have := b3 b hb; omega)
  have G03 : Gr h h3 := ⟨fun k hk => by rw [k3 k (by omega), G3.k k (by omega)]; exact G02.k k hk, by omega⟩
  refine app_copy intR (by decide) (hp.rd intR _).src (by omega) fun p' g4 o4 b4 G4 => ?_
  have l4 := G4.l
  have d4 := G4.get f3
  have y4 := G4.get w3
  have s4 := o4.sc
  have t4 := sc_cs s4
  have r4 : ∀ o, (g4.set h.length o)[h.length]? = some o := fun o => List.getElem?_set_self (by omega)
  have r41 : ∀ o, (g4.set h.length o)[h.length + 1]? = g4[h.length + 1]? := fun o => List.getElem?_set_ne (by omega)
  have r42 : ∀ o o', ((g4.set h.length o).set (h.length + 1) o')[h.length + 1]? = some o' := fun o o' => List.getElem?_set_self (by simp; omega)
  simp -implicitDefEqProofs [d4, AObj.read, s1, s2, s3, s4, t4, r4, r41, y4, r42]
  have same : ∀ (o o' : AObj A) m, m ≠ h.length → m ≠ h.length + 1 → ((g4.set h.length o).set (h.length + 1) o')[m]? = g4[m]? := fun o o' m hm hm2 => by
    rw [List.getElem?_set_ne (Ne.symm hm2), List.getElem?_set_ne (Ne.symm hm)]
  refine hk u' x' a' p' _ ⟨?_, ?_, ?_, ?_⟩ (fun b hb => ?_) ⟨fun k hk => ?_, by simp; omega⟩
  · exact (ou3.gr G4).move' fun b hb => same _ _ b (by have := b1 b hb; omega) (by have := b1 b hb; omega)
  · exact (ox3.gr G4).move' fun b hb => same _ _ b (by have := b2 b hb; omega) (by have := b2 b hb; omega)
  · exact (oa3.gr G4).move' fun b hb => same _ _ b (by have := b3 b hb; omega) (by have := b3 b hb; omega)
  · exact o4.move' fun b hb => same _ _ b (by have := b4 b hb; omega) (by have := b4 b hb; omega)
  · rcases hb with h6 | h6 | h6 | h6
    · have := b1 b h6; omega
    · have := b2 b h6; omega
    · have := b3 b h6; omega
    · have := b4 b h6; omega
  · rw [same _ _ k (by omega) (by omega), G4.k k (by omega)]; exact G03.k k hk
end Go.AI

/- The document's states: an event upon a state. -/
set_option linter.all false
namespace Go.AI
variable {A : Type} {R : Adts A}
theorem Own.fzm {α : Type} {f : α → List AVal} {w : Nat} {t : TypeId} {x y : AVal} {l : List α} {h h1 : AHeap A} (hx : Own f w t x l h) (f1 : ∀ k e cs, y.blk ≠ some k → h[k]? = some (.cells e cs) → ixs 0 cs = true → h1[k]? = some (.cells e cs)) (ne : ∀ b, x.blk = some b → y.blk ≠ some b) : Own f w t x l h1 := by
  rcases hx with ⟨rfl, h0⟩ | ⟨b, cap, ex, cs, rfl, hb, hl, hc, ht, hix⟩
  · exact .inl ⟨rfl, h0⟩
  · exact .inr ⟨b, cap, ex, cs, rfl, f1 b _ cs (ne b rfl) hb hix, hl, hc, ht, hix⟩
theorem rsta_fz {s : Sta} {xu xs xa xp : AVal} {h : AHeap A} (O : OS h s xu xs xa xp) (er : Int) :
    Gives Pr R 0 h [.tup [.agg [.int .i64 s.boots, .int .i64 s.epoch, .int .i64 s.next, xu, xs, xa, xp], .int .i64 er]] fun vs _ => ∃ u, vs = [u] ∧ (∃ sv, u = .tup [sv, .int .i64 er] ∧ IsSta sv s) ∧ u.ix 0 = true := by
  have nu := ty_ne O.u O.a (by decide)
  have nx := ty_ne O.x O.a (by decide)
  have np := ty_ne O.p O.a (by decide)
  refine Gives.fzO adrR (V := fun v => [.tup [.agg [.int .i64 s.boots, .int .i64 s.epoch, .int .i64 s.next, xu, xs, v, xp], .int .i64 er]]) O.a (fun b hb blk base spare cs => ?_) (Nat.zero_le _) fun a' ha' h1 l1 f1 => ?_
  · have q1 : xu.blk ≠ some b := fun h9 => nu b h9 hb
    have q2 : xs.blk ≠ some b := fun h9 => nx b h9 hb
    have q3 : xp.blk ≠ some b := fun h9 => np b h9 hb
    simp [frzs, AVal.frz, O.u.frz q1, O.x.frz q2, O.p.frz q3]
  exact sta_fz (O.u.fzm f1 nu) (O.x.fzm f1 nx) ha' (O.p.fzm f1 np) (ty_ne O.u O.x (by decide)) (ty_ne O.u O.p (by decide)) (ty_ne O.x O.p (by decide)) er
def ApJ (o : Option Sta) (h4 : AHeap A) (vs : List AVal) (g : AHeap A) : Prop :=
  ∃ (q : Nat) (l : List AVal) (b : Bool), vs = [.ptr q 0, .bool b] ∧ g[q]? = some (.cells t_api_State l) ∧ 4 ≤ q ∧ (∀ k, k < 4 → g[k]? = h4[k]?) ∧ 4 ≤ g.length ∧
    ((b = false ∧ o = none ∧ l.length = 7) ∨ (b = true ∧ ∃ s xu xs xa xp, o = some s ∧ l = sCells s xu xs xa xp ∧ OS g s xu xs xa xp ∧ ∀ k, In4 xu xs xa xp k → 4 ≤ k ∧ k ≠ q))
/-- The answer is put into a box that stood, or into a new one. -/
theorem ApJ.box {I : Nat → Prop} {o : Option Sta} {h h4 : AHeap A} {q : Nat} (hq : h[q]? = some (.cells t_api_State [.int .i64 0, .int .i64 0, .int .i64 0, .nils, .nils, .nils, .nils])) (h4q : 4 ≤ q) (hqI : ¬ I q) (hI : ∀ k, I k → 4 ≤ k) (hk : ∀ k, k < 4 → h[k]? = h4[k]?) (hl : 4 ≤ h.length) :
    K4 I h o fun v g => extP v 0 fun v1 => extP v 1 fun v2 => stP 7 (.ptr q 0) v1 g fun h => ApJ o h4 [.ptr q 0, v2] h := by
  have q2 := (List.getElem?_eq_some_iff.1 hq).1
  refine ⟨fun ho l g hl hs F => ?_, fun s ho xu xs xa xp g O F hn => ?_⟩
  · have d := (F.k q q2 hqI).trans hq
    have ql := (List.getElem?_eq_some_iff.1 d).1
    have fl := F.l
    obtain ⟨x0, x1, x2, x3, x4, x5, x6, rfl⟩ := len_7 hl
    simp only [List.all_cons, List.all_nil, Bool.and_true, Bool.and_eq_true] at hs
    obtain ⟨a0, a1, a2, a3, a4, a5, a6⟩ := hs
    simp -implicitDefEqProofs [d, AObj.read, a0, a1, a2, a3, a4, a5, a6]
    refine ⟨q, _, false, rfl, List.getElem?_set_self ql, h4q, fun k hk4 => ?_, by simp; omega, .inl ⟨rfl, ho, rfl⟩⟩
    rw [List.getElem?_set_ne (by omega), F.k k (by omega) (fun h9 => by have := hI k h9; omega)]
    exact hk k hk4
  · have d := (F.k q q2 hqI).trans hq
    have ql := (List.getElem?_eq_some_iff.1 d).1
    have fl := F.l
    have s1 := O.u.sc
    have s2 := O.x.sc
    have s3 := O.a.sc
    have s4 := O.p.sc
    have hne : ∀ k, In4 xu xs xa xp k → 4 ≤ k ∧ k ≠ q := fun k hk => by
      rcases hn k hk with h8 | h8
      · exact ⟨hI k h8, fun h9 => hqI (h9 ▸ h8)⟩
      · exact ⟨by omega, by omega⟩
    have sc : sCells s xu xs xa xp = [.int .i64 s.boots, .int .i64 s.epoch, .int .i64 s.next, xu, xs, xa, xp] := rfl
    simp -implicitDefEqProofs [d, AObj.read, sc, s1, s2, s3, s4]
    refine ⟨q, _, true, rfl, List.getElem?_set_self ql, h4q, fun k hk4 => ?_, by simp; omega, .inr ⟨rfl, s, xu, xs, xa, xp, ho, rfl, O.move fun k hk => List.getElem?_set_ne (Ne.symm (hne k hk).2), hne⟩⟩
    rw [List.getElem?_set_ne (by omega), F.k k (by omega) (fun h9 => by have := hI k h9; omega)]
    exact hk k hk4
theorem ApJ.fresh {I : Nat → Prop} {o : Option Sta} {h h4 : AHeap A} (hI : ∀ k, I k → 4 ≤ k) (hk : ∀ k, k < 4 → h[k]? = h4[k]?) (hl : 4 ≤ h.length) :
    K4 I h o fun v g => extP v 0 fun v1 => extP v 1 fun v2 => stP 7 (.ptr g.length 0) v1 (g ++ [.cells t_api_State [.int .i64 0, .int .i64 0, .int .i64 0, .nils, .nils, .nils, .nils]]) fun h => ApJ o h4 [.ptr g.length 0, v2] h := by
  refine ⟨fun ho l g hl hs F => ?_, fun s ho xu xs xa xp g O F hn => ?_⟩
  · have fl := F.l
    obtain ⟨x0, x1, x2, x3, x4, x5, x6, rfl⟩ := len_7 hl
    simp only [List.all_cons, List.all_nil, Bool.and_true, Bool.and_eq_true] at hs
    obtain ⟨a0, a1, a2, a3, a4, a5, a6⟩ := hs
    simp -implicitDefEqProofs [AObj.read, a0, a1, a2, a3, a4, a5, a6]
    refine ⟨g.length, [x0, x1, x2, x3, x4, x5, x6], false, rfl, by simp, by omega, fun k hk4 => ?_, by simp; omega, .inl ⟨rfl, ho, rfl⟩⟩
    rw [List.getElem?_append_left (by omega), F.k k (by omega) (fun h9 => by have := hI k h9; omega)]
    exact hk k hk4
  · have fl := F.l
    have s1 := O.u.sc
    have s2 := O.x.sc
    have s3 := O.a.sc
    have s4 := O.p.sc
    have sc : sCells s xu xs xa xp = [.int .i64 s.boots, .int .i64 s.epoch, .int .i64 s.next, xu, xs, xa, xp] := rfl
    have hne : ∀ k, In4 xu xs xa xp k → 4 ≤ k ∧ k ≠ g.length := fun k hk => by
      have := O.lt hk
      rcases hn k hk with h8 | h8
      · exact ⟨hI k h8, by omega⟩
      · exact ⟨by omega, by omega⟩
    simp -implicitDefEqProofs [AObj.read, sc, s1, s2, s3, s4]
    refine ⟨g.length, sCells s xu xs xa xp, true, rfl, by simp [sc], by omega, fun k hk4 => ?_, by simp; omega, .inr ⟨rfl, s, xu, xs, xa, xp, ho, rfl, O.move fun k hk => List.getElem?_append_left (O.lt hk), hne⟩⟩
    rw [List.getElem?_append_left (by omega), F.k k (by omega) (fun h9 => by have := hI k h9; omega)]
    exact hk k hk4
theorem ref20_Apply_ok (hR : R.Ok) (C : Cfg) {sv : AVal} {s : Sta} (hsv : IsSta sv s) (hle : StaLe s 2000000) (hs : StaIn s) (E : Ev) {h : AHeap A} {K : AVal → AHeap A → Prop} (hk : ∀ sv', IsSta sv' (sApply C s E).1 → K (.tup [sv', .int .i64 (sApply C s E).2]) h) : Tri Pr R n_ref20_Apply [.agg C.row, sv, .agg E.row] h K := by
  have hix := hsv.ix
  refine Tri.fzfn hR (fun v => ∃ sv', v = .tup [sv', .int .i64 (sApply C s E).2] ∧ IsSta sv' (sApply C s E).1) (by simp [ixs, hix, AVal.ix, Cfg.row, Ev.row]) ?_ (by rintro v ⟨sv', rfl, h1⟩ _; exact hk sv' h1)
  have hsv0 := hsv
  obtain ⟨u, x, a, p, rfl, hu, hx, ha, hp⟩ := hsv
  have su := hu.sc
  have sx := hx.sc
  have sa := ha.sc
  have sp := hp.sc
  have no0 : sMay C s E = false → ∀ g : AHeap A, Gives Pr R 0 g [.tup [.agg [.int .i64 0, .int .i64 0, .int .i64 0, .nils, .nils, .nils, .nils], .int .i64 2000]] fun vs _ => ∃ u, vs = [u] ∧ (∃ sv', u = .tup [sv', .int .i64 (sApply C s E).2] ∧ IsSta sv' (sApply C s E).1) ∧ u.ix 0 = true := by
    intro hno g
    have : sApply C s E = (sta0, 2000) := by unfold sApply; rw [hno]; rfl
    rw [this]
    exact Gives.done (Nat.zero_le _) ⟨_, rfl, ⟨_, rfl, sta0_is⟩, rfl⟩
  apply c_ref20_Apply
  unfold p_ref20_Apply
  have rc : Cfg.row C = [.int .i64 C.sectors, .int .i64 C.halves, .int .i64 C.sessions, .int .i64 C.addresses, .int .i64 C.fails, .int .i64 C.lockout, .int .i64 C.halfLife, .int .i64 C.idle, .int .i64 C.absolute, .int .i64 C.quarantine, .int .i64 C.ticketLife, .int .i64 C.keep] := rfl
  have re : Ev.row E = [.int .i64 E.kind, .int .i64 E.user, .int .i64 E.session, .int .i64 E.address, .int .i64 E.a, .int .i64 E.b, .int .i64 E.c, .int .i64 E.tick] := rfl
  have la := (ha.rd adrR ([] : AHeap A)).len
  simp -implicitDefEqProofs [rc, re, su, sx, sa, sp, AObj.read]
  refine ref20_ConfigMay_ok hR C ?_
  by_cases h1 : cMay C = true
  case neg =>
    have h1' : cMay C = false := by simpa using h1
    rw [h1']
    simp -implicitDefEqProofs [AObj.read]
    exact no0 (by unfold sMay; rw [h1']; rfl) _
  rw [h1]
  simp -implicitDefEqProofs [AObj.read]
  refine ref1_EventMay_ok hR E ?_
  by_cases h2 : evMay E = true
  case neg =>
    have h2' : evMay E = false := by simpa using h2
    rw [h2']
    simp -implicitDefEqProofs [AObj.read]
    exact no0 (by unfold sMay; rw [h1, h2']; rfl) _
  rw [h2]
  by_cases h3 : (s.addrs.length : Int) = C.addresses
  case neg =>
    have h3' : ((s.addrs.length : Int) != C.addresses) = true := by simpa using h3
    simp -implicitDefEqProofs [la, h3', AObj.read]
    exact no0 (by unfold sMay; rw [h1, h2]; simpa using h3) _
  have h3' : ((s.addrs.length : Int) != C.addresses) = false := by simpa using h3
  have hmay : sMay C s E = true := by unfold sMay; rw [h1, h2]; simpa using h3
  have hq : 1 ≤ C.quarantine ∧ C.quarantine ≤ 65536 := by
    simp only [cMay, life, Bool.and_eq_true, decide_eq_true_eq] at h1; omega
  simp -implicitDefEqProofs [la, h3', AObj.read]
  obtain ⟨h4, hh4⟩ : ∃ h4 : AHeap A, h4 = [.cells t_api_Config C.row, .cells t_api_State [.int .i64 s.boots, .int .i64 s.epoch, .int .i64 s.next, u, x, a, p], .cells t_api_Event E.row, .cells t_api_State [.int .i64 0, .int .i64 0, .int .i64 0, .nils, .nils, .nils, .nils]] := ⟨_, rfl⟩
  have l4 : h4.length = 4 := by rw [hh4]; rfl
  refine joinP_all (ApJ (sDoes C s E) h4) ?_ ?_
  · have fin : ∀ xu xs xa xp (g1 : AHeap A), (∀ b, In4 xu xs xa xp b → 4 ≤ b) → (∀ k, k < 4 → g1[k]? = h4[k]?) → 4 ≤ g1.length →
        (g1[0]? = some (.cells t_api_Config C.row)) ∧ (g1[2]? = some (.cells t_api_Event E.row)) := fun xu xs xa xp g1 _ hk _ => ⟨by rw [hk 0 (by omega), hh4]; rfl, by rw [hk 2 (by omega), hh4]; rfl⟩
    rw [← rc, ← re]
    have z : h4 = [.cells t_api_Config C.row, .cells t_api_State [.int .i64 s.boots, .int .i64 s.epoch, .int .i64 s.next, u, x, a, p], .cells t_api_Event E.row, .cells t_api_State [.int .i64 0, .int .i64 0, .int .i64 0, .nils, .nils, .nils, .nils]] := hh4
    refine ⟨?_, ?_⟩
    · rw [← z]
      refine ref20_CopyState_ok hsv0 hle fun xu xs xa xp g1 O1 b1 G1 => ?_
      rw [l4] at b1
      have g1l := G1.l
      have k4 : ∀ k, k < 4 → g1[k]? = h4[k]? := fun k hk => G1.k k (by omega)
      obtain ⟨e0, e2⟩ := fin xu xs xa xp g1 b1 k4 (by omega)
      have e2a : (g1 ++ [.cells t_api_State [.int .i64 0, .int .i64 0, .int .i64 0, .nils, .nils, .nils, .nils]] : AHeap A)[2]? = some (.cells t_api_Event E.row) := get_app e2
      have e0a : (g1 ++ [.cells t_api_State [.int .i64 0, .int .i64 0, .int .i64 0, .nils, .nils, .nils, .nils]] : AHeap A)[0]? = some (.cells t_api_Config C.row) := get_app e0
      obtain ⟨_, e0b⟩ := List.getElem?_eq_some_iff.1 e0a
      refine ⟨by rw [e2]; simp [AObj.read, re], by rw [e0]; simp [AObj.read, rc], ?_, by rw [e2a]; simp [AObj.read, re], by rw [e0b]; simp [rc], ?_⟩
      · exact ref20_applied_ok hR C E O1 hle (evIn h2) hq hs (ApJ.fresh b1 k4 (by omega))
      · have O2 := O1.gr (Gr.app g1 [AObj.cells t_api_State [.int .i64 0, .int .i64 0, .int .i64 0, .nils, .nils, .nils, .nils]])
        exact ref20_applied_ok hR C E O2 hle (evIn h2) hq hs (ApJ.box (by simp) (by omega) (fun h9 => by have := O1.lt h9; omega) b1 (fun k hk => by rw [List.getElem?_append_left (by omega)]; exact k4 k hk) (by simp; omega))
    · refine ref20_CopyState_ok hsv0 hle fun xu xs xa xp g1 O1 b1 G1 => ?_
      simp only [List.length_cons, List.length_nil] at b1
      have g1l := G1.l
      simp only [List.length_cons, List.length_nil] at g1l
      have k4 : ∀ k, k < 4 → g1[k]? = h4[k]? := fun k hk => by
        rw [G1.k k (by simp; omega), hh4]
        match k, hk with
        | 0, _ => rfl
        | 1, _ => rfl
        | 2, _ => rfl
        | 3, _ => rfl
      obtain ⟨e0, e2⟩ := fin xu xs xa xp g1 (fun b hb => by have := b1 b hb; omega) k4 (by omega)
      refine ⟨by rw [e2]; simp [AObj.read, re], by rw [e0]; simp [AObj.read, rc], ?_⟩
      exact ref20_applied_ok hR C E O1 hle (evIn h2) hq hs (ApJ.box (G1.get rfl) (by omega) (fun h9 => by have := b1 4 h9; omega) (fun k hk => by have := b1 k hk; omega) k4 (by omega))
  · rintro _ g ⟨q, l, b, rfl, hqg, h4q, kg, lg, cond⟩
    refine ⟨by simpa using lg, ?_⟩
    have e3 : g[3]? = some (.cells t_api_State [.int .i64 0, .int .i64 0, .int .i64 0, .nils, .nils, .nils, .nils]) := by rw [kg 3 (by omega), hh4]; rfl
    have r3 : ∀ o, (g.set 3 o)[3]? = some o := fun o => List.getElem?_set_self (by omega)
    rcases cond with ⟨rfl, ho, hl⟩ | ⟨rfl, s', xu, xs, xa, xp, ho, rfl, O', hne⟩
    · have : sApply C s E = (sta0, 2001) := by unfold sApply; rw [hmay, if_pos rfl, ho]
      simp -implicitDefEqProofs [e3, AObj.read, r3]
      rw [this]
      exact Gives.done (Nat.zero_le _) ⟨_, rfl, ⟨_, rfl, sta0_is⟩, rfl⟩
    · have : sApply C s E = (s', 0) := by unfold sApply; rw [hmay, if_pos rfl, ho]
      have s1 := O'.u.sc
      have s2 := O'.x.sc
      have s3 := O'.a.sc
      have s4 := O'.p.sc
      unfold sCells at hqg
      simp -implicitDefEqProofs [e3, hqg, AObj.read, s1, s2, s3, s4, r3]
      rw [this]
      exact rsta_fz (O'.move fun k hk => List.getElem?_set_ne (by have := (hne k hk).1; omega)) 0
end Go.AI

/- The document's states: new pools, new states. -/
set_option linter.all false
namespace Go.AI
variable {A : Type} {R : Adts A}
def NpI (n : Int) (h : AHeap A) (mm : Nat) (y : List AVal) (g : AHeap A) : Prop :=
  ∃ (i : Nat) (av : AVal), y = [av, .int .i64 i] ∧ (i : Int) ≤ n ∧ Own Adr.row 3 t_api_Address av (List.replicate i ⟨false, -1, 0⟩) g ∧ (∀ b, av.blk = some b → h.length ≤ b) ∧ Gr h g ∧ mm = n.toNat - i
theorem ref12_NewPool_ok (n : Int) {h : AHeap A} {K : AVal → AHeap A → Prop} (hk : oAns Adr.row 3 t_api_Address 1600 (pNew n) h K) : Tri Pr R n_ref12_NewPool [.int .i64 n] h K := by
  apply c_ref12_NewPool
  unfold p_ref12_NewPool
  by_cases h1 : n < 1
  · have : pNew n = none := by unfold pNew; rw [if_neg (by omega)]
    rw [this] at hk
    simp -implicitDefEqProofs [h1]
    exact hk h (Gr.refl h)
  by_cases h2 : n > 16
  · have : pNew n = none := by unfold pNew; rw [if_neg (by omega)]
    rw [this] at hk
    simp -implicitDefEqProofs [h1, h2]
    exact hk h (Gr.refl h)
  have : pNew n = some (List.replicate n.toNat ⟨false, -1, 0⟩) := by unfold pNew; rw [if_pos (by omega)]
  rw [this] at hk
  simp -implicitDefEqProofs [h1, h2]
  refine loopP_go (NpI n h) n.toNat (Gives.done (Nat.le_refl _) ⟨0, .nils, rfl, by omega, Own.nil, fun b hb => by simp [AVal.blk] at hb, Gr.refl h, by omega⟩) ?_
  rintro mm y g ⟨i, av, rfl, hi, ov, ovb, G, rfl⟩
  have wi := w64 (n := (i : Int) + 1) (by omega)
  by_cases h3 : (i : Int) < n
  · simp -implicitDefEqProofs [h3, wi]
    refine app_one adrR ov (by decide) ⟨false, -1, 0⟩ (by simp; omega) fun a' h' q1 q2 q3 q4 => ?_
    have gl := G.l
    refine Gives.done (by omega) ⟨n.toNat - (i + 1), by omega, i + 1, a', by simp, by omega, by rw [List.replicate_succ']; exact q1, fun b hb => ?_, ⟨fun k hk => ?_, by omega⟩, rfl⟩
    · rcases q4 b hb with h9 | h9
      · exact ovb b h9
      · omega
    · rw [q2 k (by omega) (fun h9 => by have := ovb k h9; omega)]; exact G.k k hk
  · have hie : i = n.toNat := by omega
    simp -implicitDefEqProofs [h3]
    rw [hie] at ov
    exact hk av g ov ovb G
def NsQ (n : Int) (v : AVal) : Prop := (sNew n = none ∧ v = .tup [.agg [.int .i64 0, .int .i64 0, .int .i64 0, .nils, .nils, .nils, .nils], .int .i64 2000]) ∨ ∃ S sv, sNew n = some S ∧ IsSta sv S ∧ v = .tup [sv, .int .i64 0]
theorem ref20_NewState_ok (hR : R.Ok) (n : Int) {h : AHeap A} {K : AVal → AHeap A → Prop} (hk0 : sNew n = none → K (.tup [.agg [.int .i64 0, .int .i64 0, .int .i64 0, .nils, .nils, .nils, .nils], .int .i64 2000]) h)
    (hk1 : ∀ S sv, sNew n = some S → IsSta sv S → K (.tup [sv, .int .i64 0]) h) : Tri Pr R n_ref20_NewState [.int .i64 n] h K := by
  refine Tri.fzfn hR (NsQ n) rfl ?_ (by
    rintro v (⟨h1, rfl⟩ | ⟨S, sv, h1, h2, rfl⟩) _
    · exact hk0 h1
    · exact hk1 S sv h1 h2)
  apply c_ref20_NewState
  unfold p_ref20_NewState
  simp -implicitDefEqProofs
  refine ref12_NewPool_ok n ?_
  cases hp : pNew n with
  | none =>
    intro g G
    have e0 := G.get (k := 0) (o := .cells t_api_State [.int .i64 0, .int .i64 0, .int .i64 0, .nils, .nils, .nils, .nils]) rfl
    have r0 : ∀ o, (g.set 0 o)[0]? = some o := fun o => List.getElem?_set_self (by have := G.l; simp at this; omega)
    simp -implicitDefEqProofs [e0, AObj.read, r0]
    exact Gives.done (Nat.zero_le _) ⟨_, rfl, .inl ⟨by unfold sNew; rw [hp]; rfl, rfl⟩, rfl⟩
  | some ps =>
    intro x g o b G
    have e0 := G.get (k := 0) (o := .cells t_api_State [.int .i64 0, .int .i64 0, .int .i64 0, .nils, .nils, .nils, .nils]) rfl
    have r0 : ∀ o, (g.set 0 o)[0]? = some o := fun o => List.getElem?_set_self (by have := G.l; simp at this; omega)
    have sx := o.sc
    have cx := sc_cs sx
    simp -implicitDefEqProofs [e0, AObj.read, r0, sx, cx]
    have o' := o.move' (h' := g.set 0 (.cells t_api_State [.int .i64 0, .int .i64 0, .int .i64 0, .nils, .nils, x, .nils])) fun k hk => List.getElem?_set_ne (by have := b k hk; simp at this; omega)
    refine Gives.fzO adrR (V := fun v => [.tup [.agg [.int .i64 0, .int .i64 0, .int .i64 0, .nils, .nils, v, .nils], .int .i64 0]]) o' (fun b hb blk base spare cs => rfl) (Nat.zero_le _) fun a' ha' h1 l1 f1 => ?_
    have hS : sNew n = some { sta0 with addrs := ps } := by unfold sNew; rw [hp]; rfl
    have hI : IsSta (.agg [.int .i64 0, .int .i64 0, .int .i64 0, .nils, .nils, a', .nils]) { sta0 with addrs := ps } := ⟨_, _, _, _, rfl, IsFz.nil, IsFz.nil, ha', IsFz.nil⟩
    have hix : (AVal.tup [.agg [.int .i64 0, .int .i64 0, .int .i64 0, .nils, .nils, a', .nils], .int .i64 0]).ix 0 = true := by simp [AVal.ix, ixs, ha'.ix0]
    refine Gives.done (Nat.zero_le _) ?_
    exact ⟨_, rfl, Or.inr ⟨_, _, hS, hI, rfl⟩, hix⟩
end Go.AI

/- Audits: the walk over events. -/
set_option linter.all false
namespace Go.AI
variable {A : Type} {R : Adts A}
theorem IsSta.list {sv : AVal} {S : Sta} (h : IsSta sv S) : ∃ l, sv = .agg l ∧ l.length = 7 ∧ l.all AVal.scalar = true ∧ ixs 0 l = true := by
  have hi := h.ix
  obtain ⟨u, x, a, p, rfl, h1, h2, h3, h4⟩ := h
  refine ⟨_, rfl, rfl, ?_, hi⟩
  simp [h1.sc, h2.sc, h3.sc, h4.sc]
def zSta : List AVal := [.int .i64 0, .int .i64 0, .int .i64 0, .nils, .nils, .nils, .nils]
/-- The loop's state. -/
structure WI {σ : Type} (C : Cfg) (Inv : σ → (Nat → Prop) → AHeap A → Prop) (step : σ → Ev → Sta → Sta → σ) (Bd : σ → Nat → Prop) (es : List Ev) (h : AHeap A) (s0 : σ) (O0 : Nat → Prop) (i : Nat) (s : σ) (O : Nat → Prop) (S : Sta) (sv : List AVal) (g : AHeap A) : Prop where
  il : i ≤ es.length
  inv : Inv s O g
  fr : ∀ k, k < h.length → ¬ O0 k → g[k]? = h[k]?
  ow : ∀ k, O k → O0 k ∨ h.length + 3 ≤ k
  g0 : g[h.length]? = some (.cells t_api_Config C.row)
  g1 : g[h.length + 1]? = some (.cells t_api_State zSta)
  g2 : g[h.length + 2]? = some (.cells t_api_State sv)
  st : IsSta (.agg sv) S
  le : StaLe S (16 + i)
  ok : StaIn S
  run : wRun C step s S (es.drop i) = wAll C step s0 es
  len : h.length + 3 ≤ g.length
  bd : Bd s i
theorem StaLe.mono {S : Sta} {n m : Nat} (h : StaLe S n) (hm : n ≤ m) : StaLe S m := ⟨by have := h.u; omega, by have := h.x; omega, by have := h.a; omega, by have := h.p; omega⟩
def WJ {σ : Type} (C : Cfg) (Inv : σ → (Nat → Prop) → AHeap A → Prop) (step : σ → Ev → Sta → Sta → σ) (Bd : σ → Nat → Prop) (es : List Ev) (h : AHeap A) (s0 : σ) (O0 : Nat → Prop) (mm : Nat) (y : List AVal) (g : AHeap A) : Prop :=
  ∃ (i : Nat) (s : σ) (O : Nat → Prop) (S : Sta) (sv : List AVal), y = [.int .i64 i] ∧ WI C Inv step Bd es h s0 O0 i s O S sv g ∧ mm = es.length - i
def WK (C : Cfg) (S : Sta) (E : Ev) (g : AHeap A) (vs : List AVal) (g2 : AHeap A) : Prop :=
  ∃ l, vs = [.ptr g.length 0, .int .i64 (sApply C S E).2] ∧ g2 = g ++ [.cells t_api_State l] ∧ IsSta (.agg l) (sApply C S E).1
theorem audit_walk_ok (hR : R.Ok) {σ : Type} {Inv : σ → (Nat → Prop) → AHeap A → Prop} (hI : Seer A Inv) (C : Cfg) {step : σ → Ev → Sta → Sta → σ} {f : FuncId} {cap : List AVal} {es : List Ev} {Bd : σ → Nat → Prop} (hsee : Sees Pr R C Inv step Bd f cap es) (ho : callOk Pr f = true) {a1 : AVal} {h : AHeap A} {s0 : σ} {O0 : Nat → Prop} (hi : Inv s0 O0 h) (hb0 : Bd s0 0) (hb1 : ∀ s i E S T, Bd s i → Bd (step s E S T) (i + 1))
    (hrd : ∀ g : AHeap A, (∀ k, k < h.length → ¬ O0 k → g[k]? = h[k]?) → RdS Ev.row 8 a1 es g) (hn : es.length ≤ 1048576) {K : AVal → AHeap A → Prop}
    (hk1 : ∀ s S sv O g, wAll C step s0 es = some (s, S) → IsSta sv S → StaLe S 2000000 → Inv s O g → (∀ k, k < h.length → ¬ O0 k → g[k]? = h[k]?) → h.length ≤ g.length → (∀ k, O k → O0 k ∨ h.length ≤ k) → K (.tup [sv, .nili]) g)
    (hk0 : wAll C step s0 es = none → ∀ (i er : Int) (r : Nat) (g : AHeap A), er = 2000 ∨ er = 2001 → g[r]? = some (.cells t_audit_refused [.int .i64 i, .iface t_api_Errno (.int .i64 er)]) → (∀ k, k < h.length → ¬ O0 k → g[k]? = h[k]?) → h.length ≤ g.length → K (.tup [.agg zSta, .iface t_p_audit_refused (.ptr r 0)]) g) :
    Tri Pr R n_audit_walk [.agg C.row, a1, .fn (.func f) [] cap] h K := by
  have rc : Cfg.row C = [.int .i64 C.sectors, .int .i64 C.halves, .int .i64 C.sessions, .int .i64 C.addresses, .int .i64 C.fails, .int .i64 C.lockout, .int .i64 C.halfLife, .int .i64 C.idle, .int .i64 C.absolute, .int .i64 C.quarantine, .int .i64 C.ticketLife, .int .i64 C.keep] := rfl
  apply c_audit_walk
  unfold p_audit_walk
  simp -implicitDefEqProofs [rc]
  refine state_New_ok hR _ (fun hnew => ?_) (fun S0 sv0 hnew hsv0 => ?_)
  · simp -implicitDefEqProofs [mkiP]
    refine hk0 (by unfold wAll; rw [hnew]) 0 2000 (h.length + 3) _ (.inl rfl) (by simp) (fun k hk hO => ?_) (by simp)
    rw [List.getElem?_append_left hk]
  obtain ⟨l0, rfl, ll0, ls0, li0⟩ := hsv0.list
  have rd0 := hrd h (fun _ _ _ => rfl)
  simp -implicitDefEqProofs [ll0, ls0, rd0.len]
  have n0 := sNew_in hnew
  refine loopP_go (WJ C Inv step Bd es h s0 O0) es.length (Gives.done (Nat.le_refl _) ⟨0, s0, O0, S0, l0, rfl, ⟨by omega, hI.move _ _ _ _ hi fun k hk => List.getElem?_append_left (hI.lt _ _ _ k hi hk), fun k hk _ => List.getElem?_append_left hk, fun k hk => .inl hk, ?_, ?_, ?_, hsv0, n0.1, n0.2, ?_, ?_, hb0⟩, by omega⟩) ?_
  · rw [List.getElem?_append_right (Nat.le_refl _), rc]; simp
  · rw [List.getElem?_append_right (by omega)]; simp [zSta]
  · rw [List.getElem?_append_right (by omega)]; simp
  · unfold wAll; rw [hnew]; rfl
  · simp
  rintro mm y g ⟨i, s, O, S, sv, rfl, W, rfl⟩
  have hil := W.il
  have nO : ∀ k, h.length ≤ k → k < h.length + 3 → ¬ O k := fun k h1 h2 h3 => by
    rcases W.ow k h3 with h4 | h4
    · have := hI.lt _ _ _ k hi h4; omega
    · omega
  have hrdg : ∀ g' : AHeap A, (∀ k, k < g.length → ¬ O k → g'[k]? = g[k]?) → RdS Ev.row 8 a1 es g' := fun g' hg' => hrd g' fun k hk hO => by
    have hlen := W.len
    refine (hg' k (by omega) fun h1 => ?_).trans (W.fr k hk hO)
    rcases W.ow k h1 with h4 | h4
    · exact hO h4
    · omega
  obtain ⟨lv, hlv, ll, lsc, lix⟩ := W.st.list
  obtain rfl : sv = lv := by simpa using hlv
  have hg0 := W.g0
  have hg1 := W.g1
  have hg2 := W.g2
  have hlen := W.len
  rw [rc] at hg0
  by_cases h1 : i < es.length
  · have hdr : es.drop i = es[i] :: es.drop (i + 1) := List.drop_eq_getElem_cons h1
    obtain ⟨pe, hpe, hate⟩ := (hrdg g fun _ _ _ => rfl).get i h1
    have hall : ldV 8 true pe g = some (.agg es[i].row) := hate.all
    have le1 : StaLe S 2000000 := W.le.mono (by omega)
    have hrun := W.run
    rw [hdr] at hrun
    simp -implicitDefEqProofs [h1]
    refine joinP_all (WK C S es[i] g) ?_ ?_
    · have g0a : (g ++ [.cells t_api_State [.int .i64 0, .int .i64 0, .int .i64 0, .nils, .nils, .nils, .nils]] : AHeap A)[h.length]? = _ := get_app hg0
      have g2a : (g ++ [.cells t_api_State [.int .i64 0, .int .i64 0, .int .i64 0, .nils, .nils, .nils, .nils]] : AHeap A)[h.length + 2]? = _ := get_app hg2
      have hall2 : ldV 8 true pe (g ++ [.cells t_api_State [.int .i64 0, .int .i64 0, .int .i64 0, .nils, .nils, .nils, .nils]]) = some (.agg es[i].row) := by
        obtain ⟨p', hp', ha'⟩ := (hrdg (g ++ [.cells t_api_State [.int .i64 0, .int .i64 0, .int .i64 0, .nils, .nils, .nils, .nils]]) fun k hk _ => List.getElem?_append_left hk).get i h1
        obtain rfl := idx_uniq hp' hpe
        exact ha'.all
      have tk : sv.take 7 = sv := List.take_of_length_le (by omega)
      simp -implicitDefEqProofs [hpe, hg0, hg2, hall, AObj.read, g0a, g2a, hall2, ll, tk]
      refine ⟨?_, ?_⟩
      · refine state_Apply_ok hR C W.st le1 W.ok es[i] fun sv' hsv' => ?_
        obtain ⟨l', rfl, q1, q2, q3⟩ := hsv'.list
        simp -implicitDefEqProofs [q1, q2]
        exact ⟨l', rfl, rfl, hsv'⟩
      · refine state_Apply_ok hR C W.st le1 W.ok es[i] fun sv' hsv' => ?_
        obtain ⟨l', rfl, q1, q2, q3⟩ := hsv'.list
        simp -implicitDefEqProofs [q1, q2]
        exact ⟨l', rfl, rfl, hsv'⟩
    · rintro _ _ ⟨l', rfl, rfl, hsv'⟩
      refine ⟨by simp, ?_⟩
      by_cases he : (sApply C S es[i]).2 = 0
      · have T1 := sDoes_keeps (sApply_ok he).1 W.le W.ok (evIn (sApply_ok he).2.1)
        have hg2' : (g ++ [.cells t_api_State l'] : AHeap A)[h.length + 2]? = _ := get_app hg2
        have hG : (g ++ [.cells t_api_State l'] : AHeap A)[g.length]? = some (.cells t_api_State l') := by simp
        have kp1 : ∀ k, k < g.length → (g ++ [.cells t_api_State l'] : AHeap A)[k]? = g[k]? := fun k hk => List.getElem?_append_left hk
        have ln1 : (g ++ [.cells t_api_State l'] : AHeap A).length = g.length + 1 := by simp
        have inv1 := hI.move _ _ _ (g ++ [.cells t_api_State l'] : AHeap A) W.inv fun k hk => kp1 k (hI.lt _ _ _ k W.inv hk)
        obtain ⟨g5, hg5⟩ : ∃ g5, g5 = (g ++ [.cells t_api_State l'] : AHeap A) ++ [.cells t_audit_seen [.int .i64 i, pe, .ptr (h.length + 2) 0, .ptr g.length 0]] := ⟨_, rfl⟩
        have kp5 : ∀ k, k < g.length → g5[k]? = g[k]? := fun k hk => by rw [hg5, List.getElem?_append_left (by omega)]; exact kp1 k hk
        have ln5 : g5.length = g.length + 2 := by rw [hg5, List.length_append, ln1]; rfl
        have inv5 : Inv s O g5 := hI.move _ _ _ _ W.inv fun k hk => kp5 k (hI.lt _ _ _ k W.inv hk)
        have seen : Seen C g5 O (g.length + 1) pe (h.length + 2) g.length es[i] S (sApply C S es[i]).1 := by
          refine ⟨⟨i, by rw [hg5, List.getElem?_append_right (by omega), ln1]; simp⟩, fun h2 => by have := hI.lt _ _ _ _ W.inv h2; omega, fun g' hg' => ?_, ⟨sv, W.st, (kp5 _ (by omega)).trans hg2⟩, nO _ (by omega) (by omega), ⟨l', hsv', ?_⟩, fun h2 => by have := hI.lt _ _ _ _ W.inv h2; omega, ⟨he, rfl⟩, ⟨le1, W.ok⟩, ⟨T1.1.mono (by omega), T1.2⟩⟩
          · obtain ⟨p', hp', ha'⟩ := (hrdg g' fun k hk hO => (hg' k (by omega) hO).trans (kp5 k hk)).get i h1
            obtain rfl := idx_uniq hp' hpe
            exact ha'
          · rw [hg5, List.getElem?_append_left (by omega)]; exact hG
        have pe' : ∀ K, idxP 8 a1 (.int .i64 i) K = K pe := hpe
        have spe := hate.sc
        have cpe := sc_cs spe
        have e1 := w64 (n := (i : Int) + 1) (by omega)
        simp -implicitDefEqProofs [he, pe', spe, cpe]
        rw [show (g ++ [.cells t_api_State l', .cells t_audit_seen [.int .i64 i, pe, .ptr (h.length + 2) 0, .ptr g.length 0]] : AHeap A) = g5 by rw [hg5]; simp]
        with_reducible refine dynP_go ho ?_
        refine hsee s O g5 (g.length + 1) pe (h.length + 2) g.length es[i] S _ _ (List.getElem_mem h1) ⟨i, h1, W.bd⟩ inv5 seen fun O' g6 inv6 f6 l6 o6 => ?_
        have hG6 : g6[g.length]? = some (.cells t_api_State l') := (f6 _ (by omega) fun h2 => by have := hI.lt _ _ _ _ W.inv h2; omega).trans (by rw [hg5, List.getElem?_append_left (by omega)]; exact hG)
        have hg26 : g6[h.length + 2]? = some (.cells t_api_State sv) := (f6 _ (by omega) (nO _ (by omega) (by omega))).trans ((kp5 _ (by omega)).trans hg2)
        obtain ⟨l2, hl2, q1, q2, q3⟩ := hsv'.list
        obtain rfl : l' = l2 := by simpa using hl2
        have tk : l'.take 7 = l' := List.take_of_length_le (by omega)
        simp -implicitDefEqProofs [hG6, AObj.read, q1, tk, hg26, q2, ll, e1]
        have n2 : ∀ k, h.length ≤ k → k < h.length + 3 → ¬ O' k := fun k h1 h2 h3 => by
          rcases o6 k h3 with h4 | h4
          · exact nO k h1 h2 h4
          · omega
        refine Gives.done (by simp; omega) ⟨es.length - (i + 1), by omega, i + 1, step s es[i] S (sApply C S es[i]).1, O', (sApply C S es[i]).1, l', by simp, ⟨by omega, hI.move _ _ _ _ inv6 fun k hk => List.getElem?_set_ne (fun h2 => n2 k (by omega) (by omega) hk), fun k hk hO => ?_, fun k hk => ?_, ?_, ?_, ?_, hsv', T1.1.mono (by omega), T1.2, ?_, by simp; omega, hb1 _ _ _ _ _ W.bd⟩, rfl⟩
        · have nk : ¬ O k := fun h2 => by rcases W.ow k h2 with h4 | h4; exact hO h4; omega
          rw [List.getElem?_set_ne (by omega), f6 k (by omega) nk, kp5 k (by omega)]
          exact W.fr k hk hO
        · rcases o6 k hk with h4 | h4
          · exact W.ow k h4
          · exact .inr (by omega)
        · rw [List.getElem?_set_ne (by omega), f6 _ (by omega) (nO _ (by omega) (by omega)), kp5 _ (by omega), W.g0]
        · rw [List.getElem?_set_ne (by omega), f6 _ (by omega) (nO _ (by omega) (by omega)), kp5 _ (by omega), W.g1]
        · rw [List.getElem?_set_self (by omega), List.drop_of_length_le (by omega), List.append_nil]
        · rw [wRun, if_pos he] at hrun; exact hrun
      · have he' : ((sApply C S es[i]).2 != 0) = true := by simpa using he
        have hg1' : (g ++ [.cells t_api_State l', .cells t_audit_refused [.int .i64 i, .iface t_api_Errno (.int .i64 (sApply C S es[i]).2)]] : AHeap A)[h.length + 1]? = some (.cells t_api_State zSta) := get_app hg1
        have r1 : ∀ o, ((g ++ [.cells t_api_State l', .cells t_audit_refused [.int .i64 i, .iface t_api_Errno (.int .i64 (sApply C S es[i]).2)]] : AHeap A).set (h.length + 1) o)[h.length + 1]? = some o := fun o => List.getElem?_set_self (by simp; omega)
        unfold zSta at hg1'
        simp -implicitDefEqProofs [he', mkiP, hg1', r1, AObj.read]
        refine hk0 (by rw [← hrun, wRun, if_neg he]) i _ (g.length + 1) _ (sApply_err C S es[i] he) ?_ (fun k hk hO => ?_) (by simp; omega)
        · rw [List.getElem?_set_ne (by omega), List.getElem?_append_right (by omega)]; simp
        · rw [List.getElem?_set_ne (by omega), List.getElem?_append_left (by omega)]; exact W.fr k hk hO
  · have hie : i = es.length := by omega
    subst hie
    have tk : sv.take 7 = sv := List.take_of_length_le (by omega)
    have r1 : ∀ o, (g.set (h.length + 1) o)[h.length + 1]? = some o := fun o => List.getElem?_set_self (by omega)
    unfold zSta at hg1
    have hrun := W.run
    rw [List.drop_length, wRun] at hrun
    simp -implicitDefEqProofs [hg2, hg1, AObj.read, ll, tk, lsc, r1]
    refine hk1 s S (.agg sv) O _ hrun.symm W.st (W.le.mono (by omega)) (hI.move _ _ _ _ W.inv fun k hk => List.getElem?_set_ne (fun h2 => nO k (by omega) (by omega) hk)) (fun k hk hO => ?_) (by simp; omega) (fun k hk => by rcases W.ow k hk with h4 | h4; exact .inl h4; exact .inr (by omega))
    rw [List.getElem?_set_ne (by omega)]; exact W.fr k hk hO
end Go.AI
