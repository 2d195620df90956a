/- Audits: the walk over events. -/
import Derived.Test.YtmdlhohhimdkaaaMbAuditMore
import Derived.Test.YtmdlhohhimdkaaaAiT
set_option linter.all false
namespace Go.AI
variable {A : Type} {R : Adts A}
theorem IsSta.list {sv : AVal} {S : Sta} (h : IsSta sv S) : ∃ l, sv = .agg l ∧ l.length = 7 ∧ l.all AVal.scalar = true ∧ ixs 0 l = true := by
  have hi := h.ix
  obtain ⟨u, x, a, p, rfl, h1, h2, h3, h4⟩ := h
  refine ⟨_, rfl, rfl, ?_, hi⟩
  simp [h1.sc, h2.sc, h3.sc, h4.sc]
def zSta : List AVal := [.int .i64 0, .int .i64 0, .int .i64 0, .nils, .nils, .nils, .nils]
/-- The loop's state. -/
structure WI {σ : Type} (C : Cfg) (Inv : σ → (Nat → Prop) → AHeap A → Prop) (step : σ → Ev → Sta → Sta → σ) (Bd : σ → Nat → Prop) (es : List Ev) (h : AHeap A) (s0 : σ) (O0 : Nat → Prop) (i : Nat) (s : σ) (O : Nat → Prop) (S : Sta) (sv : List AVal) (g : AHeap A) : Prop where
  il : i ≤ es.length
  inv : Inv s O g
  fr : ∀ k, k < h.length → ¬ O0 k → g[k]? = h[k]?
  ow : ∀ k, O k → O0 k ∨ h.length + 3 ≤ k
  g0 : g[h.length]? = some (.cells t_api_Config C.row)
  g1 : g[h.length + 1]? = some (.cells t_api_State zSta)
  g2 : g[h.length + 2]? = some (.cells t_api_State sv)
  st : IsSta (.agg sv) S
  le : StaLe S (16 + i)
  ok : StaIn S
  run : wRun C step s S (es.drop i) = wAll C step s0 es
  len : h.length + 3 ≤ g.length
  bd : Bd s i
theorem StaLe.mono {S : Sta} {n m : Nat} (h : StaLe S n) (hm : n ≤ m) : StaLe S m := ⟨by have := h.u; omega, by have := h.x; omega, by have := h.a; omega, by have := h.p; omega⟩
def WJ {σ : Type} (C : Cfg) (Inv : σ → (Nat → Prop) → AHeap A → Prop) (step : σ → Ev → Sta → Sta → σ) (Bd : σ → Nat → Prop) (es : List Ev) (h : AHeap A) (s0 : σ) (O0 : Nat → Prop) (mm : Nat) (y : List AVal) (g : AHeap A) : Prop :=
  ∃ (i : Nat) (s : σ) (O : Nat → Prop) (S : Sta) (sv : List AVal), y = [.int .i64 i] ∧ WI C Inv step Bd es h s0 O0 i s O S sv g ∧ mm = es.length - i
def WK (C : Cfg) (S : Sta) (E : Ev) (g : AHeap A) (vs : List AVal) (g2 : AHeap A) : Prop :=
  ∃ l, vs = [.ptr g.length 0, .int .i64 (sApply C S E).2] ∧ g2 = g ++ [.cells t_api_State l] ∧ IsSta (.agg l) (sApply C S E).1
theorem audit_walk_ok (hR : R.Ok) {σ : Type} {Inv : σ → (Nat → Prop) → AHeap A → Prop} (hI : Seer A Inv) (C : Cfg) {step : σ → Ev → Sta → Sta → σ} {f : FuncId} {cap : List AVal} {es : List Ev} {Bd : σ → Nat → Prop} (hsee : Sees Pr R C Inv step Bd f cap es) (ho : callOk Pr f = true) {a1 : AVal} {h : AHeap A} {s0 : σ} {O0 : Nat → Prop} (hi : Inv s0 O0 h) (hb0 : Bd s0 0) (hb1 : ∀ s i E S T, Bd s i → Bd (step s E S T) (i + 1))
    (hrd : ∀ g : AHeap A, (∀ k, k < h.length → ¬ O0 k → g[k]? = h[k]?) → RdS Ev.row 8 a1 es g) (hn : es.length ≤ 1048576) {K : AVal → AHeap A → Prop}
    (hk1 : ∀ s S sv O g, wAll C step s0 es = some (s, S) → IsSta sv S → StaLe S 2000000 → Inv s O g → (∀ k, k < h.length → ¬ O0 k → g[k]? = h[k]?) → h.length ≤ g.length → (∀ k, O k → O0 k ∨ h.length ≤ k) → K (.tup [sv, .nili]) g)
    (hk0 : wAll C step s0 es = none → ∀ (i er : Int) (r : Nat) (g : AHeap A), er = 2000 ∨ er = 2001 → g[r]? = some (.cells t_audit_refused [.int .i64 i, .iface t_api_Errno (.int .i64 er)]) → (∀ k, k < h.length → ¬ O0 k → g[k]? = h[k]?) → h.length ≤ g.length → K (.tup [.agg zSta, .iface t_p_audit_refused (.ptr r 0)]) g) :
    Tri Pr R n_audit_walk [.agg C.row, a1, .fn (.func f) [] cap] h K := by
  have rc : Cfg.row C = [.int .i64 C.sectors, .int .i64 C.halves, .int .i64 C.sessions, .int .i64 C.addresses, .int .i64 C.fails, .int .i64 C.lockout, .int .i64 C.halfLife, .int .i64 C.idle, .int .i64 C.absolute, .int .i64 C.quarantine, .int .i64 C.ticketLife, .int .i64 C.keep] := rfl
  apply c_audit_walk
  unfold p_audit_walk
  simp -implicitDefEqProofs [rc]
  refine state_New_ok hR _ (fun hnew => ?_) (fun S0 sv0 hnew hsv0 => ?_)
  · simp -implicitDefEqProofs [mkiP]
    refine hk0 (by unfold wAll; rw [hnew]) 0 2000 (h.length + 3) _ (.inl rfl) (by simp) (fun k hk hO => ?_) (by simp)
    rw [List.getElem?_append_left hk]
  obtain ⟨l0, rfl, ll0, ls0, li0⟩ := hsv0.list
  have rd0 := hrd h (fun _ _ _ => rfl)
  simp -implicitDefEqProofs [ll0, ls0, rd0.len]
  have n0 := sNew_in hnew
  refine loopP_go (WJ C Inv step Bd es h s0 O0) es.length (Gives.done (Nat.le_refl _) ⟨0, s0, O0, S0, l0, rfl, ⟨by omega, hI.move _ _ _ _ hi fun k hk => List.getElem?_append_left (hI.lt _ _ _ k hi hk), fun k hk _ => List.getElem?_append_left hk, fun k hk => .inl hk, ?_, ?_, ?_, hsv0, n0.1, n0.2, ?_, ?_, hb0⟩, by omega⟩) ?_
  · rw [List.getElem?_append_right (Nat.le_refl _), rc]; simp
  · rw [List.getElem?_append_right (by omega)]; simp [zSta]
  · rw [List.getElem?_append_right (by omega)]; simp
  · unfold wAll; rw [hnew]; rfl
  · simp
  rintro mm y g ⟨i, s, O, S, sv, rfl, W, rfl⟩
  have hil := W.il
  have nO : ∀ k, h.length ≤ k → k < h.length + 3 → ¬ O k := fun k h1 h2 h3 => by
    rcases W.ow k h3 with h4 | h4
    · have := hI.lt _ _ _ k hi h4; omega
    · omega
  have hrdg : ∀ g' : AHeap A, (∀ k, k < g.length → ¬ O k → g'[k]? = g[k]?) → RdS Ev.row 8 a1 es g' := fun g' hg' => hrd g' fun k hk hO => by
    have hlen := W.len
    refine (hg' k (by omega) fun h1 => ?_).trans (W.fr k hk hO)
    rcases W.ow k h1 with h4 | h4
    · exact hO h4
    · omega
  obtain ⟨lv, hlv, ll, lsc, lix⟩ := W.st.list
  obtain rfl : sv = lv := by simpa using hlv
  have hg0 := W.g0
  have hg1 := W.g1
  have hg2 := W.g2
  have hlen := W.len
  rw [rc] at hg0
  by_cases h1 : i < es.length
  · have hdr : es.drop i = es[i] :: es.drop (i + 1) := List.drop_eq_getElem_cons h1
    obtain ⟨pe, hpe, hate⟩ := (hrdg g fun _ _ _ => rfl).get i h1
    have hall : ldV 8 true pe g = some (.agg es[i].row) := hate.all
    have le1 : StaLe S 2000000 := W.le.mono (by omega)
    have hrun := W.run
    rw [hdr] at hrun
    simp -implicitDefEqProofs [h1]
    refine joinP_all (WK C S es[i] g) ?_ ?_
    · have g0a : (g ++ [.cells t_api_State [.int .i64 0, .int .i64 0, .int .i64 0, .nils, .nils, .nils, .nils]] : AHeap A)[h.length]? = _ := get_app hg0
      have g2a : (g ++ [.cells t_api_State [.int .i64 0, .int .i64 0, .int .i64 0, .nils, .nils, .nils, .nils]] : AHeap A)[h.length + 2]? = _ := get_app hg2
      have hall2 : ldV 8 true pe (g ++ [.cells t_api_State [.int .i64 0, .int .i64 0, .int .i64 0, .nils, .nils, .nils, .nils]]) = some (.agg es[i].row) := by
        obtain ⟨p', hp', ha'⟩ := (hrdg (g ++ [.cells t_api_State [.int .i64 0, .int .i64 0, .int .i64 0, .nils, .nils, .nils, .nils]]) fun k hk _ => List.getElem?_append_left hk).get i h1
        obtain rfl := idx_uniq hp' hpe
        exact ha'.all
      have tk : sv.take 7 = sv := List.take_of_length_le (by omega)
      simp -implicitDefEqProofs [hpe, hg0, hg2, hall, AObj.read, g0a, g2a, hall2, ll, tk]
      refine ⟨?_, ?_⟩
      · refine state_Apply_ok hR C W.st le1 W.ok es[i] fun sv' hsv' => ?_
        obtain ⟨l', rfl, q1, q2, q3⟩ := hsv'.list
        simp -implicitDefEqProofs [q1, q2]
        exact ⟨l', rfl, rfl, hsv'⟩
      · refine state_Apply_ok hR C W.st le1 W.ok es[i] fun sv' hsv' => ?_
        obtain ⟨l', rfl, q1, q2, q3⟩ := hsv'.list
        simp -implicitDefEqProofs [q1, q2]
        exact ⟨l', rfl, rfl, hsv'⟩
    · rintro _ _ ⟨l', rfl, rfl, hsv'⟩
      refine ⟨by simp, ?_⟩
      by_cases he : (sApply C S es[i]).2 = 0
      · have T1 := sDoes_keeps (sApply_ok he).1 W.le W.ok (evIn (sApply_ok he).2.1)
        have hg2' : (g ++ [.cells t_api_State l'] : AHeap A)[h.length + 2]? = _ := get_app hg2
        have hG : (g ++ [.cells t_api_State l'] : AHeap A)[g.length]? = some (.cells t_api_State l') := by simp
        have kp1 : ∀ k, k < g.length → (g ++ [.cells t_api_State l'] : AHeap A)[k]? = g[k]? := fun k hk => List.getElem?_append_left hk
        have ln1 : (g ++ [.cells t_api_State l'] : AHeap A).length = g.length + 1 := by simp
        have inv1 := hI.move _ _ _ (g ++ [.cells t_api_State l'] : AHeap A) W.inv fun k hk => kp1 k (hI.lt _ _ _ k W.inv hk)
        obtain ⟨g5, hg5⟩ : ∃ g5, g5 = (g ++ [.cells t_api_State l'] : AHeap A) ++ [.cells t_audit_seen [.int .i64 i, pe, .ptr (h.length + 2) 0, .ptr g.length 0]] := ⟨_, rfl⟩
        have kp5 : ∀ k, k < g.length → g5[k]? = g[k]? := fun k hk => by rw [hg5, List.getElem?_append_left (by omega)]; exact kp1 k hk
        have ln5 : g5.length = g.length + 2 := by rw [hg5, List.length_append, ln1]; rfl
        have inv5 : Inv s O g5 := hI.move _ _ _ _ W.inv fun k hk => kp5 k (hI.lt _ _ _ k W.inv hk)
        have seen : Seen C g5 O (g.length + 1) pe (h.length + 2) g.length es[i] S (sApply C S es[i]).1 := by
          refine ⟨⟨i, by rw [hg5, List.getElem?_append_right (by omega), ln1]; simp⟩, fun h2 => by have := hI.lt _ _ _ _ W.inv h2; omega, fun g' hg' => ?_, ⟨sv, W.st, (kp5 _ (by omega)).trans hg2⟩, nO _ (by omega) (by omega), ⟨l', hsv', ?_⟩, fun h2 => by have := hI.lt _ _ _ _ W.inv h2; omega, ⟨he, rfl⟩, ⟨le1, W.ok⟩, ⟨T1.1.mono (by omega), T1.2⟩⟩
          · obtain ⟨p', hp', ha'⟩ := (hrdg g' fun k hk hO => (hg' k (by omega) hO).trans (kp5 k hk)).get i h1
            obtain rfl := idx_uniq hp' hpe
            exact ha'
          · rw [hg5, List.getElem?_append_left (by omega)]; exact hG
        have pe' : ∀ K, idxP 8 a1 (.int .i64 i) K = K pe := hpe
        have spe := hate.sc
        have cpe := sc_cs spe
        have e1 := w64 (n := (i : Int) + 1) (by omega)
        simp -implicitDefEqProofs [he, pe', spe, cpe]
        rw [show (g ++ [.cells t_api_State l', .cells t_audit_seen [.int .i64 i, pe, .ptr (h.length + 2) 0, .ptr g.length 0]] : AHeap A) = g5 by rw [hg5]; simp]
        with_reducible refine dynP_go ho ?_
        refine hsee s O g5 (g.length + 1) pe (h.length + 2) g.length es[i] S _ _ (List.getElem_mem h1) ⟨i, h1, W.bd⟩ inv5 seen fun O' g6 inv6 f6 l6 o6 => ?_
        have hG6 : g6[g.length]? = some (.cells t_api_State l') := (f6 _ (by omega) fun h2 => by have := hI.lt _ _ _ _ W.inv h2; omega).trans (by rw [hg5, List.getElem?_append_left (by omega)]; exact hG)
        have hg26 : g6[h.length + 2]? = some (.cells t_api_State sv) := (f6 _ (by omega) (nO _ (by omega) (by omega))).trans ((kp5 _ (by omega)).trans hg2)
        obtain ⟨l2, hl2, q1, q2, q3⟩ := hsv'.list
        obtain rfl : l' = l2 := by simpa using hl2
        have tk : l'.take 7 = l' := List.take_of_length_le (by omega)
        simp -implicitDefEqProofs [hG6, AObj.read, q1, tk, hg26, q2, ll, e1]
        have n2 : ∀ k, h.length ≤ k → k < h.length + 3 → ¬ O' k := fun k h1 h2 h3 => by
          rcases o6 k h3 with h4 | h4
          · exact nO k h1 h2 h4
          · omega
        refine Gives.done (by simp; omega) ⟨es.length - (i + 1), by omega, i + 1, step s es[i] S (sApply C S es[i]).1, O', (sApply C S es[i]).1, l', by simp, ⟨by omega, hI.move _ _ _ _ inv6 fun k hk => List.getElem?_set_ne (fun h2 => n2 k (by omega) (by omega) hk), fun k hk hO => ?_, fun k hk => ?_, ?_, ?_, ?_, hsv', T1.1.mono (by omega), T1.2, ?_, by simp; omega, hb1 _ _ _ _ _ W.bd⟩, rfl⟩
        · have nk : ¬ O k := fun h2 => by rcases W.ow k h2 with h4 | h4; exact hO h4; omega
          rw [List.getElem?_set_ne (by omega), f6 k (by omega) nk, kp5 k (by omega)]
          exact W.fr k hk hO
        · rcases o6 k hk with h4 | h4
          · exact W.ow k h4
          · exact .inr (by omega)
        · rw [List.getElem?_set_ne (by omega), f6 _ (by omega) (nO _ (by omega) (by omega)), kp5 _ (by omega), W.g0]
        · rw [List.getElem?_set_ne (by omega), f6 _ (by omega) (nO _ (by omega) (by omega)), kp5 _ (by omega), W.g1]
        · rw [List.getElem?_set_self (by omega), List.drop_of_length_le (by omega), List.append_nil]
        · rw [wRun, if_pos he] at hrun; exact hrun
      · have he' : ((sApply C S es[i]).2 != 0) = true := by simpa using he
        have hg1' : (g ++ [.cells t_api_State l', .cells t_audit_refused [.int .i64 i, .iface t_api_Errno (.int .i64 (sApply C S es[i]).2)]] : AHeap A)[h.length + 1]? = some (.cells t_api_State zSta) := get_app hg1
        have r1 : ∀ o, ((g ++ [.cells t_api_State l', .cells t_audit_refused [.int .i64 i, .iface t_api_Errno (.int .i64 (sApply C S es[i]).2)]] : AHeap A).set (h.length + 1) o)[h.length + 1]? = some o := fun o => List.getElem?_set_self (by simp; omega)
        unfold zSta at hg1'
        simp -implicitDefEqProofs [he', mkiP, hg1', r1, AObj.read]
        refine hk0 (by rw [← hrun, wRun, if_neg he]) i _ (g.length + 1) _ (sApply_err C S es[i] he) ?_ (fun k hk hO => ?_) (by simp; omega)
        · rw [List.getElem?_set_ne (by omega), List.getElem?_append_right (by omega)]; simp
        · rw [List.getElem?_set_ne (by omega), List.getElem?_append_left (by omega)]; exact W.fr k hk hO
  · have hie : i = es.length := by omega
    subst hie
    have tk : sv.take 7 = sv := List.take_of_length_le (by omega)
    have r1 : ∀ o, (g.set (h.length + 1) o)[h.length + 1]? = some o := fun o => List.getElem?_set_self (by omega)
    unfold zSta at hg1
    have hrun := W.run
    rw [List.drop_length, wRun] at hrun
    simp -implicitDefEqProofs [hg2, hg1, AObj.read, ll, tk, lsc, r1]
    refine hk1 s S (.agg sv) O _ hrun.symm W.st (W.le.mono (by omega)) (hI.move _ _ _ _ W.inv fun k hk => List.getElem?_set_ne (fun h2 => nO k (by omega) (by omega) hk)) (fun k hk hO => ?_) (by simp; omega) (fun k hk => by rcases W.ow k hk with h4 | h4; exact .inl h4; exact .inr (by omega))
    rw [List.getElem?_set_ne (by omega)]; exact W.fr k hk hO
end Go.AI

/- Audits: refusals; who holds an address. -/
set_option linter.all false
namespace Go.AI
variable {A : Type} {R : Adts A}
theorem audit_bad_nil {h : AHeap A} {K : AVal → AHeap A → Prop} (hk : K (.bool false) h) : Tri Pr R n_audit_bad [.nili] h K := by
  apply c_audit_bad
  unfold p_audit_bad
  simp -implicitDefEqProofs [mkiP]
  refine Is_nil_ok _ ?_
  simp -implicitDefEqProofs [mkiP]
  refine Is_nil_ok _ ?_
  exact hk
theorem audit_bad_ref {h : AHeap A} {r : Nat} {i er : Int} (he : er = 2000 ∨ er = 2001) (hr : h[r]? = some (.cells t_audit_refused [.int .i64 i, .iface t_api_Errno (.int .i64 er)])) {K : AVal → AHeap A → Prop} (hk : K (.bool true) h) : Tri Pr R n_audit_bad [.iface t_p_audit_refused (.ptr r 0)] h K := by
  apply c_audit_bad
  unfold p_audit_bad
  simp -implicitDefEqProofs [mkiP]
  refine Is_audit_refused_ok er _ hr rfl ?_
  rcases he with rfl | rfl
  · simp -implicitDefEqProofs
    exact hk
  · simp -implicitDefEqProofs [mkiP]
    refine Is_audit_refused_ok 2001 _ hr rfl ?_
    simp -implicitDefEqProofs
    exact hk
/-- The state of events, if they may come. -/
def sRunO (C : Cfg) : Sta → List Ev → Option Sta
  | S, [] => some S
  | S, E :: r => if (sApply C S E).2 = 0 then sRunO C (sApply C S E).1 r else none
def sAllO (C : Cfg) (es : List Ev) : Option Sta := (sNew C.addresses).bind fun S => sRunO C S es
theorem wRun_snd {σ : Type} (C : Cfg) (step : σ → Ev → Sta → Sta → σ) : ∀ (es : List Ev) (s : σ) (S : Sta), (wRun C step s S es).map Prod.snd = sRunO C S es
  | [], s, S => rfl
  | E :: r, s, S => by
    unfold wRun sRunO
    split
    · exact wRun_snd C step r _ _
    · rfl
theorem wAll_snd {σ : Type} (C : Cfg) (step : σ → Ev → Sta → Sta → σ) (s : σ) (es : List Ev) : (wAll C step s es).map Prod.snd = sAllO C es := by
  unfold wAll sAllO
  cases sNew C.addresses with
  | none => rfl
  | some S => exact wRun_snd C step es s S
/-- Events that can be read over whatever comes behind. -/
def EvRd (a : AVal) (es : List Ev) (h : AHeap A) : Prop := ∀ g : AHeap A, (∀ k, k < h.length → g[k]? = h[k]?) → RdS Ev.row 8 a es g
theorem EvRd.fz {a : AVal} {es : List Ev} (ha : IsFz Ev.row a es) (h : AHeap A) : EvRd a es h := fun g _ => ha.rd evR g
theorem EvRd.own {a : AVal} {es : List Ev} {ty : TypeId} {h : AHeap A} (ha : Own Ev.row 8 ty a es h) : EvRd a es h := fun g hg => (ha.move' fun b hb => hg b (ha.blt hb)).rd evR
theorem EvRd.move {a : AVal} {es : List Ev} {h h' : AHeap A} (ha : EvRd a es h) (hh : ∀ k, k < h.length → h'[k]? = h[k]?) (hl : h.length ≤ h'.length) : EvRd a es h' := fun g hg => ha g fun k hk => (hg k (by omega)).trans (hh k hk)
def aHolder (C : Cfg) (ad : Int) (es : List Ev) : Int × Int × Int :=
  match sAllO C es with
  | none => (0, 0, 2500)
  | some S => if ad < 0 ∨ (S.addrs.length : Int) ≤ ad then (0, 0, 2500) else
    match S.sess.find? fun x => decide (x.address = ad) with
    | some x => (x.user, x.session, 0)
    | none => (-1, -1, 0)
def Inv0 (_ : Unit) (O : Nat → Prop) (_ : AHeap A) : Prop := ∀ k, ¬ O k
theorem seer0 : Seer A (Inv0 (A := A)) := ⟨fun s O g k h hk => absurd hk (h k), fun s O g g' h _ => h⟩
def HoI (S : Sta) (ad : Int) (h : AHeap A) (mm : Nat) (y : List AVal) (g : AHeap A) : Prop :=
  ∃ i : Nat, y = [.int .i64 i] ∧ i ≤ S.sess.length ∧ (∀ j (hj : j < S.sess.length), j < i → decide ((S.sess[j]).address = ad) = false) ∧ (∀ k, k < h.length → g[k]? = h[k]?) ∧ h.length ≤ g.length ∧ mm = S.sess.length - i
theorem audit_Holder_ok (hR : R.Ok) (C : Cfg) {a : AVal} {es : List Ev} {h : AHeap A} (ha : EvRd a es h) (hn : es.length ≤ 1048576) (ad : Int) {K : AVal → AHeap A → Prop}
    (hk : ∀ g, (∀ k, k < h.length → g[k]? = h[k]?) → h.length ≤ g.length → K (.tup [.int .i64 (aHolder C ad es).1, .int .i64 (aHolder C ad es).2.1, .int .i64 (aHolder C ad es).2.2]) g) : Tri Pr R n_audit_Holder [.agg C.row, .int .i64 ad, a] h K := by
  have rc : Cfg.row C = [.int .i64 C.sectors, .int .i64 C.halves, .int .i64 C.sessions, .int .i64 C.addresses, .int .i64 C.fails, .int .i64 C.lockout, .int .i64 C.halfLife, .int .i64 C.idle, .int .i64 C.absolute, .int .i64 C.quarantine, .int .i64 C.ticketLife, .int .i64 C.keep] := rfl
  have hs := wAll_snd C (fun (_ : Unit) _ _ _ => ()) () es
  apply c_audit_Holder
  unfold p_audit_Holder
  simp -implicitDefEqProofs [rc]
  rw [← rc]
  have ha2 := ha.move (h' := h ++ [.cells t_api_Config C.row]) (fun k hk => List.getElem?_append_left hk) (by simp)
  refine audit_walk_ok hR seer0 C (step := fun _ _ _ _ => ()) (s0 := ()) (O0 := fun _ => False) (es := es) (a1 := a) (Bd := fun _ _ => True) (fun s O g x pe ps pt E S T K _ _ hi _ hK => ?_) (by kernel_rfl) (fun k h => h) trivial (fun _ _ _ _ _ _ => trivial) (fun g hg => ha2 g fun k hk => hg k hk (fun h => h)) hn (fun s S sv O g hw hsv hle hi hf hl _ => ?_) (fun hw i er r g he hr hf hl => ?_)
  · apply c_audit_Holder_c1
    unfold p_audit_Holder_c1
    exact hK O g hi (fun _ _ _ => rfl) (Nat.le_refl _) (fun k hk => .inl hk)
  · rw [hw] at hs
    obtain ⟨u, x, ad', p, rfl, hu, hx, had, hp⟩ := hsv
    have s1 := hu.sc
    have s2 := hx.sc
    have s3 := had.sc
    have s4 := hp.sc
    have kp : ∀ k, k < h.length → g[k]? = h[k]? := fun k hk => (hf k (by simp; omega) (fun h => h)).trans (List.getElem?_append_left hk)
    have hl' : h.length ≤ g.length := by simp at hl; omega
    simp -implicitDefEqProofs [s1, s2, s3, s4]
    refine audit_bad_nil ?_
    have ha3 : aHolder C ad es = (if ad < 0 ∨ (S.addrs.length : Int) ≤ ad then ((0, 0, 2500) : Int × Int × Int) else match S.sess.find? fun x => decide (x.address = ad) with | some x => ((x.user, x.session, 0) : Int × Int × Int) | none => ((-1, -1, 0) : Int × Int × Int)) := by
      unfold aHolder; rw [← hs]; rfl
    have rda := (had.rd adrR ([] : AHeap A)).len
    have rdx := fun g : AHeap A => hx.rd sesR g
    have done : ∀ g' : AHeap A, (∀ k, k < g.length → g'[k]? = g[k]?) → g.length ≤ g'.length → ∀ q, aHolder C ad es = q → K (.tup [.int .i64 q.1, .int .i64 q.2.1, .int .i64 q.2.2]) g' := by
      rintro g' h1 h2 q rfl
      exact hk g' (fun k hk => (h1 k (by omega)).trans (kp k hk)) (by omega)
    by_cases h1 : ad < 0
    · simp -implicitDefEqProofs [h1]
      exact done _ (fun k hk => List.getElem?_append_left hk) (by simp) (0, 0, 2500) (by rw [ha3, if_pos (.inl h1)])
    by_cases h2 : (S.addrs.length : Int) ≤ ad
    · have h2' : ad ≥ (S.addrs.length : Int) := h2
      simp -implicitDefEqProofs [h1, rda, h2']
      exact done _ (fun k hk => List.getElem?_append_left hk) (by simp) (0, 0, 2500) (by rw [ha3, if_pos (.inr h2)])
    have h2' : ¬ ad ≥ (S.addrs.length : Int) := h2
    rw [if_neg (by omega)] at ha3
    simp -implicitDefEqProofs [h1, rda, h2', (rdx ([] : AHeap A)).len]
    refine loopP_go (HoI S ad g) S.sess.length (Gives.done (Nat.le_refl _) ⟨0, rfl, by omega, fun j _ hj => by omega, fun k hk => List.getElem?_append_left hk, by simp, by omega⟩) ?_
    rintro mm y g2 ⟨i, rfl, hi2, hb, kp2, hl2, rfl⟩
    have e1 := w64 (n := (i : Int) + 1) (by have := hle.x; omega)
    by_cases h3 : i < S.sess.length
    · obtain ⟨pp, hpp, hat⟩ := (rdx g2).get i h3
      have hall : ldV 4 true pp g2 = some (.agg (S.sess[i]).row) := hat.all
      unfold Ses.row at hall
      have rL : ∀ o, (g2 ++ [o] : AHeap A)[g2.length]? = some o := fun o => by simp
      by_cases h4 : (S.sess[i]).address = ad
      · have h4' : ((S.sess[i]).address == ad) = true := by simpa using h4
        simp -implicitDefEqProofs [h3, hpp, hall, h4']
        have hfind : S.sess.find? (fun x => decide (x.address = ad)) = some S.sess[i] := by
          rw [List.find?_eq_some_iff_getElem]
          exact ⟨by simpa using h4, i, h3, rfl, fun j hj => by simpa using hb j (by omega) hj⟩
        exact done _ (fun k hk => by rw [List.getElem?_append_left (by omega)]; exact kp2 k hk) (by simp; omega) ((S.sess[i]).user, (S.sess[i]).session, 0) (by rw [ha3, hfind])
      · have h4' : ((S.sess[i]).address == ad) = false := by simpa using h4
        simp -implicitDefEqProofs [h3, hpp, hall, h4', e1]
        refine Gives.done (by simp; omega) ⟨S.sess.length - (i + 1), by omega, i + 1, by simp, by omega, fun j hj hji => ?_, fun k hk => by rw [List.getElem?_append_left (by omega)]; exact kp2 k hk, by simp; omega, rfl⟩
        by_cases hj2 : j = i
        · subst hj2; simpa using h4
        · exact hb j hj (by omega)
    · simp -implicitDefEqProofs [h3]
      have hfind : S.sess.find? (fun x => decide (x.address = ad)) = none := by
        rw [List.find?_eq_none]
        intro x hx2
        obtain ⟨j, hj, rfl⟩ := List.mem_iff_getElem.1 hx2
        have := hb j hj (by omega)
        simpa using this
      exact done _ kp2 hl2 (-1, -1, 0) (by rw [ha3, hfind])
  · rw [hw] at hs
    have kp : ∀ k, k < h.length → g[k]? = h[k]? := fun k hk => (hf k (by simp; omega) (fun h => h)).trans (List.getElem?_append_left hk)
    have hl' : h.length ≤ g.length := by simp at hl; omega
    have ha3 : aHolder C ad es = (0, 0, 2500) := by unfold aHolder; rw [← hs]; rfl
    unfold zSta
    simp -implicitDefEqProofs
    refine audit_bad_ref he (get_app hr) ?_
    simp -implicitDefEqProofs
    have := hk (g ++ [.cells t_api_State [.int .i64 0, .int .i64 0, .int .i64 0, .nils, .nils, .nils, .nils]]) (fun k hk => by rw [List.getElem?_append_left (by omega)]; exact kp k hk) (by simp; omega)
    rw [ha3] at this
    exact this
end Go.AI

/- Audits: lines by user. -/
set_option linter.all false
namespace Go.AI
variable {A : Type} {R : Adts A}
structure Ln where
  user : Int
  logins : Int
  resumes : Int
  fails : Int
  locks : Int
  opn : Int
  bytes : Int
deriving DecidableEq
def Ln.row (n : Ln) : List AVal := [.int .i64 n.user, .int .i64 n.logins, .int .i64 n.resumes, .int .i64 n.fails, .int .i64 n.locks, .int .i64 n.opn, .int .i64 n.bytes]
theorem lnR : RowOk Ln.row 7 := ⟨by decide, fun _ => rfl, fun _ => rfl, fun _ => rfl⟩
def ln0 (u : Int) : Ln := ⟨u, 0, 0, 0, 0, 0, 0⟩
def inc (x : Int) : Int := IntKind.i64.wrap (x + 1)
def lnUp (f : Int → Ln) (u : Int) (n : Ln) : Int → Ln := fun v => if v = u then n else f v
def lnLogin (f : Int → Ln) (u : Int) : Int → Ln := lnUp f u { f u with logins := inc (f u).logins }
def lnResume (f : Int → Ln) (u : Int) : Int → Ln := lnUp f u { f u with resumes := inc (f u).resumes }
def lnFail (f : Int → Ln) (u : Int) : Int → Ln := lnUp f u { f u with fails := inc (f u).fails }
def lnLock (f : Int → Ln) (u : Int) : Int → Ln := lnUp f u { f u with locks := inc (f u).locks }
def lnOpen (f : Int → Ln) (u : Int) : Int → Ln := lnUp f u { f u with opn := inc (f u).opn }
/-- An event is counted. -/
def lnCount (C : Cfg) (f : Int → Ln) (spent : Bool) (E : Ev) (T : Sta) : Int → Ln :=
  if E.kind = 3 then lnLogin f E.user
  else if E.kind = 2 then
    if (match uAt T.users E.user with | some j => decide ((T.users.getD j usr0).fails = C.fails) | none => false) = true then lnLock (lnFail f E.user) E.user else lnFail f E.user
  else if E.kind = 5 then (if spent = true then lnResume f E.user else f)
  else f
def lnStep (C : Cfg) (s : (Int → Ln) × Bool) (E : Ev) (_ T : Sta) : (Int → Ln) × Bool := (lnCount C s.1 s.2 E T, E.kind == 9)
def lEnts : List (Int × Nat) → Nat → List AEnt
  | [], _ => []
  | p :: r, i => ⟨.int .i64 p.1, .ptr p.2 0, i⟩ :: lEnts r (i + 1)
theorem lEnts_snoc (p : Int × Nat) : ∀ (bs : List (Int × Nat)) (i : Nat), lEnts (bs ++ [p]) i = lEnts bs i ++ [⟨.int .i64 p.1, .ptr p.2 0, i + bs.length⟩]
  | [], i => by simp [lEnts]
  | q :: r, i => by simp [lEnts, lEnts_snoc p r]; omega
theorem findK_lEnts (u : Int) : ∀ (bs : List (Int × Nat)) (i j : Nat), (findK false (.int .i64 u) (lEnts bs i) j = some none ∧ ∀ b, (u, b) ∉ bs) ∨ ∃ k b, findK false (.int .i64 u) (lEnts bs i) j = some (some (k, .ptr b 0)) ∧ (u, b) ∈ bs
  | [], i, j => .inl ⟨rfl, by simp⟩
  | (v, b) :: r, i, j => by
    by_cases h : u = v
    · subst h
      exact .inr ⟨j, b, by simp [lEnts, findK, sameKey], by simp⟩
    · have h2 : (u == v) = false := by simp [h]
      rcases findK_lEnts u r (i + 1) (j + 1) with ⟨h3, h4⟩ | ⟨k, c, h3, h4⟩
      · exact .inl ⟨by simp only [lEnts, findK, sameKey, h2]; simpa using h3, fun c hc => by simp at hc; rcases hc with ⟨h5, _⟩ | h5; exact h h5; exact h4 c h5⟩
      · exact .inr ⟨k, c, by simp only [lEnts, findK, sameKey, h2]; simpa using h3, by simp [h4]⟩
/-- Lines in their places. -/
structure Ls (c m l sp : Nat) (C : Cfg) (f : Int → Ln) (spent : Bool) (bs : List (Int × Nat)) (g : AHeap A) : Prop where
  hc : g[c]? = some (.cells t_api_Config C.row)
  hm : g[m]? = some (.map (lEnts bs 0) bs.length)
  hl : g[l]? = some (.cells t_audit_lines [.map m])
  hp : g[sp]? = some (.cells t_bool [.bool spent])
  hb : ∀ u b, (u, b) ∈ bs → g[b]? = some (.cells t_api_Line (f u).row)
  h0 : ∀ u, (∀ b, (u, b) ∉ bs) → f u = ln0 u
  nd : ∀ u v b d, (u, b) ∈ bs → (v, d) ∈ bs → (u = v ↔ b = d)
section ls
variable {c m l sp : Nat} {C : Cfg} {f : Int → Ln} {spent : Bool} {bs : List (Int × Nat)} {h : AHeap A}
theorem Ls.own (L : Ls c m l sp C f spent bs h) {k : Nat} (hk : k = c ∨ k = m ∨ k = l ∨ k = sp ∨ ∃ u, (u, k) ∈ bs) : k < h.length := by
  rcases hk with rfl | rfl | rfl | rfl | ⟨u, hu⟩
  · exact (List.getElem?_eq_some_iff.1 L.hc).1
  · exact (List.getElem?_eq_some_iff.1 L.hm).1
  · exact (List.getElem?_eq_some_iff.1 L.hl).1
  · exact (List.getElem?_eq_some_iff.1 L.hp).1
  · exact (List.getElem?_eq_some_iff.1 (L.hb u k hu)).1
theorem Ls.move (L : Ls c m l sp C f spent bs h) {g : AHeap A} (hg : ∀ k, (k = c ∨ k = m ∨ k = l ∨ k = sp ∨ ∃ u, (u, k) ∈ bs) → g[k]? = h[k]?) : Ls c m l sp C f spent bs g :=
  ⟨(hg c (.inl rfl)).trans L.hc, (hg m (.inr (.inl rfl))).trans L.hm, (hg l (.inr (.inr (.inl rfl)))).trans L.hl, (hg sp (.inr (.inr (.inr (.inl rfl))))).trans L.hp, fun u b hu => (hg b (.inr (.inr (.inr (.inr ⟨u, hu⟩))))).trans (L.hb u b hu), L.h0, L.nd⟩
theorem Ls.grow (L : Ls c m l sp C f spent bs h) (g : AHeap A) : Ls c m l sp C f spent bs (h ++ g) := L.move fun _ hk => List.getElem?_append_left (L.own hk)
theorem Ls.ne (L : Ls c m l sp C f spent bs h) {u : Int} {b : Nat} (hb : (u, b) ∈ bs) : c ≠ b ∧ m ≠ b ∧ l ≠ b ∧ sp ≠ b := by
  have h1 := L.hb u b hb
  refine ⟨?_, ?_, ?_, ?_⟩
  · rintro rfl; have := L.hc; rw [h1] at this; simp [Ln.row, Cfg.row] at this
  · rintro rfl; have := L.hm; rw [h1] at this; simp at this
  · rintro rfl; have := L.hl; rw [h1] at this; simp [Ln.row] at this
  · rintro rfl; have := L.hp; rw [h1] at this; simp [Ln.row] at this
theorem Ls.ne0 (L : Ls c m l sp C f spent bs h) : c ≠ sp ∧ m ≠ sp ∧ l ≠ sp ∧ c ≠ m ∧ l ≠ m := by
  have h1 := L.hp
  have h2 := L.hm
  refine ⟨?_, ?_, ?_, ?_, ?_⟩
  · rintro rfl; have := L.hc; rw [h1] at this; simp [Cfg.row] at this
  · rintro rfl; rw [h1] at h2; simp at h2
  · rintro rfl; have := L.hl; rw [h1] at this; simp at this
  · rintro rfl; have := L.hc; rw [h2] at this; simp at this
  · rintro rfl; have := L.hl; rw [h2] at this; simp at this
/-- A line is turned. -/
theorem Ls.upd (L : Ls c m l sp C f spent bs h) {u : Int} {b : Nat} (hb : (u, b) ∈ bs) (n : Ln) : Ls c m l sp C (lnUp f u n) spent bs (h.set b (.cells t_api_Line n.row)) := by
  obtain ⟨n1, n2, n3, n4⟩ := L.ne hb
  refine ⟨(List.getElem?_set_ne (Ne.symm n1)).trans L.hc, (List.getElem?_set_ne (Ne.symm n2)).trans L.hm, (List.getElem?_set_ne (Ne.symm n3)).trans L.hl, (List.getElem?_set_ne (Ne.symm n4)).trans L.hp, fun v d hd => ?_, fun v hv => ?_, L.nd⟩
  · unfold lnUp
    by_cases h1 : v = u
    · have := (L.nd u v b d hb hd).1 h1.symm
      subst this
      rw [if_pos h1, List.getElem?_set_self (L.own (.inr (.inr (.inr (.inr ⟨u, hb⟩)))))]
    · rw [if_neg h1, List.getElem?_set_ne (fun h2 => h1 ((L.nd u v b d hb hd).2 h2).symm)]
      exact L.hb v d hd
  · have h1 : v ≠ u := fun h2 => hv b (h2 ▸ hb)
    rw [lnUp, if_neg h1]
    exact L.h0 v hv
theorem Ls.pset (L : Ls c m l sp C f spent bs h) (x : Bool) : Ls c m l sp C f x bs (h.set sp (.cells t_bool [.bool x])) := by
  obtain ⟨n1, n2, n3, _⟩ := L.ne0
  exact ⟨(List.getElem?_set_ne (Ne.symm n1)).trans L.hc, (List.getElem?_set_ne (Ne.symm n2)).trans L.hm, (List.getElem?_set_ne (Ne.symm n3)).trans L.hl, List.getElem?_set_self (L.own (.inr (.inr (.inr (.inl rfl))))), fun v d hd => (List.getElem?_set_ne (L.ne hd).2.2.2).trans (L.hb v d hd), L.h0, L.nd⟩
theorem Ls.lk (L : Ls c m l sp C f spent bs h) (u : Int) : ((∀ b, (u, b) ∉ bs) ∧ ∀ K, lkP false .nilp false (.map m) (.int .i64 u) h K = K .nilp) ∨ ∃ b, (u, b) ∈ bs ∧ ∀ K, lkP false .nilp false (.map m) (.int .i64 u) h K = K (.ptr b 0) := by
  have hm := L.hm
  rcases findK_lEnts u bs 0 0 with ⟨h1, h2⟩ | ⟨k, b, h1, h2⟩
  · exact .inl ⟨h2, fun K => by simp [lkP, keyOk, mapAt, hm, h1]⟩
  · exact .inr ⟨b, h2, fun K => by simp [lkP, keyOk, mapAt, hm, h1]⟩
/-- A line is begun. -/
theorem Ls.new (L : Ls c m l sp C f spent bs h) {u : Int} (no : ∀ b, (u, b) ∉ bs) {K : AHeap A → Prop} (hk : ∀ g, Ls c m l sp C f spent (bs ++ [(u, h.length)]) g → (∀ k, k < h.length → k ≠ m → g[k]? = h[k]?) → g.length = h.length + 1 → K g) : mupP false (.map m) (.int .i64 u) (.ptr h.length 0) (h ++ [.cells t_api_Line (ln0 u).row]) K := by
  have hm : (h ++ [.cells t_api_Line (ln0 u).row] : AHeap A)[m]? = _ := get_app L.hm
  have h1 : findK false (.int .i64 u) (lEnts bs 0) 0 = some none := by
    rcases findK_lEnts u bs 0 0 with ⟨h1, _⟩ | ⟨k, b, _, h2⟩
    · exact h1
    · exact absurd h2 (no b)
  have hml := L.own (k := m) (.inr (.inl rfl))
  have e : mupV false (.map m) (.int .i64 u) (.ptr h.length 0) (h ++ [.cells t_api_Line (ln0 u).row]) = some ((h ++ [.cells t_api_Line (ln0 u).row] : AHeap A).set m (.map (lEnts (bs ++ [(u, h.length)]) 0) (bs ++ [(u, h.length)]).length)) := by
    unfold mupV
    rw [if_pos ⟨rfl, rfl⟩]
    dsimp only
    rw [hm]
    dsimp only
    rw [h1]
    simp [lEnts_snoc]
  have old : ∀ k, k < h.length → k ≠ m → ((h ++ [.cells t_api_Line (ln0 u).row] : AHeap A).set m (.map (lEnts (bs ++ [(u, h.length)]) 0) (bs ++ [(u, h.length)]).length))[k]? = h[k]? := fun k hk hkm => by
    rw [List.getElem?_set_ne (Ne.symm hkm), List.getElem?_append_left hk]
  obtain ⟨_, n2, _, n4, n5⟩ := L.ne0
  unfold mupP
  rw [e]
  simp only [hP]
  refine hk _ ⟨(old c (L.own (.inl rfl)) n4).trans L.hc, List.getElem?_set_self (by simp; omega), (old l (L.own (.inr (.inr (.inl rfl)))) n5).trans L.hl, (old sp (L.own (.inr (.inr (.inr (.inl rfl))))) (Ne.symm n2)).trans L.hp, fun v d hd => ?_, fun v hv => ?_, fun v w b d hb hd => ?_⟩ old (by simp)
  · rcases List.mem_append.1 hd with hd | hd
    · exact (old d (L.own (.inr (.inr (.inr (.inr ⟨v, hd⟩))))) (Ne.symm (L.ne hd).2.1)).trans (L.hb v d hd)
    · simp at hd
      obtain ⟨rfl, rfl⟩ := hd
      rw [List.getElem?_set_ne (by omega), L.h0 v no]
      simp
  · exact L.h0 v fun b hb => hv b (List.mem_append.2 (.inl hb))
  · have lt : ∀ v b, (v, b) ∈ bs → b < h.length := fun v b hb => L.own (.inr (.inr (.inr (.inr ⟨v, hb⟩))))
    rcases List.mem_append.1 hb with hb1 | hb1 <;> rcases List.mem_append.1 hd with hd1 | hd1
    · exact L.nd v w b d hb1 hd1
    · simp at hd1; obtain ⟨rfl, rfl⟩ := hd1
      exact ⟨fun h2 => absurd (h2 ▸ hb1) (no b), fun h2 => by have := lt v b hb1; omega⟩
    · simp at hb1; obtain ⟨rfl, rfl⟩ := hb1
      exact ⟨fun h2 => absurd (h2 ▸ hd1) (no d), fun h2 => by have := lt w d hd1; omega⟩
    · simp at hb1 hd1; rw [hb1.1, hb1.2, hd1.1, hd1.2]; simp
def LJ (m : Nat) (u : Int) (Q : List (Int × Nat) → AHeap A → Prop) (bs : List (Int × Nat)) (h : AHeap A) (vs : List AVal) (g : AHeap A) : Prop :=
  vs = [] ∧ ∃ bs' b, Q bs' g ∧ (u, b) ∈ bs' ∧ (∀ k, k < h.length → k ≠ m → g[k]? = h[k]?) ∧ h.length ≤ g.length ∧ (∀ v d, (v, d) ∈ bs' → (v, d) ∈ bs ∨ h.length ≤ d) ∧ (∀ v d, (v, d) ∈ bs → (v, d) ∈ bs')
theorem line_ok (L : Ls c m l sp C f spent bs h) (u : Int) {K : AVal → AHeap A → Prop}
    (hk : ∀ g bs' b, Ls c m l sp C f spent bs' g → (u, b) ∈ bs' → (∀ k, k < h.length → k ≠ m → g[k]? = h[k]?) → h.length ≤ g.length → (∀ v d, (v, d) ∈ bs' → (v, d) ∈ bs ∨ h.length ≤ d) → (∀ v d, (v, d) ∈ bs → (v, d) ∈ bs') → K (.ptr b 0) g) : Tri Pr R n_audit_lines_line [.map m, .int .i64 u] h K := by
  apply c_audit_lines_line
  unfold p_audit_lines_line
  refine joinP_all (LJ m u (Ls c m l sp C f spent) bs h) ?_ ?_
  · rcases L.lk u with ⟨no, h1⟩ | ⟨b, hb, h1⟩
    · rw [h1]
      simp -implicitDefEqProofs
      refine L.new no fun g L2 h2 h3 => ⟨rfl, _, h.length, L2, by simp, h2, by omega, fun v d hd => ?_, fun v d hd => List.mem_append.2 (.inl hd)⟩
      rcases List.mem_append.1 hd with hd | hd
      · exact .inl hd
      · simp at hd; exact .inr (by omega)
    · rw [h1]
      simp -implicitDefEqProofs
      exact ⟨rfl, bs, b, L, hb, fun _ _ _ => rfl, Nat.le_refl _, fun v d hd => .inl hd, fun v d hd => hd⟩
  · rintro _ g ⟨rfl, bs', b, L2, hb, h2, h3, h4, h5⟩
    refine ⟨h3, ?_⟩
    rcases L2.lk u with ⟨no, _⟩ | ⟨b2, hb2, h1⟩
    · exact absurd hb (no b)
    · rw [h1]
      exact hk g bs' b2 L2 hb2 h2 h3 h4 h5
end ls
end Go.AI

/- Audits: events are counted. -/
set_option linter.all false
namespace Go.AI
variable {A : Type} {R : Adts A}
theorem uAt_set {us : List Usr} {u : Int} {j : Nat} {v : Usr} (h : uAt us u = some j) (hv : v.user = (us.getD j usr0).user) : uAt (us.set j v) u = some j := by
  unfold uAt at *
  rw [List.findIdx?_eq_some_iff_getElem] at h ⊢
  obtain ⟨h1, h2, h3⟩ := h
  rw [List.getD_eq_getElem?_getD, List.getElem?_eq_getElem h1] at hv
  simp only [Option.getD_some] at hv
  refine ⟨by simpa using h1, by rw [List.getElem_set_self, hv]; exact h2, fun k hk => ?_⟩
  rw [List.getElem_set_ne (by omega)]
  exact h3 k hk
theorem fail_user {C : Cfg} {S : Sta} {E : Ev} (h : (sApply C S E).2 = 0) (h2 : E.kind = 2) : ∃ j, uAt (sApply C S E).1.users E.user = some j := by
  have h1 := (sApply_ok h).1
  unfold sDoes at h1
  rw [if_neg (by omega), if_neg (by omega), if_neg (by omega), if_neg (by omega), if_neg (by omega), if_neg (by omega)] at h1
  cases hu : uAt S.users E.user with
  | none => rw [hu] at h1; simp at h1
  | some j =>
    rw [hu] at h1
    dsimp only at h1
    simp only [Option.map_eq_some_iff] at h1
    obtain ⟨v, hv, h3⟩ := h1
    rw [← h3]
    exact ⟨j, uAt_set hu (uTurn_used hv).2⟩
/-- What is kept. -/
structure Kp (m : Nat) (bs bs' : List (Int × Nat)) (h g : AHeap A) : Prop where
  k : ∀ k, k < h.length → k ≠ m → (∀ u, (u, k) ∉ bs) → g[k]? = h[k]?
  l : h.length ≤ g.length
  b : ∀ v d, (v, d) ∈ bs' → (v, d) ∈ bs ∨ h.length ≤ d
theorem Kp.set {m : Nat} {bs bs' : List (Int × Nat)} {h g : AHeap A} (H : Kp m bs bs' h g) {u : Int} {b : Nat} (hb : (u, b) ∈ bs') (o : AObj A) : Kp m bs bs' h (g.set b o) := by
  refine ⟨fun k hk hm hn => ?_, by simpa using H.l, H.b⟩
  rw [List.getElem?_set_ne]
  · exact H.k k hk hm hn
  · rintro rfl
    rcases H.b u b hb with h1 | h1
    · exact hn u h1
    · omega
section ls
variable {c m l sp : Nat} {C : Cfg} {f : Int → Ln} {spent : Bool} {bs : List (Int × Nat)} {h : AHeap A}
theorem count_ok (hR : R.Ok) (L : Ls c m l sp C f spent bs h) {O : Nat → Prop} (hO : ∀ k, O k ↔ (k = c ∨ k = m ∨ k = l ∨ k = sp ∨ ∃ u, (u, k) ∈ bs)) {x : Nat} {pe : AVal} {ps pt : Nat} {E : Ev} {S T : Sta} (Q : Seen C h O x pe ps pt E S T) {K : AVal → AHeap A → Prop}
    (hk : ∀ g bs', Ls c m l sp C (lnCount C f spent E T) spent bs' g → Kp m bs bs' h g → K (.tup []) g) : Tri Pr R n_audit_lines_count [.map m, .ptr x 0, .bool spent, .int .i64 C.fails] h K := by
  obtain ⟨i, hx⟩ := Q.hx
  have at0 := Q.he h fun _ _ _ => rfl
  have c0 : ldV 1 false (pe.fad 0) h = some (.int .i64 E.kind) := at0.cell 0 (by simp [Ev.row])
  have c1 : ldV 1 false (pe.fad 1) h = some (.int .i64 E.user) := at0.cell 1 (by simp [Ev.row])
  have nm : ∀ k, ¬ O k → k ≠ m ∧ ∀ u, (u, k) ∉ bs := fun k hk => ⟨fun h1 => hk ((hO k).2 (.inr (.inl h1))), fun u hu => hk ((hO k).2 (.inr (.inr (.inr (.inr ⟨u, hu⟩)))))⟩
  have xl : x < h.length := (List.getElem?_eq_some_iff.1 hx).1
  apply c_audit_lines_count
  unfold p_audit_lines_count
  by_cases k3 : E.kind = 3
  · simp -implicitDefEqProofs [hx, AObj.read, at0.nn, at0.fad, c0, c1, k3]
    refine line_ok L E.user fun g bs' b L2 hb h2 h3 h4 h5 => ?_
    have hbx := L2.hb _ _ hb
    unfold Ln.row at hbx
    simp -implicitDefEqProofs [hbx, AObj.read]
    refine hk _ bs' ?_ (Kp.set ⟨fun k hk hm _ => h2 k hk hm, h3, h4⟩ hb _)
    unfold lnCount
    rw [if_pos k3]
    exact L2.upd hb _
  have k3' : (E.kind == 3) = false := by simpa using k3
  by_cases k2 : E.kind = 2
  · simp -implicitDefEqProofs [hx, AObj.read, at0.nn, at0.fad, c0, c1, k2]
    refine line_ok L E.user fun g bs' b L2 hb h2 h3 h4 h5 => ?_
    have hbx := L2.hb _ _ hb
    unfold Ln.row at hbx
    have H1 : Kp m bs bs' h g := ⟨fun k hk hm _ => h2 k hk hm, h3, h4⟩
    have L3 := L2.upd hb { f E.user with fails := inc (f E.user).fails }
    have H3 := H1.set hb (.cells t_api_Line ({ f E.user with fails := inc (f E.user).fails } : Ln).row)
    obtain ⟨g3, hg3⟩ : ∃ g3, g3 = g.set b (.cells t_api_Line ({ f E.user with fails := inc (f E.user).fails } : Ln).row) := ⟨_, rfl⟩
    rw [← hg3] at L3 H3
    have kp3 : ∀ k, k < h.length → ¬ O k → g3[k]? = h[k]? := fun k hk hn => H3.k k hk (nm k hn).1 (nm k hn).2
    have hx3 : g3[x]? = _ := (kp3 x xl Q.nx).trans hx
    have at3 := Q.he g3 kp3
    have c13 : ldV 1 false (pe.fad 1) g3 = some (.int .i64 E.user) := at3.cell 1 (by simp [Ev.row])
    obtain ⟨tv, htv, htp⟩ := Q.ht
    have ptl : pt < h.length := (List.getElem?_eq_some_iff.1 htp).1
    have htp3 : g3[pt]? = _ := (kp3 pt ptl Q.nt).trans htp
    obtain ⟨tu, tx, ta, tp, htv, hu, _, _, _⟩ := htv
    obtain rfl : tv = _ := by simpa using htv
    have fld : Fld (.ptr pt 0) 3 tu g3 := ⟨fun K => by simp, fun K => by simp [AVal.fad], fun g' => by
      have : (g3 ++ g')[pt]? = _ := get_app htp3
      simp [AVal.fad, ldV, this, AObj.read]⟩
    simp -implicitDefEqProofs [hbx, AObj.read]
    rw [show g.set b (.cells t_api_Line [.int .i64 (f E.user).user, .int .i64 (f E.user).logins, .int .i64 (f E.user).resumes, .int .i64 (IntKind.i64.wrap ((f E.user).fails + 1)), .int .i64 (f E.user).locks, .int .i64 (f E.user).opn, .int .i64 (f E.user).bytes]) = g3 from hg3.symm]
    simp -implicitDefEqProofs [hx3, AObj.read, at3.nn, at3.fad, c13]
    obtain ⟨j, hj⟩ := fail_user Q.ok.1 k2
    rw [← Q.ok.2] at hj
    refine state_User_ok hR fld (fun g' => hu.rd usrR _) Q.leT.1.u E.user (fun h6 => absurd (h6.symm.trans hj) (by simp)) (fun j2 p hj2 hp => ?_)
    obtain rfl : j = j2 := by simpa using hj.symm.trans hj2
    obtain ⟨p2, hp2, hat⟩ := (hu.rd usrR (g3 ++ [.cells t_int [.int .i64 E.user]])).get j (uAt_lt hj)
    obtain rfl := idx_uniq hp hp2
    have cf : ldV 1 false (p.fad 5) (g3 ++ [.cells t_int [.int .i64 E.user]]) = some (.int .i64 (T.users[j]'(uAt_lt hj)).fails) := hat.cell 5 (by simp [Usr.row])
    have L4 := L3.grow [.cells t_int [.int .i64 E.user]]
    have H4 : Kp m bs bs' h (g3 ++ [.cells t_int [.int .i64 E.user]]) := ⟨fun k hk hm hn => by rw [List.getElem?_append_left (by have := H3.l; omega)]; exact H3.k k hk hm hn, by have := H3.l; simp; omega, H3.b⟩
    have hb4 := L4.hb _ _ hb
    unfold Ln.row at hb4
    have lu : lnUp f E.user { f E.user with fails := inc (f E.user).fails } E.user = { f E.user with fails := inc (f E.user).fails } := by simp [lnUp]
    rw [lu] at hb4
    have hgd : T.users.getD j usr0 = T.users[j]'(uAt_lt hj) := usr_get (uAt_lt hj)
    by_cases kf : (T.users[j]'(uAt_lt hj)).fails = C.fails
    · have e : lnCount C f spent E T = lnLock (lnFail f E.user) E.user := by
        unfold lnCount; rw [if_neg k3, if_pos k2, hj]; simp only [hgd, kf]; simp
      simp -implicitDefEqProofs [hat.nn, hat.fad, hat.fad2, cf, kf, hb4, AObj.read]
      refine hk _ bs' ?_ (H4.set hb _)
      rw [e]
      have := L4.upd hb { (lnFail f E.user E.user) with locks := inc (lnFail f E.user E.user).locks }
      simp only [lnFail, lu] at this ⊢
      unfold lnLock
      rw [lu]
      exact this
    · have kf' : ((T.users[j]'(uAt_lt hj)).fails == C.fails) = false := by simpa using kf
      have e : lnCount C f spent E T = lnFail f E.user := by
        unfold lnCount; rw [if_neg k3, if_pos k2, hj]; simp only [hgd, kf]; simp
      simp -implicitDefEqProofs [hat.nn, hat.fad, hat.fad2, cf, kf', hb4, AObj.read]
      refine hk _ bs' ?_ H4
      rw [e]
      exact L4
  have k2' : (E.kind == 2) = false := by simpa using k2
  by_cases k5 : E.kind = 5
  · cases spent with
    | true =>
      simp -implicitDefEqProofs [hx, AObj.read, at0.nn, at0.fad, c0, c1, k5]
      refine line_ok L E.user fun g bs' b L2 hb h2 h3 h4 h5 => ?_
      have hbx := L2.hb _ _ hb
      unfold Ln.row at hbx
      simp -implicitDefEqProofs [hbx, AObj.read]
      refine hk _ bs' ?_ (Kp.set ⟨fun k hk hm _ => h2 k hk hm, h3, h4⟩ hb _)
      unfold lnCount
      rw [if_neg k3, if_neg k2, if_pos k5, if_pos rfl]
      exact L2.upd hb _
    | false =>
      simp -implicitDefEqProofs [hx, AObj.read, at0.nn, at0.fad, c0, c1, k5]
      refine hk _ bs ?_ ⟨fun _ _ _ _ => rfl, Nat.le_refl _, fun v d hd => .inl hd⟩
      unfold lnCount
      rw [if_neg k3, if_neg k2, if_pos k5, if_neg (by simp)]
      exact L
  have k5' : (E.kind == 5) = false := by simpa using k5
  simp -implicitDefEqProofs [hx, AObj.read, at0.nn, at0.fad, c0, c1, k3', k2', k5']
  refine hk _ bs ?_ ⟨fun _ _ _ _ => rfl, Nat.le_refl _, fun v d hd => .inl hd⟩
  unfold lnCount
  rw [if_neg k3, if_neg k2, if_neg k5]
  exact L
def LInv (c m l sp : Nat) (C : Cfg) (s : (Int → Ln) × Bool) (O : Nat → Prop) (g : AHeap A) : Prop :=
  ∃ bs, Ls c m l sp C s.1 s.2 bs g ∧ ∀ k, O k ↔ (k = c ∨ k = m ∨ k = l ∨ k = sp ∨ ∃ u, (u, k) ∈ bs)
theorem lseer (c m l sp : Nat) (C : Cfg) : Seer A (LInv c m l sp C) :=
  ⟨fun s O g k ⟨bs, L, hO⟩ hk => L.own ((hO k).1 hk), fun s O g g' ⟨bs, L, hO⟩ hg => ⟨bs, L.move fun k hk => hg k ((hO k).2 hk), hO⟩⟩
theorem lsees (hR : R.Ok) (c m l sp : Nat) (C : Cfg) (es : List Ev) : Sees Pr R C (LInv (A := A) c m l sp C) (lnStep C) (fun _ _ => True) n_audit_Lines_c1 [.ptr l 0, .ptr sp 0, .ptr c 0] es := by
  rintro s O g x pe ps pt E S T K _ _ ⟨bs, L, hO⟩ Q hK
  have hc := L.hc
  have hl := L.hl
  have hp := L.hp
  have nm : ∀ k, ¬ O k → k ≠ m ∧ k ≠ sp ∧ ∀ u, (u, k) ∉ bs := fun k hk => ⟨fun h1 => hk ((hO k).2 (.inr (.inl h1))), fun h1 => hk ((hO k).2 (.inr (.inr (.inr (.inl h1))))), fun u hu => hk ((hO k).2 (.inr (.inr (.inr (.inr ⟨u, hu⟩)))))⟩
  obtain ⟨i, hx⟩ := Q.hx
  have xl : x < g.length := (List.getElem?_eq_some_iff.1 hx).1
  unfold Cfg.row at hc
  apply c_audit_Lines_c1
  unfold p_audit_Lines_c1
  simp -implicitDefEqProofs [hc, hl, hp, AObj.read]
  refine count_ok hR L hO Q fun g2 bs' L2 H2 => ?_
  have kp : ∀ k, k < g.length → ¬ O k → g2[k]? = g[k]? := fun k hk hn => H2.k k hk (nm k hn).1 (nm k hn).2.2
  have hx2 : g2[x]? = _ := (kp x xl Q.nx).trans hx
  have at2 := Q.he g2 kp
  have c0 : ldV 1 false (pe.fad 0) g2 = some (.int .i64 E.kind) := at2.cell 0 (by simp [Ev.row])
  have hp2 := L2.hp
  simp -implicitDefEqProofs [hx2, hp2, AObj.read, at2.nn, at2.fad, c0]
  refine hK _ _ ⟨bs', L2.pset _, fun k => Iff.rfl⟩ (fun k hk hn => ?_) (by simpa using H2.l) (fun k hk => ?_)
  · rw [List.getElem?_set_ne (Ne.symm (nm k hn).2.1)]
    exact kp k hk hn
  · rcases hk with h1 | h1 | h1 | h1 | ⟨u, h1⟩
    · exact .inl ((hO k).2 (.inl h1))
    · exact .inl ((hO k).2 (.inr (.inl h1)))
    · exact .inl ((hO k).2 (.inr (.inr (.inl h1))))
    · exact .inl ((hO k).2 (.inr (.inr (.inr (.inl h1)))))
    · rcases H2.b u k h1 with h2 | h2
      · exact .inl ((hO k).2 (.inr (.inr (.inr (.inr ⟨u, h2⟩)))))
      · exact .inr h2
end ls
end Go.AI

/- Audits: Lines. -/
set_option linter.all false
namespace Go.AI
variable {A : Type} {R : Adts A}
theorem reps9 : reps 9 (AVal.int .i64 0) = [.int .i64 0, .int .i64 0, .int .i64 0, .int .i64 0, .int .i64 0, .int .i64 0, .int .i64 0, .int .i64 0, .int .i64 0] := rfl
def lnOpens (f : Int → Ln) (xs : List Ses) : Int → Ln := xs.foldl (fun f x => lnOpen f x.user) f
def lnOut (f : Int → Ln) (us : List Usr) : List Ln := us.map fun u => { f u.user with bytes := u.used }
/-- The lines of events; none: they may not come. -/
def aLines (C : Cfg) (es : List Ev) : Option (List Ln) := (wAll C (lnStep C) (ln0, false) es).map fun p => lnOut (lnOpens p.1.1 p.2.sess) p.2.users
def L1 (C : Cfg) (n : Nat) (S : Sta) (f : Int → Ln) (sp : Bool) (h : AHeap A) (q : Nat) (sv : List AVal) (mm : Nat) (y : List AVal) (g : AHeap A) : Prop :=
  ∃ (i : Nat) (bs : List (Int × Nat)), y = [.int .i64 i] ∧ i ≤ S.sess.length ∧ Ls n (n + 1) (n + 2) (n + 3) C (lnOpens f (S.sess.take i)) sp bs g ∧ (∀ k, k < n → g[k]? = h[k]?) ∧ g[q]? = some (.cells t_api_State sv) ∧ (∀ u b, (u, b) ∈ bs → n ≤ b) ∧ n ≤ g.length ∧ mm = S.sess.length - i
def L2 (C : Cfg) (n : Nat) (S : Sta) (f : Int → Ln) (sp : Bool) (h : AHeap A) (nn : Nat) (mm : Nat) (y : List AVal) (g : AHeap A) : Prop :=
  ∃ (i : Nat) (bs : List (Int × Nat)) (a : AVal), nn ≤ g.length ∧ y = [a, .int .i64 i] ∧ i ≤ S.users.length ∧ Ls n (n + 1) (n + 2) (n + 3) C f sp bs g ∧ (∀ k, k < n → g[k]? = h[k]?) ∧ (∀ u b, (u, b) ∈ bs → n ≤ b) ∧ n ≤ g.length ∧ Own Ln.row 7 t_api_Line a (lnOut f (S.users.take i)) g ∧ (∀ b, a.blk = some b → n ≤ b ∧ ∀ u, (u, b) ∉ bs) ∧ mm = S.users.length - i
theorem audit_Lines_ok (hR : R.Ok) (C : Cfg) {a : AVal} {es : List Ev} {h : AHeap A} (ha : EvRd a es h) (hn : es.length ≤ 1048576) {K : AVal → AHeap A → Prop}
    (hk0 : aLines C es = none → ∀ g, (∀ k, k < h.length → g[k]? = h[k]?) → h.length ≤ g.length → K (.tup [.nils, .int .i64 2500]) g)
    (hk1 : ∀ o, aLines C es = some o → ∀ x g, Own Ln.row 7 t_api_Line x o g → (∀ b, x.blk = some b → h.length ≤ b) → (∀ k, k < h.length → g[k]? = h[k]?) → h.length ≤ g.length → K (.tup [x, .int .i64 0]) g) : Tri Pr R n_audit_Lines [.agg C.row, a] h K := by
  have rc : Cfg.row C = [.int .i64 C.sectors, .int .i64 C.halves, .int .i64 C.sessions, .int .i64 C.addresses, .int .i64 C.fails, .int .i64 C.lockout, .int .i64 C.halfLife, .int .i64 C.idle, .int .i64 C.absolute, .int .i64 C.quarantine, .int .i64 C.ticketLife, .int .i64 C.keep] := rfl
  apply c_audit_Lines
  unfold p_audit_Lines
  simp -implicitDefEqProofs [rc, mkmP]
  rw [← rc]
  obtain ⟨h1, hh1⟩ : ∃ h1, h1 = h ++ [AObj.cells t_api_Config C.row, .map [] 0, .cells t_audit_lines [.map (h.length + 1)], .cells t_bool [.bool false]] := ⟨_, rfl⟩
  rw [← hh1]
  have len1 : h1.length = h.length + 4 := by rw [hh1]; simp
  have kp1 : ∀ k, k < h.length → h1[k]? = h[k]? := fun k hk => by rw [hh1, List.getElem?_append_left hk]
  have b0 : h1[h.length]? = some (.cells t_api_Config C.row) := by rw [hh1, List.getElem?_append_right (by omega)]; simp
  have b1 : h1[h.length + 1]? = some (.map [] 0) := by rw [hh1, List.getElem?_append_right (by omega)]; simp
  have b2 : h1[h.length + 2]? = some (.cells t_audit_lines [.map (h.length + 1)]) := by rw [hh1, List.getElem?_append_right (by omega)]; simp
  have b3 : h1[h.length + 3]? = some (.cells t_bool [.bool false]) := by rw [hh1, List.getElem?_append_right (by omega)]; simp
  have L0 : Ls h.length (h.length + 1) (h.length + 2) (h.length + 3) C ln0 false [] h1 := ⟨b0, b1, b2, b3, fun _ _ hu => by simp at hu, fun _ _ => rfl, fun _ _ _ _ hu => by simp at hu⟩
  have b0' := b0
  have ha2 := ha.move kp1 (by omega)
  refine audit_walk_ok hR (lseer h.length (h.length + 1) (h.length + 2) (h.length + 3) C) C (lsees hR _ _ _ _ C es) (by kernel_rfl) (O0 := fun k => k = h.length ∨ k = h.length + 1 ∨ k = h.length + 2 ∨ k = h.length + 3) (s0 := (ln0, false)) ⟨[], L0, fun k => by simp⟩ trivial (fun _ _ _ _ _ _ => trivial) (fun g hg => ha g fun k hk => ?_) hn (fun s S sv O g hw hsv hle hi hf hl ho => ?_) (fun hw i er r g he hr hf hl => ?_)
  · rw [hg k (by omega) (by omega)]; exact kp1 k hk
  · obtain ⟨bs, L, hO⟩ := hi
    obtain ⟨u, x, ad', p, rfl, hu, hx, had, hp⟩ := hsv
    have s1 := hu.sc
    have s2 := hx.sc
    have s3 := had.sc
    have s4 := hp.sc
    have kp : ∀ k, k < h.length → g[k]? = h[k]? := fun k hk => (hf k (by omega) (by omega)).trans (kp1 k hk)
    have hbs : ∀ u b, (u, b) ∈ bs → h.length ≤ b := fun u b hb => by
      rcases ho b ((hO b).2 (.inr (.inr (.inr (.inr ⟨u, hb⟩))))) with h2 | h2 <;> omega
    have e : aLines C es = some (lnOut (lnOpens s.1 S.sess) S.users) := by unfold aLines; rw [hw]; rfl
    simp -implicitDefEqProofs [s1, s2, s3, s4]
    refine audit_bad_nil ?_
    have rdx := fun g : AHeap A => hx.rd sesR g
    have rdu := fun g : AHeap A => hu.rd usrR g
    simp -implicitDefEqProofs [(rdx ([] : AHeap A)).len]
    refine loopP_go (L1 C h.length S s.1 s.2 h g.length [.int .i64 S.boots, .int .i64 S.epoch, .int .i64 S.next, u, x, ad', p]) S.sess.length (Gives.done (Nat.le_refl _) ⟨0, bs, rfl, by omega, L.grow _, fun k hk => by rw [List.getElem?_append_left (by omega)]; exact kp k hk, by simp, hbs, by simp; omega, by omega⟩) ?_
    rintro mm y g2 ⟨i, bs2, rfl, hi2, L2', kp2, hq2, hb2, hl2, rfl⟩
    have e1 := w64 (n := (i : Int) + 1) (by have := hle.x; omega)
    have hql := (List.getElem?_eq_some_iff.1 hq2).1
    by_cases h3 : i < S.sess.length
    · obtain ⟨pp, hpp, hat⟩ := (rdx g2).get i h3
      have hall : ldV 4 true pp g2 = some (.agg (S.sess[i]).row) := hat.all
      unfold Ses.row at hall
      have L3 := L2'.grow [.cells t_api_Session [.int .i64 (S.sess[i]).session, .int .i64 (S.sess[i]).user, .int .i64 (S.sess[i]).address, .int .i64 (S.sess[i]).start]]
      have hl3 := L3.hl
      simp -implicitDefEqProofs [h3, hpp, hall, hl3, AObj.read]
      refine line_ok L3 (S.sess[i]).user fun g4 bs4 b L4 hb h5 h6 h7 h8 => ?_
      have hbx := L4.hb _ _ hb
      unfold Ln.row at hbx
      simp -implicitDefEqProofs [hbx, AObj.read, e1]
      have hqb : g.length ≠ b := by
        rintro rfl
        have h9 : g4[g.length]? = _ := (h5 g.length (by have := (List.getElem?_eq_some_iff.1 hq2).1; simp; omega) (by omega)).trans (get_app hq2)
        rw [L4.hb _ _ hb] at h9
        exact absurd (AObj.cells.inj (Option.some.inj h9)).1 (by decide)
      have bge : ∀ v d, (v, d) ∈ bs4 → h.length ≤ d := fun v d hd => by
        rcases h7 v d hd with h9 | h9
        · exact hb2 v d h9
        · simp at h9; omega
      refine Gives.done (by simp at h6; simp; omega) ⟨S.sess.length - (i + 1), by omega, i + 1, bs4, by simp, by omega, ?_, fun k hk => ?_, ?_, bge, by simp at h6; simp; omega, rfl⟩
      · have := L4.upd hb { lnOpens s.1 (S.sess.take i) (S.sess[i]).user with opn := inc (lnOpens s.1 (S.sess.take i) (S.sess[i]).user).opn }
        rw [List.take_succ_eq_append_getElem h3]
        unfold lnOpens
        rw [List.foldl_append]
        exact this
      · rw [List.getElem?_set_ne (by have := bge _ _ hb; omega), h5 k (by simp; omega) (by omega), List.getElem?_append_left (by omega)]
        exact kp2 k hk
      · rw [List.getElem?_set_ne (Ne.symm hqb), h5 _ (by have := (List.getElem?_eq_some_iff.1 hq2).1; simp; omega) (by omega)]
        exact get_app hq2
    · have hie : i = S.sess.length := by omega
      subst hie
      rw [List.take_length] at L2'
      simp -implicitDefEqProofs [h3, hq2, AObj.read, (rdu ([] : AHeap A)).len]
      refine loopP_go (L2 C h.length S (lnOpens s.1 S.sess) s.2 h g2.length) S.users.length (Gives.done (Nat.le_refl _) ⟨0, bs2, .nils, Nat.le_refl _, rfl, by omega, L2', kp2, hb2, hl2, Own.nil, fun b hb => by simp [AVal.blk] at hb, by omega⟩) ?_
      rintro mm y g3 ⟨j, bs3, av, hnn, rfl, hj3, L3, kp3, hb3, hl3, ov, ovb, rfl⟩
      have e2 := w64 (n := (j : Int) + 1) (by have := hle.u; omega)
      by_cases h4 : j < S.users.length
      · obtain ⟨pp, hpp, hat⟩ := (rdu g3).get j h4
        have hall : ldV 9 true pp g3 = some (.agg (S.users[j]).row) := hat.all
        unfold Usr.row at hall
        have L4 := L3.grow [.cells t_api_User [.int .i64 (S.users[j]).user, .int .i64 (S.users[j]).key, .int .i64 (S.users[j]).secret, .int .i64 (S.users[j]).quota, .int .i64 (S.users[j]).used, .int .i64 (S.users[j]).fails, .int .i64 (S.users[j]).unt, .int .i64 (S.users[j]).step, .int .i64 (S.users[j]).gen]]
        have hl4 := L4.hl
        have sav := ov.sc
        simp -implicitDefEqProofs [h4, hpp, hall, hl4, AObj.read, reps9]
        refine line_ok L4 (S.users[j]).user fun g5 bs5 b L5 hb h5 h6 h7 h8 => ?_
        have hbx := L5.hb _ _ hb
        unfold Ln.row at hbx
        have hU : g5[g3.length]? = some (.cells t_api_User [.int .i64 (S.users[j]).user, .int .i64 (S.users[j]).key, .int .i64 (S.users[j]).secret, .int .i64 (S.users[j]).quota, .int .i64 (S.users[j]).used, .int .i64 (S.users[j]).fails, .int .i64 (S.users[j]).unt, .int .i64 (S.users[j]).step, .int .i64 (S.users[j]).gen]) := by
          have hm3 := L3.own (k := h.length + 1) (.inr (.inl rfl))
          rw [h5 _ (by simp) (by omega)]; simp
        have hU2 : ∀ g' : AHeap A, (g5 ++ g')[g3.length]? = _ := fun g' => get_app hU
        simp -implicitDefEqProofs [hbx, AObj.read, hU, hU2, e2]
        have bm : ∀ b, av.blk = some b → b ≠ h.length + 1 := by
          rintro b hb2 rfl
          obtain ⟨cs, hcs⟩ := ov.at hb2
          rw [L3.hm] at hcs
          simp at hcs
        have k5 : ∀ k, k < g3.length → k ≠ h.length + 1 → g5[k]? = g3[k]? := fun k hk hm => by rw [h5 k (by simp; omega) hm, List.getElem?_append_left hk]
        have l5 : g3.length + 1 ≤ g5.length := by simpa using h6
        have bge : ∀ v d, (v, d) ∈ bs5 → h.length ≤ d := fun v d hd => by
          rcases h7 v d hd with h9 | h9
          · exact hb3 v d h9
          · simp at h9; omega
        have ov5 := ov.move' (h' := g5) fun b hb2 => k5 b (ov.blt hb2) (bm b hb2)
        obtain ⟨n, hnr⟩ : ∃ n : Ln, n = { lnOpens s.1 S.sess (S.users[j]).user with bytes := (S.users[j]).used } := ⟨_, rfl⟩
        have hout : lnOut (lnOpens s.1 S.sess) (S.users.take j) ++ [n] = lnOut (lnOpens s.1 S.sess) (S.users.take (j + 1)) := by
          rw [List.take_succ_eq_append_getElem h4, lnOut, lnOut, List.map_append, hnr]; rfl
        have hol : (lnOut (lnOpens s.1 S.sess) (S.users.take j)).length = j := by unfold lnOut; rw [List.length_map, List.length_take]; omega
        have hnrow : n.row = [AVal.int IntKind.i64 (lnOpens s.1 S.sess (S.users[j]).user).user, AVal.int IntKind.i64 (lnOpens s.1 S.sess (S.users[j]).user).logins, AVal.int IntKind.i64 (lnOpens s.1 S.sess (S.users[j]).user).resumes, AVal.int IntKind.i64 (lnOpens s.1 S.sess (S.users[j]).user).fails, AVal.int IntKind.i64 (lnOpens s.1 S.sess (S.users[j]).user).locks, AVal.int IntKind.i64 (lnOpens s.1 S.sess (S.users[j]).user).opn, AVal.int IntKind.i64 (S.users[j]).used] := by rw [hnr]; rfl
        rw [← hnrow]
        have ov6 := ov5.move' (h' := g5 ++ [.cells t_api_Line n.row, .cells t_api_Line n.row]) fun b hb2 => List.getElem?_append_left (by have := ov.blt hb2; omega)
        refine app_own lnR (l2 := [n]) ov6 (by decide) ?_ (by rw [hol]; have := hle.u; simp; omega) fun a' h' o1 o2 o3 o4 => ?_
        · have : (g5 ++ [.cells t_api_Line n.row, .cells t_api_Line n.row] : AHeap A)[g5.length + 1]? = some (.cells t_api_Line n.row) := by rw [List.getElem?_append_right (by omega)]; simp
          simp [srcOf, cellsAt, this, AObj.read]
          rw [lnR.len]
          exact ⟨Nat.le_refl _, List.take_of_length_le (by rw [lnR.len]; exact Nat.le_refl _)⟩
        rw [hout] at o1
        have ln6 : (g5 ++ [.cells t_api_Line n.row, .cells t_api_Line n.row] : AHeap A).length = g5.length + 2 := by simp
        rw [ln6] at o2 o3 o4
        have L6 := L5.grow [.cells t_api_Line n.row, .cells t_api_Line n.row]
        have old : ∀ b, av.blk = some b → ∀ u, (u, b) ∉ bs5 := fun b hb2 u hu => by
          rcases h7 u b hu with h9 | h9
          · exact (ovb b hb2).2 u h9
          · have := ov.blt hb2; simp at h9; omega
        have L7 : Ls h.length (h.length + 1) (h.length + 2) (h.length + 3) C (lnOpens s.1 S.sess) s.2 bs5 h' := L6.move fun k hk => o2 k (by have := L5.own hk; omega) fun hb2 => by
          have hcs := ov6.at hb2
          obtain ⟨cs, hcs⟩ := hcs
          rcases hk with rfl | rfl | rfl | rfl | ⟨u, hu⟩
          · rw [L6.hc] at hcs; exact absurd (AObj.cells.inj (Option.some.inj hcs)).1 (by decide)
          · rw [L6.hm] at hcs; simp at hcs
          · rw [L6.hl] at hcs; exact absurd (AObj.cells.inj (Option.some.inj hcs)).1 (by decide)
          · rw [L6.hp] at hcs; exact absurd (AObj.cells.inj (Option.some.inj hcs)).1 (by decide)
          · exact old k hb2 u hu
        refine Gives.done (by omega) ⟨S.users.length - (j + 1), by omega, j + 1, bs5, a', by omega, by simp, by omega, L7, fun k hk => ?_, bge, by omega, o1, fun b hb2 => ?_, rfl⟩
        · rw [o2 k (by omega) (fun hb2 => by have := (ovb k hb2).1; omega), List.getElem?_append_left (by omega), k5 k (by omega) (by omega)]
          exact kp3 k hk
        · rcases o4 b hb2 with h9 | h9
          · exact ⟨(ovb b h9).1, old b h9⟩
          · exact ⟨by omega, fun u hu => by have := L5.own (k := b) (.inr (.inr (.inr (.inr ⟨u, hu⟩)))); omega⟩
      · have hie : j = S.users.length := by omega
        subst hie
        rw [List.take_length] at ov
        simp -implicitDefEqProofs [h4]
        exact hk1 _ e av g3 ov (fun b hb => (ovb b hb).1) kp3 hl3
  · have e : aLines C es = none := by unfold aLines; rw [hw]; rfl
    unfold zSta
    simp -implicitDefEqProofs
    refine audit_bad_ref he (get_app hr) ?_
    simp -implicitDefEqProofs
    exact hk0 e _ (fun k hk => by rw [List.getElem?_append_left (by omega)]; exact (hf k (by omega) (by omega)).trans (kp1 k hk)) (by simp; omega)
end Go.AI

/- Audits: Trace. -/
set_option linter.all false
namespace Go.AI
variable {A : Type} {R : Adts A}
/-- Whose an event is. -/
def whoOf (S : Sta) (E : Ev) : Int :=
  if E.kind = 6 then (match xAt S.sess E.session with | some j => (S.sess.getD j ses0).user | none => -1)
  else if E.kind = 0 ∨ E.kind = 8 ∨ E.kind = 9 then -1 else E.user
def trStep (user : Int) (s : List Ev) (E : Ev) (S _ : Sta) : List Ev := if whoOf S E = user then s ++ [E] else s
/-- A user's events; none: they may not come, or nobody is the user. -/
def aTrace (C : Cfg) (user : Int) (es : List Ev) : Option (List Ev) := (wAll C (trStep user) [] es).bind fun p => if (uAt p.2.users user).isSome = true then some p.1 else none
theorem seen_of_ok (hR : R.Ok) {C : Cfg} {h : AHeap A} {O : Nat → Prop} {x : Nat} {pe : AVal} {ps pt : Nat} {E : Ev} {S T : Sta} (Q : Seen C h O x pe ps pt E S T) {K : AVal → AHeap A → Prop}
    (hk : ∀ g, K (.int .i64 (whoOf S E)) (h ++ g)) : Tri Pr R n_audit_seen_of [.ptr x 0] h K := by
  obtain ⟨i, hx⟩ := Q.hx
  have at0 := Q.he h fun _ _ _ => rfl
  have c0 : ldV 1 false (pe.fad 0) h = some (.int .i64 E.kind) := at0.cell 0 (by simp [Ev.row])
  have c1 : ldV 1 false (pe.fad 1) h = some (.int .i64 E.user) := at0.cell 1 (by simp [Ev.row])
  have c2 : ldV 1 false (pe.fad 2) h = some (.int .i64 E.session) := at0.cell 2 (by simp [Ev.row])
  obtain ⟨sv, hsv, hsp⟩ := Q.hs
  obtain ⟨su, sx, sa, sp, hsv, _, hx2, _, _⟩ := hsv
  obtain rfl : sv = _ := by simpa using hsv
  have fld : Fld (.ptr ps 0) 4 sx h := ⟨fun K => by simp, fun K => by simp [AVal.fad], fun g' => by
    have : (h ++ g')[ps]? = _ := get_app hsp
    simp [AVal.fad, ldV, this, AObj.read]⟩
  have hk' := hk []
  rw [List.append_nil] at hk'
  apply c_audit_seen_of
  unfold p_audit_seen_of
  simp -implicitDefEqProofs [hx, AObj.read, at0.nn, at0.fad, c0, c1]
  refine joinP_go ?_
  by_cases k6 : E.kind = 6
  · simp -implicitDefEqProofs [k6, hx, AObj.read, at0.nn, at0.fad, c2]
    refine state_Session_ok hR fld (fun g' => hx2.rd sesR _) Q.le.1.x E.session (fun h6 => ?_) (fun j p hj hp => ?_)
    · have e : whoOf S E = -1 := by unfold whoOf; rw [if_pos k6, h6]
      simp -implicitDefEqProofs
      rw [← e]
      exact hk _
    · obtain ⟨p2, hp2, hat⟩ := (hx2.rd sesR (h ++ [.cells t_int [.int .i64 E.session]])).get j (xAt_lt hj)
      obtain rfl := idx_uniq hp hp2
      have cf : ldV 1 false (p.fad 1) (h ++ [.cells t_int [.int .i64 E.session]]) = some (.int .i64 (S.sess[j]'(xAt_lt hj)).user) := hat.cell 1 (by simp [Ses.row])
      have e : whoOf S E = (S.sess[j]'(xAt_lt hj)).user := by unfold whoOf; rw [if_pos k6, hj]; simp only [ses_get (xAt_lt hj)]
      simp -implicitDefEqProofs [hat.nen, hat.nn, hat.fad, cf]
      rw [← e]
      exact hk _
  have k6' : (E.kind == 6) = false := by simpa using k6
  have none' : E.kind = 0 ∨ E.kind = 8 ∨ E.kind = 9 → whoOf S E = -1 := fun h1 => by unfold whoOf; rw [if_neg k6, if_pos h1]
  simp -implicitDefEqProofs [k6']
  refine joinP_go ?_
  by_cases k0 : E.kind = 0
  · simp -implicitDefEqProofs [k0]
    rw [← none' (.inl k0)]; exact hk'
  have k0' : (E.kind == 0) = false := by simpa using k0
  by_cases k8 : E.kind = 8
  · simp -implicitDefEqProofs [k8]
    rw [← none' (.inr (.inl k8))]; exact hk'
  have k8' : (E.kind == 8) = false := by simpa using k8
  by_cases k9 : E.kind = 9
  · simp -implicitDefEqProofs [k9]
    rw [← none' (.inr (.inr k9))]; exact hk'
  have k9' : (E.kind == 9) = false := by simpa using k9
  have e : whoOf S E = E.user := by unfold whoOf; rw [if_neg k6, if_neg (by omega)]
  simp -implicitDefEqProofs [k0', k8', k9', hx, AObj.read, at0.nn, at0.fad, c1]
  rw [← e]; exact hk'
def TInv (ub ob : Nat) (user : Int) (s : List Ev) (O : Nat → Prop) (g : AHeap A) : Prop :=
  ∃ a, g[ub]? = some (.cells t_int [.int .i64 user]) ∧ g[ob]? = some (.cells t_sl_api_Event [a]) ∧ Own Ev.row 8 t_api_Event a s g ∧ ∀ k, O k ↔ (k = ub ∨ k = ob ∨ a.blk = some k)
theorem tseer (ub ob : Nat) (user : Int) : Seer A (TInv ub ob user) := by
  refine ⟨?_, ?_⟩
  · rintro s O g k ⟨a, h1, h2, h3, hO⟩ hk
    rcases (hO k).1 hk with rfl | rfl | hb
    · exact (List.getElem?_eq_some_iff.1 h1).1
    · exact (List.getElem?_eq_some_iff.1 h2).1
    · exact h3.blt hb
  · rintro s O g g' ⟨a, h1, h2, h3, hO⟩ hg
    exact ⟨a, (hg _ ((hO _).2 (.inl rfl))).trans h1, (hg _ ((hO _).2 (.inr (.inl rfl)))).trans h2, h3.move' fun b hb => hg b ((hO b).2 (.inr (.inr hb))), hO⟩
theorem tsees (hR : R.Ok) (ub ob : Nat) (C : Cfg) (user : Int) (es : List Ev) (hn : es.length ≤ 1048576) : Sees Pr R C (TInv (A := A) ub ob user) (trStep user) (fun s i => s.length ≤ i) n_audit_Trace_c1 [.ptr ub 0, .ptr ob 0] es := by
  rintro s O g x pe ps pt E S T K _ ⟨i0, hi0, hb0⟩ ⟨a, h1, h2, h3, hO⟩ Q hK
  obtain ⟨i, hx⟩ := Q.hx
  have xl : x < g.length := (List.getElem?_eq_some_iff.1 hx).1
  have ul := (List.getElem?_eq_some_iff.1 h1).1
  have ol := (List.getElem?_eq_some_iff.1 h2).1
  have sa := h3.sc
  apply c_audit_Trace_c1
  unfold p_audit_Trace_c1
  simp -implicitDefEqProofs [h1, AObj.read]
  refine seen_of_ok hR Q fun g2 => ?_
  have u2 : (g ++ g2)[ub]? = _ := get_app h1
  have o2 : (g ++ g2)[ob]? = _ := get_app h2
  have x2 : (g ++ g2)[x]? = _ := get_app hx
  have kp : ∀ k, k < g.length → (g ++ g2)[k]? = g[k]? := fun k hk => List.getElem?_append_left hk
  have at2 := Q.he (g ++ g2) fun k hk _ => kp k hk
  have hall : ldV 8 true pe (g ++ g2) = some (.agg E.row) := at2.all
  have own2 : Own Ev.row 8 t_api_Event a s (g ++ g2) := h3.move' fun b hb => kp b (h3.blt hb)
  have re : E.row = [.int .i64 E.kind, .int .i64 E.user, .int .i64 E.session, .int .i64 E.address, .int .i64 E.a, .int .i64 E.b, .int .i64 E.c, .int .i64 E.tick] := rfl
  by_cases hu : whoOf S E = user
  · have e : trStep user s E S T = s ++ [E] := if_pos hu
    rw [re] at hall
    simp -implicitDefEqProofs [u2, o2, x2, AObj.read, hu, at2.nn, at2.fad, hall]
    rw [← re]
    obtain ⟨g5, hg5⟩ : ∃ g5, g5 = g ++ (g2 ++ [AObj.cells t_api_Event E.row]) := ⟨_, rfl⟩
    rw [← hg5]
    have kp5 : ∀ k, k < g.length → g5[k]? = g[k]? := fun k hk => by rw [hg5]; exact List.getElem?_append_left hk
    have l5 : g5.length = g.length + g2.length + 1 := by rw [hg5]; simp; omega
    have o5 := (kp5 ob ol).trans h2
    have own5 : Own Ev.row 8 t_api_Event a s g5 := h3.move' fun b hb => kp5 b (h3.blt hb)
    refine ⟨by simp [o5, AObj.read], ?_⟩
    refine app_own evR (l2 := [E]) own5 (by decide) ?_ (by simp; omega) fun a' h' q1 q2 q3 q4 => ?_
    · have : g5[g.length + g2.length]? = some (.cells t_api_Event E.row) := by rw [hg5, ← List.append_assoc, List.getElem?_append_right (by simp)]; simp
      simp [srcOf, cellsAt, this, AObj.read]
      rw [evR.len]
      exact ⟨Nat.le_refl _, List.take_of_length_le (by rw [evR.len]; exact Nat.le_refl _)⟩
    have nub : ∀ b, a.blk = some b → b ≠ ub ∧ b ≠ ob := fun b hb => by
      obtain ⟨cs, hcs⟩ := h3.at hb
      refine ⟨?_, ?_⟩
      · rintro rfl; rw [h1] at hcs; exact absurd (AObj.cells.inj (Option.some.inj hcs)).1 (by decide)
      · rintro rfl; rw [h2] at hcs; exact absurd (AObj.cells.inj (Option.some.inj hcs)).1 (by decide)
    have oo : h'[ob]? = _ := (q2 ob (by omega) fun hb => (nub ob hb).2 rfl).trans o5
    have uu : h'[ub]? = _ := (q2 ub (by omega) fun hb => (nub ub hb).1 rfl).trans ((kp5 ub ul).trans h1)
    have sa' := q1.sc
    have nob : ∀ b, a'.blk = some b → b ≠ ob := fun b hb => by
      rcases q4 b hb with h9 | h9
      · exact (nub b h9).2
      · omega
    have hne : ub ≠ ob := by rintro rfl; rw [h1] at h2; exact absurd (AObj.cells.inj (Option.some.inj h2)).1 (by decide)
    have scs := sc_cs sa'
    simp -implicitDefEqProofs [oo, sa', scs]
    refine hK (fun k => k = ub ∨ k = ob ∨ a'.blk = some k) _ (by rw [e]; exact ⟨a', (List.getElem?_set_ne (Ne.symm hne)).trans uu, List.getElem?_set_self (by omega), q1.move' fun b hb => List.getElem?_set_ne (Ne.symm (nob b hb)), fun k => Iff.rfl⟩) (fun k hk hn => ?_) (by simp; omega) (fun k hk => ?_)
    · have n1 : ¬ (k = ub ∨ k = ob ∨ a.blk = some k) := fun h9 => hn ((hO k).2 h9)
      rw [List.getElem?_set_ne (fun h9 => n1 (.inr (.inl h9.symm))), q2 k (by omega) (fun h9 => n1 (.inr (.inr h9)))]
      exact kp5 k hk
    · rcases hk with h9 | h9 | h9
      · exact .inl ((hO k).2 (.inl h9))
      · exact .inl ((hO k).2 (.inr (.inl h9)))
      · rcases q4 k h9 with h8 | h8
        · exact .inl ((hO k).2 (.inr (.inr h8)))
        · exact .inr (by omega)
  · have hu' : (whoOf S E == user) = false := by simpa using hu
    have e : trStep user s E S T = s := if_neg hu
    simp -implicitDefEqProofs [u2, hu', AObj.read]
    refine hK O (g ++ g2) (by rw [e]; exact ⟨a, u2, o2, own2, hO⟩) (fun k hk _ => kp k hk) (by simp) (fun k hk => .inl hk)
theorem audit_Trace_ok (hR : R.Ok) (C : Cfg) {a : AVal} {es : List Ev} {h : AHeap A} (ha : EvRd a es h) (hn : es.length ≤ 1048576) (user : Int) {K : AVal → AHeap A → Prop}
    (hk0 : aTrace C user es = none → ∀ g, (∀ k, k < h.length → g[k]? = h[k]?) → h.length ≤ g.length → K (.tup [.nils, .int .i64 2500]) g)
    (hk1 : ∀ o, aTrace C user es = some o → ∀ x g, Own Ev.row 8 t_api_Event x o g → (∀ b, x.blk = some b → h.length ≤ b) → (∀ k, k < h.length → g[k]? = h[k]?) → h.length ≤ g.length → K (.tup [x, .int .i64 0]) g) : Tri Pr R n_audit_Trace [.agg C.row, .int .i64 user, a] h K := by
  have rc : Cfg.row C = [.int .i64 C.sectors, .int .i64 C.halves, .int .i64 C.sessions, .int .i64 C.addresses, .int .i64 C.fails, .int .i64 C.lockout, .int .i64 C.halfLife, .int .i64 C.idle, .int .i64 C.absolute, .int .i64 C.quarantine, .int .i64 C.ticketLife, .int .i64 C.keep] := rfl
  apply c_audit_Trace
  unfold p_audit_Trace
  simp -implicitDefEqProofs [rc]
  rw [← rc]
  obtain ⟨h1, hh1⟩ : ∃ h1, h1 = h ++ [AObj.cells t_api_Config C.row, .cells t_int [.int .i64 user], .cells t_sl_api_Event [.nils]] := ⟨_, rfl⟩
  rw [← hh1]
  have len1 : h1.length = h.length + 3 := by rw [hh1]; simp
  have kp1 : ∀ k, k < h.length → h1[k]? = h[k]? := fun k hk => by rw [hh1, List.getElem?_append_left hk]
  have b1 : h1[h.length + 1]? = some (.cells t_int [.int .i64 user]) := by rw [hh1, List.getElem?_append_right (by omega)]; simp
  have b2 : h1[h.length + 2]? = some (.cells t_sl_api_Event [.nils]) := by rw [hh1, List.getElem?_append_right (by omega)]; simp
  refine audit_walk_ok hR (tseer (h.length + 1) (h.length + 2) user) C (tsees hR _ _ C user es hn) (by kernel_rfl) (O0 := fun k => k = h.length + 1 ∨ k = h.length + 2) (s0 := []) ⟨.nils, b1, b2, Own.nil, fun k => by simp [AVal.blk]⟩ (Nat.le_refl _) (fun s i E S T hb => by show (trStep user s E S T).length ≤ i + 1; have hb' : s.length ≤ i := hb; unfold trStep; split <;> simp <;> omega) (fun g hg => ha g fun k hk => ?_) hn (fun s S sv O g hw hsv hle hi hf hl ho => ?_) (fun hw i er r g he hr hf hl => ?_)
  · rw [hg k (by omega) (by omega)]; exact kp1 k hk
  · obtain ⟨av, q1, q2, q3, hO⟩ := hi
    obtain ⟨u, x, ad', p, rfl, hu, hx, had, hp⟩ := hsv
    have s1 := hu.sc
    have s2 := hx.sc
    have s3 := had.sc
    have s4 := hp.sc
    have kp : ∀ k, k < h.length → g[k]? = h[k]? := fun k hk => (hf k (by omega) (by omega)).trans (kp1 k hk)
    have hbl : ∀ b, av.blk = some b → h.length ≤ b := fun b hb => by
      rcases ho b ((hO b).2 (.inr (.inr hb))) with h2 | h2 <;> omega
    have e : aTrace C user es = if (uAt S.users user).isSome = true then some s else none := by unfold aTrace; rw [hw]; rfl
    simp -implicitDefEqProofs [s1, s2, s3, s4]
    refine audit_bad_nil ?_
    obtain ⟨g2, hg2⟩ : ∃ g2, g2 = g ++ [AObj.cells t_api_State [.int .i64 S.boots, .int .i64 S.epoch, .int .i64 S.next, u, x, ad', p]] := ⟨_, rfl⟩
    have hq : g2[g.length]? = some (.cells t_api_State [.int .i64 S.boots, .int .i64 S.epoch, .int .i64 S.next, u, x, ad', p]) := by rw [hg2]; simp
    have fld : Fld (.ptr g.length 0) 3 u g2 := ⟨fun K => by simp, fun K => by simp [AVal.fad], fun g' => by
      have : (g2 ++ g')[g.length]? = _ := get_app hq
      simp [AVal.fad, ldV, this, AObj.read]⟩
    have u2 : g2[h.length + 1]? = some (.cells t_int [.int .i64 user]) := by rw [hg2]; exact get_app q1
    rw [← hg2]
    have kp2 : ∀ k, k < h.length → ∀ g' : AHeap A, (g2 ++ g')[k]? = h[k]? := fun k hk g' => by
      rw [hg2, List.append_assoc, List.getElem?_append_left (by omega)]; exact kp k hk
    have l2 : ∀ g' : AHeap A, h.length ≤ (g2 ++ g').length := fun g' => by rw [hg2]; simp; omega
    have u1 := u2
    simp -implicitDefEqProofs [u2, AObj.read]
    refine state_User_ok hR fld (fun g' => hu.rd usrR _) hle.u user (fun h6 => ?_) (fun j pp hj hp => ?_)
    · simp -implicitDefEqProofs
      exact hk0 (by rw [e, h6]; rfl) _ (fun k hk => kp2 k hk _) (l2 _)
    · obtain ⟨p2, hp2, hat⟩ := (hu.rd usrR (g2 ++ [.cells t_int [.int .i64 user]])).get j (uAt_lt hj)
      obtain rfl := idx_uniq hp hp2
      have o2 : (g2 ++ [.cells t_int [.int .i64 user]] : AHeap A)[h.length + 2]? = some (.cells t_sl_api_Event [av]) := by rw [hg2]; exact get_app (get_app q2)
      simp -implicitDefEqProofs [hat.eqn, o2, AObj.read]
      exact hk1 s (by rw [e, hj]; rfl) av _ (q3.move' fun b hb => by rw [hg2]; exact (List.getElem?_append_left (by have := q3.blt hb; rw [List.length_append]; omega)).trans (List.getElem?_append_left (q3.blt hb))) hbl (fun k hk => kp2 k hk _) (l2 _)
  · have e : aTrace C user es = none := by unfold aTrace; rw [hw]; rfl
    unfold zSta
    simp -implicitDefEqProofs
    refine audit_bad_ref he (get_app hr) ?_
    simp -implicitDefEqProofs
    exact hk0 e _ (fun k hk => by rw [List.getElem?_append_left (by omega)]; exact (hf k (by omega) (by omega)).trans (kp1 k hk)) (by simp; omega)
end Go.AI

/- Audits: what every program answers. -/
set_option linter.all false
namespace Go.AI
variable {A : Type} {R : Adts A}
theorem shLn (e f : Ln) : shEq (Sh.st [(0, 1, Sh.i), (1, 1, Sh.i), (2, 1, Sh.i), (3, 1, Sh.i), (4, 1, Sh.i), (5, 1, Sh.i), (6, 1, Sh.i)]) e.row f.row = some (decide (e = f)) := by
  cases e; cases f
  simp [Ln.row, shEq, shEqs]
  rfl
def SLI {α : Type} (xs ys : List α) (n : Nat) (h : AHeap A) (mm : Nat) (y : List AVal) (g : AHeap A) : Prop :=
  ∃ i : Nat, y = [.int .i64 i] ∧ i ≤ xs.length ∧ (∀ j, j < i → xs[j]? = ys[j]?) ∧ g = h ∧ mm = n - i
theorem law0_SameLines_ok {x y : AVal} {xs ys : List Ln} {h : AHeap A} (hx : RdS Ln.row 7 x xs h) (hy : RdS Ln.row 7 y ys h) (hn : xs.length ≤ 2000000) {K : AVal → AHeap A → Prop} (hk : K (.bool (decide (xs = ys))) h) : Tri Pr R n_law0_SameLines [x, y] h K := by
  apply c_law0_SameLines
  unfold p_law0_SameLines
  have lx := hx.len
  have ly := hy.len
  by_cases hl : xs.length = ys.length
  · have e : ((xs.length : Int) != ys.length) = false := by simp [hl]
    simp -implicitDefEqProofs [lx, ly, e]
    refine loopP_go (SLI xs ys xs.length h) xs.length (Gives.done (Nat.le_refl _) ⟨0, rfl, by omega, fun j hj => by omega, rfl, by omega⟩) ?_
    rintro mm y2 g ⟨i, rfl, hi, hj, rfl, rfl⟩
    have e1 := w64 (n := (i : Int) + 1) (by omega)
    by_cases h1 : i < xs.length
    · obtain ⟨p, hp, hatp⟩ := hx.get i h1
      obtain ⟨q, hq, hatq⟩ := hy.get i (by omega)
      have ap : ldV 7 true p g = some (.agg (xs[i]).row) := hatp.all
      have aq : ldV 7 true q g = some (.agg (ys[i]'(by omega)).row) := hatq.all
      have hs := shLn xs[i] (ys[i]'(by omega))
      simp -implicitDefEqProofs [lx, ly, h1, hp, hq, ap, aq, hs]
      by_cases h2 : xs[i] = ys[i]'(by omega)
      · simp -implicitDefEqProofs [h2, e1]
        refine Gives.done (Nat.le_refl _) ⟨xs.length - (i + 1), by omega, i + 1, by simp, by omega, fun j hj2 => ?_, rfl, rfl⟩
        by_cases h3 : j = i
        · subst h3
          rw [List.getElem?_eq_getElem h1, List.getElem?_eq_getElem (by omega), h2]
        · exact hj j (by omega)
      · have hd : decide (xs = ys) = false := by
          simp only [decide_eq_false_iff_not]
          rintro rfl
          exact h2 rfl
        rw [hd] at hk
        simp -implicitDefEqProofs [h2]
        exact hk
    · have hd : decide (xs = ys) = true := by
        simp only [decide_eq_true_eq]
        refine List.ext_getElem? fun j => ?_
        by_cases h3 : j < i
        · exact hj j h3
        · rw [List.getElem?_eq_none (by omega), List.getElem?_eq_none (by omega)]
      rw [hd] at hk
      simp -implicitDefEqProofs [lx, ly, h1]
      exact hk
  · have e : ((xs.length : Int) != ys.length) = true := by simp; omega
    have hd : decide (xs = ys) = false := by
      simp only [decide_eq_false_iff_not]
      rintro rfl
      exact hl rfl
    rw [hd] at hk
    simp -implicitDefEqProofs [lx, ly, e]
    exact hk
theorem law25_Plain_ok {h : AHeap A} {K : AVal → AHeap A → Prop} (hk : ∀ g, K (.agg [.int .i64 100, .int .i64 2, .int .i64 2, .int .i64 3, .int .i64 2, .int .i64 20, .int .i64 10, .int .i64 15, .int .i64 60, .int .i64 8, .int .i64 50, .int .i64 1]) (h ++ g)) : Tri Pr R n_law25_Plain [] h K := by
  apply c_law25_Plain
  unfold p_law25_Plain
  simp -implicitDefEqProofs [reps, List.replicate]
  exact hk _
def C25 : Cfg := ⟨100, 2, 2, 3, 2, 20, 10, 15, 60, 8, 50, 1⟩
def es25 : List Ev := [⟨0, 0, 0, 0, 0, 0, 0, 0⟩, ⟨1, 3, 0, 0, 5, 6, 7, 0⟩, ⟨2, 3, 0, 0, 0, 0, 0, 1⟩, ⟨2, 3, 0, 0, 0, 0, 0, 2⟩, ⟨4, 3, 0, 0, 0, 0, 0, 0⟩, ⟨3, 3, 0, 0, 1, 0, 0, 0⟩, ⟨5, 3, 0, 1, 0, 0, 0, 0⟩, ⟨6, 0, 0, 0, 9, 0, 0, 0⟩, ⟨9, 0, 0, 0, 0, 0, 0, 0⟩, ⟨5, 3, 1, 2, 0, 0, 0, 0⟩]
theorem aw1 : aLines C25 es25 = some [⟨3, 1, 1, 2, 1, 1, 9⟩] := by decide +kernel
theorem aw2 : aTrace C25 3 es25 = some [⟨1, 3, 0, 0, 5, 6, 7, 0⟩, ⟨2, 3, 0, 0, 0, 0, 0, 1⟩, ⟨2, 3, 0, 0, 0, 0, 0, 2⟩, ⟨4, 3, 0, 0, 0, 0, 0, 0⟩, ⟨3, 3, 0, 0, 1, 0, 0, 0⟩, ⟨5, 3, 0, 1, 0, 0, 0, 0⟩, ⟨6, 0, 0, 0, 9, 0, 0, 0⟩, ⟨5, 3, 1, 2, 0, 0, 0, 0⟩] := by decide +kernel
theorem aw3 : aHolder C25 2 es25 = (3, 1, 0) := by decide +kernel
theorem aw4 : aHolder C25 0 es25 = (-1, -1, 0) := by decide +kernel
theorem aw5 : aLines C25 [⟨6, 0, 0, 0, 0, 0, 0, 0⟩] = none := by decide +kernel
theorem aw6 : aTrace C25 2 es25 = none := by decide +kernel
theorem aw7 : aHolder C25 3 es25 = (0, 0, 2500) := by decide +kernel
end Go.AI

/- Audits: a program that is awake. -/
set_option linter.all false
namespace Go.AI
variable {A : Type} {R : Adts A}
theorem law0_Num_ok {v : AVal} {h : AHeap A} {K : AVal → AHeap A → Prop} (hk : K v h) : Tri Pr R n_law0_Num [v] h K := by
  apply c_law0_Num
  unfold p_law0_Num
  exact hk
theorem law25_awake_ok (hR : R.Ok) {h : AHeap A} {K : AVal → AHeap A → Prop} (hk : ∀ g, (∀ k, k < h.length → g[k]? = h[k]?) → h.length ≤ g.length → K (.bool true) g) : Tri Pr R n_law25_awake [] h K := by
  apply c_law25_awake
  unfold p_law25_awake
  refine law25_Plain_ok fun g0 => ?_
  have rc : C25.row = [.int .i64 100, .int .i64 2, .int .i64 2, .int .i64 3, .int .i64 2, .int .i64 20, .int .i64 10, .int .i64 15, .int .i64 60, .int .i64 8, .int .i64 50, .int .i64 1] := rfl
  simp -implicitDefEqProofs [reps, List.replicate]
  obtain ⟨n, hn⟩ : ∃ n, n = h.length + g0.length := ⟨_, rfl⟩
  rw [show h.length + (g0.length + 1) = n + 1 by omega, ← hn]
  obtain ⟨h1, hh1⟩ : ∃ h1, h1 = h ++ (g0 ++ [AObj.cells t_api_Config C25.row, .cells t_api_Event (es25.flatMap Ev.row)]) := ⟨_, rfl⟩
  refine cast (congrArg (fun z => Tri Pr R n_audit_Lines [.agg C25.row, .sl (n + 1) 0 10 10 true] z _) hh1) ?_
  have l1 : h1.length = n + 2 := by rw [hh1]; simp; omega
  have f1 : ∀ k, k < h.length → h1[k]? = h[k]? := fun k hk => by rw [hh1, List.getElem?_append_left hk]
  have c1 : h1[n]? = some (.cells t_api_Config C25.row) := by rw [hh1, List.getElem?_append_right (by omega), List.getElem?_append_right (by omega)]; simp [hn]
  have e1 : h1[n + 1]? = some (.cells t_api_Event (es25.flatMap Ev.row)) := by
    rw [hh1, List.getElem?_append_right (by omega), List.getElem?_append_right (by omega)]
    rw [show n + 1 - h.length - g0.length = 1 by omega]; rfl
  have E1 : EvRd (.sl (n + 1) 0 10 10 true) es25 h1 := EvRd.own (Own.new evR (l := es25) e1 rfl)
  refine audit_Lines_ok hR C25 E1 (by decide) (fun h0 => by rw [aw1] at h0; simp at h0) (fun o ho x g2 O1 B1 F1 L1 => ?_)
  obtain rfl := Option.some.inj (aw1.symm.trans ho)
  have E2 := E1.move F1 L1
  have c2 := (F1 n (by omega)).trans c1
  rw [rc] at c2
  simp -implicitDefEqProofs [c2, AObj.read]
  refine audit_Trace_ok hR C25 E2 (by decide) 3 (fun h0 => by rw [aw2] at h0; simp at h0) (fun o ho y g3 O2 B2 F2 L2 => ?_)
  obtain rfl := Option.some.inj (aw2.symm.trans ho)
  have E3 := E2.move F2 L2
  have c3 := (F2 n (by omega)).trans c2
  simp -implicitDefEqProofs [c3, AObj.read]
  refine audit_Holder_ok hR C25 E3 (by decide) 2 (fun g4 F3 L3 => ?_)
  rw [aw3]
  have E4 := E3.move F3 L3
  have c4 := (F3 n (by omega)).trans c3
  simp -implicitDefEqProofs [c4, AObj.read]
  refine audit_Holder_ok hR C25 E4 (by decide) 0 (fun g5 F4 L4 => ?_)
  rw [aw4]
  have E5 := E4.move F4 L4
  have c5 := (F4 n (by omega)).trans c4
  simp -implicitDefEqProofs [c5, AObj.read]
  have Eb : EvRd (.sl g5.length 0 1 1 true) [⟨6, 0, 0, 0, 0, 0, 0, 0⟩] (g5 ++ [AObj.cells t_api_Event (Ev.row ⟨6, 0, 0, 0, 0, 0, 0, 0⟩)] : AHeap A) := EvRd.own (ty := t_api_Event) (Own.new (l := [⟨6, 0, 0, 0, 0, 0, 0, 0⟩]) evR (by simp) rfl)
  refine audit_Lines_ok hR C25 Eb (by decide) (fun h0 g6 F5 L5 => ?_) (fun o ho => by rw [aw5] at ho; simp at ho)
  have F5' : ∀ k, k < g5.length → g6[k]? = g5[k]? := fun k hk => (F5 k (by simp; omega)).trans (List.getElem?_append_left hk)
  have L5' : g5.length ≤ g6.length := by simp at L5; omega
  have E6 := E5.move F5' L5'
  have c6 := (F5' n (by omega)).trans c5
  simp -implicitDefEqProofs [c6, AObj.read]
  refine audit_Trace_ok hR C25 E6 (by decide) 2 (fun h0 g7 F6 L6 => ?_) (fun o ho => by rw [aw6] at ho; simp at ho)
  have E7 := E6.move F6 L6
  have c7 := (F6 n (by omega)).trans c6
  simp -implicitDefEqProofs [c7, AObj.read]
  refine audit_Holder_ok hR C25 E7 (by decide) 3 (fun g8 F7 L7 => ?_)
  rw [aw7]
  have to3 : ∀ k, k < g3.length → g8[k]? = g3[k]? := fun k hk => (F7 k (by omega)).trans ((F6 k (by omega)).trans ((F5' k (by omega)).trans ((F4 k (by omega)).trans (F3 k hk))))
  have to2 : ∀ k, k < g2.length → g8[k]? = g2[k]? := fun k hk => (to3 k (by omega)).trans (F2 k hk)
  have l82 : g2.length ≤ g8.length := by omega
  have O1' := O1.move' (h' := g8) fun b hb => to2 b (O1.blt hb)
  have O2' := O2.move' (h' := g8) fun b hb => to3 b (O2.blt hb)
  have kf : ∀ k, k < h.length → g8[k]? = h[k]? := fun k hk => (to2 k (by omega)).trans ((F1 k (by omega)).trans (f1 k hk))
  simp -implicitDefEqProofs
  refine law0_Num_ok ?_
  simp -implicitDefEqProofs
  obtain ⟨g9, hg9⟩ : ∃ g9, g9 = g8 ++ [AObj.cells t_api_Line (Ln.row ⟨3, 1, 1, 2, 1, 1, 9⟩)] := ⟨_, rfl⟩
  have O9 : Own Ln.row 7 t_api_Line (.sl g8.length 0 1 1 true) [⟨3, 1, 1, 2, 1, 1, 9⟩] g9 := Own.new (l := [⟨3, 1, 1, 2, 1, 1, 9⟩]) lnR (by rw [hg9]; simp) rfl
  have O1'' := O1'.move' (h' := g9) fun b hb => by rw [hg9]; exact List.getElem?_append_left (O1'.blt hb)
  have O2'' := (O2'.move' (h' := g9) fun b hb => by rw [hg9]; exact List.getElem?_append_left (O2'.blt hb)).rd evR
  have fin := hk g9 (fun k hk => by rw [hg9, List.getElem?_append_left (by omega)]; exact kf k hk) (by rw [hg9, List.length_append]; omega)
  have ly := O2''.len
  obtain ⟨p, hp, hat⟩ := O2''.get 6 (by decide)
  have hall : ldV 8 true p g9 = some (.agg [.int .i64 6, .int .i64 0, .int .i64 0, .int .i64 0, .int .i64 9, .int .i64 0, .int .i64 0, .int .i64 0]) := hat.all
  have hp' : ∀ K, idxP 8 y (.int .i64 6) K = K p := hp
  refine cast (congrArg (fun z => Tri Pr R n_law0_SameLines [x, .sl g8.length 0 1 1 true] z _) hg9) ?_
  refine law0_SameLines_ok (O1''.rd lnR) (O9.rd lnR) (by decide) ?_
  simp -implicitDefEqProofs
  refine law0_Num_ok ?_
  simp -implicitDefEqProofs [ly, hp', hall, shEq, shEqs]
  refine law0_Num_ok ?_
  simp -implicitDefEqProofs
  refine law0_Num_ok ?_
  simp -implicitDefEqProofs
  refine law0_Num_ok ?_
  simp -implicitDefEqProofs
  refine law0_Num_ok ?_
  simp -implicitDefEqProofs
  refine law0_Num_ok ?_
  simp -implicitDefEqProofs
  exact fin
end Go.AI

/- Audits: plain laws: failures and locks. -/
set_option linter.all false
namespace Go.AI
theorem wRun_snoc {σ : Type} (C : Cfg) (step : σ → Ev → Sta → Sta → σ) (E : Ev) : ∀ (es : List Ev) (s : σ) (S : Sta), wRun C step s S (es ++ [E]) = (wRun C step s S es).bind fun p => if (sApply C p.2 E).2 = 0 then some (step p.1 E p.2 (sApply C p.2 E).1, (sApply C p.2 E).1) else none
  | [], s, S => by
    simp only [List.nil_append, wRun, Option.bind_some]
  | F :: r, s, S => by
    simp only [List.cons_append, wRun]
    split
    · exact wRun_snoc C step E r _ _
    · rfl
theorem wAll_snoc {σ : Type} (C : Cfg) (step : σ → Ev → Sta → Sta → σ) (s : σ) (es : List Ev) (E : Ev) : wAll C step s (es ++ [E]) = (wAll C step s es).bind fun p => if (sApply C p.2 E).2 = 0 then some (step p.1 E p.2 (sApply C p.2 E).1, (sApply C p.2 E).1) else none := by
  unfold wAll
  cases sNew C.addresses with
  | none => rfl
  | some S => exact wRun_snoc C step E es s S
/-- A config whose count of failures is m. -/
def Cm (m : Int) : Cfg := { C25 with fails := m }
def S3 (f u : Int) : Sta := ⟨1, 0, 0, [⟨2, 0, 0, 0, 0, f, u, 0, 0⟩], [], [⟨false, -1, 0⟩, ⟨false, -1, 0⟩, ⟨false, -1, 0⟩], []⟩
/-- What stands behind gaps. -/
def PL (m : Int) (es : List Ev) (run unt fails locks : Int) : Prop :=
  ∃ (s : (Int → Ln) × Bool) (f : Int), wAll (Cm m) (lnStep (Cm m)) (ln0, false) es = some (s, S3 f unt) ∧ s.1 2 = ⟨2, 0, 0, fails, locks, 0, 0⟩ ∧ 0 ≤ f ∧ ((run = f ∧ f < m) ∨ (run = 0 ∧ f = m))
end Go.AI

/- Audits: what holds of states behind events. -/
set_option linter.all false
namespace Go.AI
/-- What holds of all states behind events. -/
theorem wAll_ind {σ : Type} {C : Cfg} {step : σ → Ev → Sta → Sta → σ} {s0 : σ} (P : List Ev → σ → Sta → Prop) (h0 : ∀ S, sNew C.addresses = some S → P [] s0 S)
    (h1 : ∀ pre s S E T, wAll C step s0 pre = some (s, S) → P pre s S → sDoes C S E = some T → evMay E = true → P (pre ++ [E]) (step s E S T) T) : ∀ (n : Nat) (es : List Ev), es.length = n → ∀ s S, wAll C step s0 es = some (s, S) → P es s S
  | 0, es, hn, s, S, h => by
    obtain rfl := List.length_eq_zero_iff.1 hn
    unfold wAll at h
    cases hs : sNew C.addresses with
    | none => rw [hs] at h; simp at h
    | some S0 =>
      rw [hs] at h
      simp [wRun] at h
      obtain ⟨rfl, rfl⟩ := h
      exact h0 _ hs
  | n + 1, es, hn, s, S, h => by
    obtain ⟨pre, E, rfl⟩ : ∃ pre E, es = pre ++ [E] := ⟨es.dropLast, es.getLast (by intro h; simp [h] at hn), (List.dropLast_concat_getLast _).symm⟩
    rw [wAll_snoc] at h
    cases hw : wAll C step s0 pre with
    | none => rw [hw] at h; simp at h
    | some p =>
      rw [hw] at h
      simp only [Option.bind_some] at h
      split at h
      · rename_i he
        simp at h
        obtain ⟨rfl, rfl⟩ := h
        obtain ⟨h2, h3, _⟩ := sApply_ok he
        exact h1 pre p.1 p.2 E _ hw (wAll_ind P h0 h1 n pre (by simp at hn; omega) p.1 p.2 hw) h2 h3
      · simp at h
/-- A seer's image. -/
theorem wAll_hom {σ τ : Type} (C : Cfg) (step : σ → Ev → Sta → Sta → σ) (step' : τ → Ev → Sta → Sta → τ) (φ : σ → τ) (hφ : ∀ s E S T, φ (step s E S T) = step' (φ s) E S T) (s : σ) (es : List Ev) : wAll C step' (φ s) es = (wAll C step s es).map fun p => (φ p.1, p.2) := by
  have h : ∀ (es : List Ev) (s : σ) (S : Sta), wRun C step' (φ s) S es = (wRun C step s S es).map fun p => (φ p.1, p.2) := by
    intro es
    induction es with
    | nil => intro s S; rfl
    | cons E r ih =>
      intro s S
      unfold wRun
      split
      · rw [← hφ]; exact ih _ _
      · rfl
  unfold wAll
  cases sNew C.addresses with
  | none => rfl
  | some S => exact h es s S
def uids (S : Sta) : List Int := S.users.map Usr.user
theorem uAt_none {us : List Usr} {u : Int} (h : uAt us u = none) : u ∉ us.map Usr.user := by
  intro h2
  obtain ⟨v, hv, rfl⟩ := List.mem_map.1 h2
  have := List.findIdx?_eq_none_iff.1 h v hv
  simp at this
theorem uAt_some {us : List Usr} {u : Int} {j : Nat} (h : uAt us u = some j) : ∃ hj : j < us.length, (us[j]).user = u := by
  obtain ⟨hj, h1, _⟩ := List.findIdx?_eq_some_iff_getElem.1 h
  exact ⟨hj, by simpa using h1⟩
theorem uAt_in {us : List Usr} {u : Int} {j : Nat} (h : uAt us u = some j) : u ∈ us.map Usr.user := by
  obtain ⟨hj, rfl⟩ := uAt_some h
  exact List.mem_map.2 ⟨_, List.getElem_mem hj, rfl⟩
theorem uPut_perm (u : Usr) : ∀ l : List Usr, (uPut u l).Perm (u :: l)
  | [] => List.Perm.refl _
  | v :: r => by
    unfold uPut
    split
    · exact List.Perm.refl _
    · exact ((uPut_perm u r).cons v).trans (List.Perm.swap u v r)
theorem map_set_same {α β : Type} (f : α → β) (l : List α) (j : Nat) (v : α) (h : ∀ hj : j < l.length, f v = f l[j]) : (l.set j v).map f = l.map f := by
  refine List.ext_getElem? fun k => ?_
  rw [List.map_set, List.getElem?_set]
  by_cases hk : j = k
  · subst hk
    by_cases hj : j < l.length
    · simp [hj, h hj]
    · simp [hj]
  · simp [hk]
theorem xAt_some {xs : List Ses} {x : Int} {j : Nat} (h : xAt xs x = some j) : ∃ hj : j < xs.length, (xs[j]).session = x := by
  obtain ⟨hj, h1, _⟩ := List.findIdx?_eq_some_iff_getElem.1 h
  exact ⟨hj, by simpa using h1⟩
/-- How a state turns. -/
inductive Turn (S : Sta) (E : Ev) (T : Sta) : Prop
  | boot (k : E.kind = 0) (u : T.users = S.users) (x : T.sess = []) (a : T.addrs.length = S.addrs.length) (n : T.next = S.next)
  | user (k : E.kind = 1) (h : uAt S.users E.user = none) (u : T = { S with users := uPut ⟨E.user, E.a, E.b, E.c, 0, 0, 0, 0, 0⟩ S.users })
  | lease (k : E.kind = 5) (ps : List Adr) (p : pTake S.addrs E.address E.user = some ps) (i : E.session = S.next) (h : (uAt S.users E.user).isSome = true) (u : T = { S with addrs := ps, sess := S.sess ++ [⟨E.session, E.user, E.address, E.tick⟩], next := S.next + 1 })
  | close (k : E.kind = 6) (i : Nat) (hi : xAt S.sess E.session = some i) (ps : List Adr) (p : pFree S.addrs (S.sess.getD i ses0).address E.tick = some ps) (x : T.sess = S.sess.eraseIdx i) (a : T.addrs = ps) (n : T.next = S.next)
      (u : T.users = S.users ∨ ∃ j, uAt S.users (S.sess.getD i ses0).user = some j ∧ T.users = S.users.set j { S.users.getD j usr0 with used := sum (S.users.getD j usr0).used E.a })
  | turn (k : E.kind = 2 ∨ E.kind = 3 ∨ E.kind = 4 ∨ E.kind = 7) (j : Nat) (hj : uAt S.users E.user = some j) (v : Usr) (hv : v.user = (S.users.getD j usr0).user ∧ v.used = (S.users.getD j usr0).used) (u : T = { S with users := S.users.set j v })
  | other (k : E.kind = 8 ∨ E.kind = 9) (u : T.users = S.users) (x : T.sess = S.sess) (a : T.addrs = S.addrs) (n : T.next = S.next)
theorem turn_cases {C : Cfg} {S T : Sta} {E : Ev} (h : sDoes C S E = some T) (hm : evMay E = true) : Turn S E T := by
  have hk : 0 ≤ E.kind ∧ E.kind ≤ 9 := by simp [evMay] at hm; omega
  unfold sDoes at h
  by_cases k0 : E.kind = 0
  · rw [if_pos k0] at h
    cases hf : freeAll (E.tick + C.quarantine) S.sess S.addrs with
    | none => rw [hf] at h; simp at h
    | some ps =>
      rw [hf] at h
      dsimp only at h
      split at h
      · simp at h; subst h; exact .boot k0 rfl rfl (freeAll_len _ hf) rfl
      · simp at h
  rw [if_neg k0] at h
  by_cases k1 : E.kind = 1
  · rw [if_pos k1] at h
    split at h
    · simp at h
    · rename_i h2
      simp at h; exact .user k1 (by simpa using h2) h.symm
  rw [if_neg k1] at h
  by_cases k5 : E.kind = 5
  · rw [if_pos k5] at h
    cases hp : pTake S.addrs E.address E.user with
    | none => rw [hp] at h; simp at h
    | some ps =>
      rw [hp] at h
      dsimp only at h
      split at h
      · rename_i h2
        simp only [Option.some.injEq] at h; exact .lease k5 ps hp h2.1 h2.2.1 h.symm
      · simp at h
  rw [if_neg k5] at h
  by_cases k6 : E.kind = 6
  · rw [if_pos k6] at h
    cases hx : xAt S.sess E.session with
    | none => rw [hx] at h; simp at h
    | some i =>
      rw [hx] at h
      dsimp only at h
      cases hp : pFree S.addrs (S.sess.getD i ses0).address E.tick with
      | none => rw [hp] at h; simp at h
      | some ps =>
        rw [hp] at h
        dsimp only at h
        cases hu : uAt S.users (S.sess.getD i ses0).user with
        | none => rw [hu] at h; simp only [Option.some.injEq] at h; subst h; exact .close k6 i hx ps hp rfl rfl rfl (.inl rfl)
        | some j => rw [hu] at h; simp only [Option.some.injEq] at h; subst h; exact .close k6 i hx ps hp rfl rfl rfl (.inr ⟨j, hu, rfl⟩)
  rw [if_neg k6] at h
  by_cases k8 : E.kind = 8
  · rw [if_pos k8] at h
    split at h
    · simp at h; subst h; exact .other (.inl k8) rfl rfl rfl rfl
    · simp at h
  rw [if_neg k8] at h
  by_cases k9 : E.kind = 9
  · rw [if_pos k9] at h
    split at h
    · simp at h
    · simp at h; subst h; exact .other (.inr k9) rfl rfl rfl rfl
  rw [if_neg k9] at h
  cases hu : uAt S.users E.user with
  | none => rw [hu] at h; simp at h
  | some j =>
    rw [hu] at h
    dsimp only at h
    simp only [Option.map_eq_some_iff] at h
    obtain ⟨v, hv, rfl⟩ := h
    have := uTurn_used hv
    exact .turn (by omega) j hu v ⟨this.2, this.1⟩ rfl
end Go.AI

/- Audits: states behind events: users, sessions, addresses. -/
set_option linter.all false
namespace Go.AI
structure SI (n : Int) (S : Sta) : Prop where
  nd : (uids S).Nodup
  ur : ∀ u ∈ S.users, (0 ≤ u.user ∧ u.user < 8) ∧ 0 ≤ u.used ∧ u.used ≤ 1073741823
  xu : ∀ x ∈ S.sess, x.user ∈ uids S
  xi : ∀ x ∈ S.sess, 0 ≤ x.session ∧ x.session < S.next
  xd : (S.sess.map Ses.session).Nodup
  xa : ∀ x ∈ S.sess, 0 ≤ x.address ∧ x.address < S.addrs.length ∧ (S.addrs.getD x.address.toNat adr0).busy = true
  ad : (S.sess.map Ses.address).Nodup
  al : (S.addrs.length : Int) = n
  nx : 0 ≤ S.next
theorem SI.new {n : Int} {S : Sta} (h : sNew n = some S) : SI n S := by
  unfold sNew pNew at h
  split at h
  · rename_i h1
    simp at h; subst h
    exact ⟨by simp [uids, sta0], by simp [sta0], by simp [sta0], by simp [sta0], by simp [sta0], by simp [sta0], by simp [sta0], by simp; omega, by simp [sta0]⟩
  · simp at h
theorem evMay_user {E : Ev} (hm : evMay E = true) (hk : E.kind = 1 ∨ E.kind = 2 ∨ E.kind = 3 ∨ E.kind = 4 ∨ E.kind = 5 ∨ E.kind = 7) : 0 ≤ E.user ∧ E.user < 8 := by
  simp only [evMay, Bool.and_eq_true, decide_eq_true_eq] at hm
  obtain ⟨⟨⟨⟨⟨⟨⟨_, _⟩, h3⟩, h4⟩, _⟩, _⟩, _⟩, _⟩ := hm
  refine ⟨?_, h4⟩
  have : E.user ∈ evParts E := by
    unfold evParts
    rcases hk with h | h | h | h | h | h <;> simp [h]
  have := List.all_eq_true.1 h3 _ this
  simp [nMay] at this
  omega
theorem uids_turn {S T : Sta} {E : Ev} (h : Turn S E T) : if E.kind = 1 then (uids T).Perm (E.user :: uids S) ∧ E.user ∉ uids S else uids T = uids S := by
  cases h with
  | boot k u x a n => rw [if_neg (by omega)]; unfold uids; rw [u]
  | user k h u =>
    rw [if_pos k]
    subst u
    exact ⟨(uPut_perm _ S.users).map Usr.user, uAt_none h⟩
  | lease k ps p i h u => rw [if_neg (by omega)]; subst u; rfl
  | close k i hi ps p x a n u =>
    rw [if_neg (by omega)]
    unfold uids
    rcases u with u | ⟨j, hj, u⟩
    · rw [u]
    · rw [u]
      exact map_set_same _ _ _ _ fun hj2 => by rw [usr_get hj2]
  | turn k j hj v hv u =>
    rw [if_neg (by omega)]
    subst u
    exact map_set_same _ _ _ _ fun hj2 => by rw [hv.1, usr_get hj2]
  | other k u x a n => rw [if_neg (by omega)]; unfold uids; rw [u]
theorem uids_mem {S T : Sta} {E : Ev} (h : Turn S E T) {u : Int} (hu : u ∈ uids S) : u ∈ uids T := by
  have := uids_turn h
  split at this
  · exact (this.1.mem_iff).2 (List.mem_cons_of_mem _ hu)
  · rw [this]; exact hu
theorem sum_le {x y : Int} (hx : 0 ≤ x ∧ x ≤ 1073741823) (hy : 0 ≤ y) : x ≤ sum x y ∧ sum x y ≤ 1073741823 := by unfold sum; split <;> omega
theorem SI.turn {n : Int} {S T : Sta} {E : Ev} (I : SI n S) (hm : evMay E = true) (h : Turn S E T) : SI n T := by
  have hu := uids_turn h
  have hum := fun u => uids_mem (u := u) h
  cases h with
  | boot k u x a nn =>
    rw [if_neg (by omega)] at hu
    refine ⟨by rw [hu]; exact I.nd, by rw [u]; exact I.ur, by rw [x]; simp, by rw [x]; simp, by rw [x]; simp, by rw [x]; simp, by rw [x]; simp, by rw [a]; exact I.al, by rw [nn]; exact I.nx⟩
  | user k h u =>
    rw [if_pos k] at hu
    have := evMay_user hm (.inl k)
    refine ⟨?_, fun v hv => ?_, fun x hx => ?_, ?_, ?_, ?_, ?_, ?_, ?_⟩
    · exact hu.1.nodup_iff.2 (List.nodup_cons.2 ⟨hu.2, I.nd⟩)
    · subst u
      rcases mem_uPut hv with rfl | h2
      · dsimp only; omega
      · exact I.ur v h2
    · exact hum _ (I.xu x (by subst u; exact hx))
    all_goals subst u
    · exact I.xi
    · exact I.xd
    · exact I.xa
    · exact I.ad
    · exact I.al
    · exact I.nx
  | lease k ps p i h u =>
    rw [if_neg (by omega)] at hu
    have hpl := pTake_len p
    unfold pTake at p
    split at p
    · rename_i hp
      simp only [Option.some.injEq] at p
      obtain ⟨_, _, _, p1, p2, p3⟩ := hp
      have ni : ∀ x ∈ S.sess, x.address ≠ E.address := fun x hx he => by
        have := (I.xa x hx).2.2
        rw [he, p3] at this; simp at this
      refine ⟨by rw [hu]; exact I.nd, by subst u; exact I.ur, fun x hx => ?_, fun x hx => ?_, ?_, fun x hx => ?_, ?_, ?_, ?_⟩
      · rw [hu]
        subst u
        simp at hx
        rcases hx with hx | rfl
        · exact I.xu x hx
        · obtain ⟨j, hj⟩ := Option.isSome_iff_exists.1 h
          exact uAt_in hj
      · have := I.nx
        subst u
        simp at hx ⊢
        rcases hx with hx | rfl
        · have := I.xi x hx; omega
        · dsimp only; omega
      · subst u
        rw [List.map_append, List.nodup_append]
        refine ⟨I.xd, by simp, fun a ha b hb => ?_⟩
        obtain ⟨x, hx, rfl⟩ := List.mem_map.1 ha
        simp at hb
        have := (I.xi x hx).2
        omega
      · subst u
        simp at hx
        rcases hx with hx | rfl
        · obtain ⟨h1, h2, h3⟩ := I.xa x hx
          refine ⟨h1, by dsimp only; omega, ?_⟩
          dsimp only
          rw [← p, List.getD_eq_getElem?_getD, List.getElem?_set_ne (by have := ni x hx; omega), ← List.getD_eq_getElem?_getD]
          exact h3
        · refine ⟨p1, by dsimp only; omega, ?_⟩
          dsimp only
          rw [← p, List.getD_eq_getElem?_getD, List.getElem?_set_self (by omega)]
          rfl
      · subst u
        rw [List.map_append, List.nodup_append]
        refine ⟨I.ad, by simp, fun a ha b hb => ?_⟩
        obtain ⟨x, hx, rfl⟩ := List.mem_map.1 ha
        simp at hb
        have := ni x hx
        omega
      · subst u
        dsimp only
        rw [hpl]; exact I.al
      · have := I.nx
        subst u
        dsimp only; omega
    · simp at p
  | close k i hi ps p x a nn u =>
    rw [if_neg (by omega)] at hu
    have hpl := pFree_len p
    obtain ⟨hil, his⟩ := xAt_some hi
    have sub : List.Sublist T.sess S.sess := by rw [x]; exact List.eraseIdx_sublist ..
    have ea : E.a ≥ 0 := by
      simp only [evMay, Bool.and_eq_true, decide_eq_true_eq] at hm
      obtain ⟨⟨⟨⟨⟨⟨⟨_, _⟩, h3⟩, h4⟩, _⟩, _⟩, _⟩, _⟩ := hm
      have : E.a ∈ evParts E := by unfold evParts; simp [k]
      have := List.all_eq_true.1 h3 _ this
      simp [nMay] at this
      omega
    refine ⟨by rw [hu]; exact I.nd, fun v hv => ?_, fun x hx => ?_, fun x hx => ?_, I.xd.sublist (sub.map _), fun y hy => ?_, I.ad.sublist (sub.map _), ?_, ?_⟩
    · rcases u with u | ⟨j, hj, u⟩
      · rw [u] at hv; exact I.ur v hv
      · rw [u] at hv
        rcases List.mem_or_eq_of_mem_set hv with hv | rfl
        · exact I.ur v hv
        · have h2 := I.ur _ (getD_mem (uAt_lt hj))
          have := sum_le h2.2 ea
          dsimp only; omega
    · rw [hu]; exact I.xu x (sub.subset hx)
    · rw [nn]; exact I.xi x (sub.subset hx)
    · obtain ⟨h1, h2, h3⟩ := I.xa y (sub.subset hy)
      rw [a]
      refine ⟨h1, by omega, ?_⟩
      have hne : y.address ≠ (S.sess[i]).address := by
        intro he
        rw [x] at hy
        obtain ⟨m, hm, rfl⟩ := List.mem_iff_getElem.1 hy
        rw [List.getElem_eraseIdx] at he
        have nd := I.ad
        unfold List.Nodup at nd
        rw [List.pairwise_iff_getElem] at nd
        rw [List.length_eraseIdx] at hm
        split at hm
        · split at he
          · have := nd m i (by simp; omega) (by simp; omega) (by omega)
            simp at this; exact this he
          · have := nd i (m + 1) (by simp; omega) (by simp; omega) (by omega)
            simp at this; exact this he.symm
        · omega
      rw [ses_get hil] at p
      unfold pFree at p
      split at p
      · rename_i hp
        simp only [Option.some.injEq] at p
        rw [← p, List.getD_eq_getElem?_getD, List.getElem?_set_ne (by omega), ← List.getD_eq_getElem?_getD]
        exact h3
      · simp at p
    · rw [a, hpl]; exact I.al
    · rw [nn]; exact I.nx
  | turn k j hj v hv u =>
    rw [if_neg (by omega)] at hu
    refine ⟨by rw [hu]; exact I.nd, fun w hw => ?_, by rw [hu]; subst u; exact I.xu, by subst u; exact I.xi, by subst u; exact I.xd, by subst u; exact I.xa, by subst u; exact I.ad, by subst u; exact I.al, by subst u; exact I.nx⟩
    subst u
    rcases List.mem_or_eq_of_mem_set hw with hw | rfl
    · exact I.ur w hw
    · have h2 := I.ur _ (getD_mem (uAt_lt hj))
      rw [hv.1, hv.2]; exact h2
  | other k u x a nn =>
    rw [if_neg (by omega)] at hu
    exact ⟨by rw [hu]; exact I.nd, by rw [u]; exact I.ur, by rw [hu, x]; exact I.xu, by rw [x, nn]; exact I.xi, by rw [x]; exact I.xd, by rw [x, a]; exact I.xa, by rw [x]; exact I.ad, by rw [a]; exact I.al, by rw [nn]; exact I.nx⟩
end Go.AI

/- Audits: lines and traces together. -/
set_option linter.all false
namespace Go.AI
def trA (f : Int → List Ev) (E : Ev) (S _ : Sta) : Int → List Ev := fun u => if whoOf S E = u then f u ++ [E] else f u
abbrev Jn := ((Int → Ln) × Bool) × (Int → List Ev)
def jStep (C : Cfg) (s : Jn) (E : Ev) (S T : Sta) : Jn := (lnStep C s.1 E S T, trA s.2 E S T)
def jn0 : Jn := ((ln0, false), fun _ => [])
/-- What all is behind events. -/
def jAll (C : Cfg) (es : List Ev) : Option (Jn × Sta) := wAll C (jStep C) jn0 es
theorem jAll_lines (C : Cfg) (es : List Ev) : aLines C es = (jAll C es).map fun p => lnOut (lnOpens p.1.1.1 p.2.sess) p.2.users := by
  have h := wAll_hom C (jStep C) (lnStep C) (fun s => s.1) (fun _ _ _ _ => rfl) jn0 es
  unfold aLines
  rw [show ((ln0, false) : (Int → Ln) × Bool) = jn0.1 from rfl, h]
  show _ = (wAll C (jStep C) jn0 es).map _
  cases wAll C (jStep C) jn0 es <;> rfl
theorem jAll_ind {C : Cfg} (P : List Ev → Jn → Sta → Prop) (h0 : ∀ S, sNew C.addresses = some S → P [] jn0 S)
    (h1 : ∀ pre s S E T, jAll C pre = some (s, S) → SI C.addresses S → P pre s S → sDoes C S E = some T → Turn S E T → evMay E = true → P (pre ++ [E]) (jStep C s E S T) T) {es : List Ev} {s : Jn} {S : Sta} (h : jAll C es = some (s, S)) : SI C.addresses S ∧ P es s S :=
  wAll_ind (fun es s S => SI C.addresses S ∧ P es s S) (fun S hS => ⟨SI.new hS, h0 S hS⟩) (fun pre s S E T hj ⟨I, hp⟩ hd hm => ⟨I.turn hm (turn_cases hd hm), h1 pre s S E T hj I hp hd (turn_cases hd hm) hm⟩) es.length es rfl s S h
/-- Whose events are. -/
inductive Who (S : Sta) (E : Ev) : Prop
  | no (k : E.kind = 0 ∨ E.kind = 8 ∨ E.kind = 9) (w : whoOf S E = -1)
  | new (k : E.kind = 1) (w : whoOf S E = E.user) (h : E.user ∉ uids S) (g : 0 ≤ E.user)
  | old (k : E.kind = 2 ∨ E.kind = 3 ∨ E.kind = 4 ∨ E.kind = 5 ∨ E.kind = 7) (w : whoOf S E = E.user) (h : E.user ∈ uids S)
  | close (k : E.kind = 6) (h : whoOf S E ∈ uids S)
theorem who_of {n : Int} {S T : Sta} {E : Ev} (I : SI n S) (hm : evMay E = true) (h : Turn S E T) : Who S E := by
  cases h with
  | boot k u x a nn => exact .no (.inl k) (by unfold whoOf; rw [if_neg (by omega), if_pos (by omega)])
  | user k h u => exact .new k (by unfold whoOf; rw [if_neg (by omega), if_neg (by omega)]) (uAt_none h) (evMay_user hm (.inl k)).1
  | lease k ps p i h u =>
    obtain ⟨j, hj⟩ := Option.isSome_iff_exists.1 h
    exact .old (by omega) (by unfold whoOf; rw [if_neg (by omega), if_neg (by omega)]) (uAt_in hj)
  | close k i hi ps p x a nn u =>
    refine .close k ?_
    unfold whoOf
    rw [if_pos k, hi]
    obtain ⟨hil, _⟩ := xAt_some hi
    simp only [ses_get hil]
    exact I.xu _ (List.getElem_mem hil)
  | turn k j hj v hv u => exact .old (by omega) (by unfold whoOf; rw [if_neg (by omega), if_neg (by omega)]) (uAt_in hj)
  | other k u x a nn => exact .no (by omega) (by unfold whoOf; rw [if_neg (by omega), if_pos (by omega)])
theorem SI.neg {n : Int} {S : Sta} (I : SI n S) {u : Int} (h : u ∈ uids S) : 0 ≤ u ∧ u < 8 := by
  obtain ⟨v, hv, rfl⟩ := List.mem_map.1 h
  exact (I.ur v hv).1
/-- A trace stands in the row, and begins with the user. -/
structure Rows25 (es : List Ev) (f : Int → List Ev) (S : Sta) : Prop where
  sub : ∀ u, (f u).Sublist es
  nil : ∀ u, u ∉ uids S → u ≠ -1 → f u = []
  hd : ∀ u ∈ uids S, ∃ E r, f u = E :: r ∧ E.kind = 1 ∧ E.user = u ∧ ∀ F ∈ r, F.kind ≠ 1
theorem rows25 {C : Cfg} {es : List Ev} {s : Jn} {S : Sta} (h : jAll C es = some (s, S)) : SI C.addresses S ∧ Rows25 es s.2 S := by
  refine jAll_ind (fun es s S => Rows25 es s.2 S) (fun S hS => ⟨fun u => List.Sublist.refl _, fun _ _ _ => rfl, fun u hu => ?_⟩) (fun pre s S E T _ I P hd ht hm => ⟨fun u => ?_, fun u hu hn => ?_, fun u hu => ?_⟩) h
  · unfold sNew at hS
    cases hp : pNew C.addresses with
    | none => rw [hp] at hS; simp at hS
    | some ps => rw [hp] at hS; simp at hS; subst hS; simp [uids, sta0] at hu
  · show (trA s.2 E S T u).Sublist _
    unfold trA
    split
    · exact (P.sub u).append (List.Sublist.refl _)
    · exact (P.sub u).trans (List.sublist_append_left _ _)
  · show trA s.2 E S T u = []
    have hw := who_of I hm ht
    have hu2 : u ∉ uids S := fun h2 => hu (uids_mem ht h2)
    have : whoOf S E ≠ u := by
      rintro rfl
      cases hw with
      | no k w => exact hn w
      | new k w h2 g =>
        have h3 := uids_turn ht
        rw [if_pos k] at h3
        exact hu (by rw [w]; exact (h3.1.mem_iff).2 (List.mem_cons_self ..))
      | old k w h2 => exact hu2 (by rw [w]; exact h2)
      | close k h2 => exact hu2 h2
    unfold trA
    rw [if_neg this]
    exact P.nil u hu2 hn
  · show ∃ F r, trA s.2 E S T u = F :: r ∧ _
    have hw := who_of I hm ht
    by_cases h2 : u ∈ uids S
    · obtain ⟨F, r, h3, h4, h5, h6⟩ := P.hd u h2
      unfold trA
      split
      · rename_i h7
        refine ⟨F, r ++ [E], by rw [h3]; rfl, h4, h5, fun G hG => ?_⟩
        simp at hG
        rcases hG with hG | rfl
        · exact h6 G hG
        · cases hw with
          | no k w => omega
          | new k w h8 g => exact absurd (by rw [← w, h7]; exact h2) h8
          | old k w h8 => omega
          | close k h8 => omega
      · exact ⟨F, r, h3, h4, h5, h6⟩
    · have h3 := uids_turn ht
      split at h3
      · rename_i k
        have := (h3.1.mem_iff).1 hu
        simp at this
        rcases this with rfl | h4
        · have hwe : whoOf S E = E.user := by unfold whoOf; rw [if_neg (by omega), if_neg (by omega)]
          have := (evMay_user hm (.inl k)).1
          refine ⟨E, [], ?_, k, rfl, by simp⟩
          unfold trA
          rw [if_pos hwe, P.nil _ h2 (by omega)]
          rfl
        · exact absurd h4 h2
      · rw [h3] at hu; exact absurd hu h2
end Go.AI

/- Audits: AuditRows. -/
set_option linter.all false
namespace Go.AI
variable {A : Type} {R : Adts A}
theorem lnUp_user {f : Int → Ln} (h : ∀ u, (f u).user = u) {u : Int} {n : Ln} (hn : n.user = u) : ∀ v, (lnUp f u n v).user = v := by
  intro v
  unfold lnUp
  split
  · rename_i h1; rw [h1]; exact hn
  · exact h v
theorem lnCount_user {C : Cfg} {f : Int → Ln} {sp : Bool} {E : Ev} {T : Sta} (h : ∀ u, (f u).user = u) : ∀ v, (lnCount C f sp E T v).user = v := by
  unfold lnCount
  split
  · exact lnUp_user h (h _)
  · split
    · have h2 : ∀ v, (lnFail f E.user v).user = v := lnUp_user h (h _)
      have h3 : ∀ v, (lnLock (lnFail f E.user) E.user v).user = v := lnUp_user h2 (h2 _)
      split <;> (try dsimp only) <;> first | exact h3 | exact h2 | (split <;> first | exact h3 | exact h2)
    · split
      · split
        · exact lnUp_user h (h _)
        · exact h
      · exact h
theorem lines_user {C : Cfg} {es : List Ev} {s : Jn} {S : Sta} (h : jAll C es = some (s, S)) : ∀ u, (s.1.1 u).user = u :=
  (jAll_ind (fun _ s _ => ∀ u, (s.1.1 u).user = u) (fun _ _ _ => rfl) (fun _ s _ E T _ _ h _ _ _ => lnCount_user h) h).2
theorem opens_user {f : Int → Ln} (h : ∀ u, (f u).user = u) : ∀ (xs : List Ses) (v : Int), (lnOpens f xs v).user = v := by
  intro xs
  induction xs generalizing f with
  | nil => exact h
  | cons x r ih => exact ih (lnUp_user h (h _))
/-- The lines' users are the state's. -/
theorem out_user {f : Int → Ln} (h : ∀ u, (f u).user = u) (us : List Usr) : (lnOut f us).map Ln.user = us.map Usr.user := by
  unfold lnOut
  rw [List.map_map]
  exact List.map_congr_left fun u _ => h _
theorem jAll_le {C : Cfg} {es : List Ev} {s : Jn} {S : Sta} (h : jAll C es = some (s, S)) : StaLe S (16 + es.length) ∧ StaIn S :=
  (jAll_ind (fun es _ S => StaLe S (16 + es.length) ∧ StaIn S) (fun S hS => sNew_in hS) (fun pre s S E T _ _ hp hd _ hm => by
    have := sDoes_keeps hd hp.1 hp.2 (evIn hm)
    rw [List.length_append, List.length_singleton, ← Nat.add_assoc]
    exact this) h).2
def RwO (o : List Ln) (base : AHeap A) (mm : Nat) (y : List AVal) (g : AHeap A) : Prop :=
  ∃ i : Nat, y = [.int .i64 i] ∧ i ≤ o.length ∧ (∀ k, k < base.length → g[k]? = base[k]?) ∧ base.length ≤ g.length ∧ mm = o.length - i
def RwI (t es : List Ev) (base : AHeap A) (mm : Nat) (y : List AVal) (g : AHeap A) : Prop :=
  ∃ n j : Nat, y = [.int .i64 n, .int .i64 j] ∧ n ≤ t.length ∧ j ≤ es.length ∧ (t.drop n).Sublist (es.drop j) ∧ g = base ∧ mm = es.length - j
def RwK (t : List Ev) (base : AHeap A) (mm : Nat) (y : List AVal) (g : AHeap A) : Prop :=
  ∃ j : Nat, y = [.int .i64 j] ∧ 1 ≤ j ∧ j ≤ t.length ∧ g = base ∧ mm = t.length - j
end Go.AI

/- Audits: plain laws: counts of lines and of traces. -/
set_option linter.all false
namespace Go.AI
theorem lnCount_cases (C : Cfg) (f : Int → Ln) (sp : Bool) (E : Ev) (T : Sta) : (E.kind = 3 ∧ lnCount C f sp E T = lnLogin f E.user) ∨ (E.kind = 2 ∧ lnCount C f sp E T = lnFail f E.user) ∨ (E.kind = 2 ∧ lnCount C f sp E T = lnLock (lnFail f E.user) E.user) ∨ (E.kind = 5 ∧ lnCount C f sp E T = lnResume f E.user) ∨ (E.kind ≠ 2 ∧ E.kind ≠ 3 ∧ lnCount C f sp E T = f) := by
  by_cases h3 : E.kind = 3
  · exact .inl ⟨h3, by unfold lnCount; rw [if_pos h3]⟩
  by_cases h2 : E.kind = 2
  · have e : lnCount C f sp E T = if (match uAt T.users E.user with | some j => decide ((T.users.getD j usr0).fails = C.fails) | none => false) = true then lnLock (lnFail f E.user) E.user else lnFail f E.user := by
      (unfold lnCount; rw [if_neg h3, if_pos h2]) <;> rfl
    by_cases hb : (match uAt T.users E.user with | some j => decide ((T.users.getD j usr0).fails = C.fails) | none => false) = true
    · exact .inr (.inr (.inl ⟨h2, by rw [e, if_pos hb]⟩))
    · exact .inr (.inl ⟨h2, by rw [e, if_neg hb]⟩)
  by_cases h5 : E.kind = 5
  · cases sp with
    | true => exact .inr (.inr (.inr (.inl ⟨h5, by unfold lnCount; rw [if_neg h3, if_neg h2, if_pos h5, if_pos rfl]⟩)))
    | false => exact .inr (.inr (.inr (.inr ⟨h2, h3, by unfold lnCount; rw [if_neg h3, if_neg h2, if_pos h5, if_neg (by simp)]⟩)))
  · exact .inr (.inr (.inr (.inr ⟨h2, h3, by unfold lnCount; rw [if_neg h3, if_neg h2, if_neg h5]⟩)))
theorem lnCount_fails (C : Cfg) (f : Int → Ln) (sp : Bool) (E : Ev) (T : Sta) (u : Int) : (lnCount C f sp E T u).fails = if E.kind = 2 ∧ u = E.user then inc (f u).fails else (f u).fails := by
  rcases lnCount_cases C f sp E T with ⟨k, h⟩ | ⟨k, h⟩ | ⟨k, h⟩ | ⟨k, h⟩ | ⟨k, k2, h⟩ <;> rw [h]
  · by_cases hu : u = E.user <;> simp [lnLogin, lnUp, k, hu]
  · by_cases hu : u = E.user <;> simp [lnFail, lnUp, k, hu]
  · by_cases hu : u = E.user <;> simp [lnLock, lnFail, lnUp, k, hu]
  · by_cases hu : u = E.user <;> simp [lnResume, lnUp, k, hu]
  · rw [if_neg (fun h => k h.1)]
theorem lnCount_logins (C : Cfg) (f : Int → Ln) (sp : Bool) (E : Ev) (T : Sta) (u : Int) : (lnCount C f sp E T u).logins = if E.kind = 3 ∧ u = E.user then inc (f u).logins else (f u).logins := by
  rcases lnCount_cases C f sp E T with ⟨k, h⟩ | ⟨k, h⟩ | ⟨k, h⟩ | ⟨k, h⟩ | ⟨k, k2, h⟩ <;> rw [h]
  · by_cases hu : u = E.user <;> simp [lnLogin, lnUp, k, hu]
  · by_cases hu : u = E.user <;> simp [lnFail, lnUp, k, hu]
  · by_cases hu : u = E.user <;> simp [lnLock, lnFail, lnUp, k, hu]
  · by_cases hu : u = E.user <;> simp [lnResume, lnUp, k, hu]
  · rw [if_neg (fun h => k2 h.1)]
theorem lnCount_locks (C : Cfg) (f : Int → Ln) (sp : Bool) (E : Ev) (T : Sta) (u : Int) : (lnCount C f sp E T u).locks = (f u).locks ∨ (E.kind = 2 ∧ u = E.user ∧ (lnCount C f sp E T u).locks = inc (f u).locks) := by
  rcases lnCount_cases C f sp E T with ⟨k, h⟩ | ⟨k, h⟩ | ⟨k, h⟩ | ⟨k, h⟩ | ⟨k, k2, h⟩ <;> rw [h]
  · by_cases hu : u = E.user <;> simp [lnLogin, lnUp, k, hu]
  · by_cases hu : u = E.user <;> simp [lnFail, lnUp, k, hu]
  · by_cases hu : u = E.user <;> simp [lnLock, lnFail, lnUp, k, hu]
  · by_cases hu : u = E.user <;> simp [lnResume, lnUp, k, hu]
  · exact .inl rfl
theorem lnCount_resumes (C : Cfg) (f : Int → Ln) (sp : Bool) (E : Ev) (T : Sta) (u : Int) : (lnCount C f sp E T u).resumes = (f u).resumes ∨ (lnCount C f sp E T u).resumes = inc (f u).resumes := by
  rcases lnCount_cases C f sp E T with ⟨k, h⟩ | ⟨k, h⟩ | ⟨k, h⟩ | ⟨k, h⟩ | ⟨k, k2, h⟩ <;> rw [h]
  · by_cases hu : u = E.user <;> simp [lnLogin, lnUp, hu]
  · by_cases hu : u = E.user <;> simp [lnFail, lnUp, hu]
  · by_cases hu : u = E.user <;> simp [lnLock, lnFail, lnUp, hu]
  · by_cases hu : u = E.user <;> simp [lnResume, lnUp, hu]
  · exact .inl rfl
theorem sum_not {f g : Int → Nat} {w : Int} (h : ∀ u, u ≠ w → g u = f u) : ∀ l : List Int, w ∉ l → (l.map g).sum = (l.map f).sum
  | [], _ => rfl
  | x :: r, hw => by
    have h1 : x ≠ w := fun h2 => hw (by simp [h2])
    simp [h x h1, sum_not h r (fun h2 => hw (List.mem_cons_of_mem _ h2))]
theorem sum_up {f g : Int → Nat} {w : Int} (h : ∀ u, u ≠ w → g u = f u) (h1 : g w = f w + 1) : ∀ l : List Int, l.Nodup → w ∈ l → (l.map g).sum = (l.map f).sum + 1
  | [], _, hw => by simp at hw
  | x :: r, hn, hw => by
    obtain ⟨n1, n2⟩ := List.nodup_cons.1 hn
    by_cases hx : x = w
    · subst hx
      simp [h1, sum_not h r n1]; omega
    · have hr : w ∈ r := by simp at hw; rcases hw with rfl | h2; exact absurd rfl hx; exact h2
      simp [h x hx, sum_up h h1 r n2 hr]; omega
def isK (k : Int) (E : Ev) : Bool := decide (E.kind = k)
def isOwn (E : Ev) : Bool := decide (E.kind ≠ 0 ∧ E.kind ≠ 8 ∧ E.kind ≠ 9)
structure Parts25 (es : List Ev) (s : Jn) (S : Sta) : Prop where
  fl : ∀ u, u ≠ -1 → (s.1.1 u).fails = ((s.2 u).countP (isK 2) : Nat)
  lg : ∀ u, u ≠ -1 → (s.1.1 u).logins = ((s.2 u).countP (isK 3) : Nat)
  lk : ∀ u, u ≠ -1 → 0 ≤ (s.1.1 u).locks ∧ (s.1.1 u).locks ≤ (s.1.1 u).fails
  rs : ∀ u, 0 ≤ (s.1.1 u).resumes ∧ (s.1.1 u).resumes ≤ es.length
  us : ∀ u, u ≠ -1 → ∀ F ∈ s.2 u, F.kind ≠ 6 → F.user = u
  sm : ((uids S).map fun u => (s.2 u).length).sum = es.countP isOwn
theorem trA_who (f : Int → List Ev) (E : Ev) (S T : Sta) (u : Int) : (whoOf S E = u ∧ trA f E S T u = f u ++ [E]) ∨ (whoOf S E ≠ u ∧ trA f E S T u = f u) := by
  unfold trA
  by_cases h : whoOf S E = u
  · exact .inl ⟨h, if_pos h⟩
  · exact .inr ⟨h, if_neg h⟩
theorem parts25 {C : Cfg} {es : List Ev} {s : Jn} {S : Sta} (h : jAll C es = some (s, S)) (hn : es.length ≤ 2000000) : Parts25 es s S := by
  refine (jAll_ind (fun es s S => es.length ≤ 2000000 → Parts25 es s S) (fun S hS _ => ?_) (fun pre s S E T hj I P hd ht hm hl => ?_) h).2 hn
  · refine ⟨fun _ _ => rfl, fun _ _ => rfl, fun _ _ => by simp [jn0, ln0], fun _ => by simp [jn0, ln0], fun _ _ F hF => by simp [jn0] at hF, ?_⟩
    unfold sNew at hS
    cases hp : pNew C.addresses with
    | none => rw [hp] at hS; simp at hS
    | some ps => rw [hp] at hS; simp at hS; subst hS; simp [uids, sta0]
  · have hw := who_of I hm ht
    have hul := uids_turn ht
    have RW := (rows25 hj).2
    rw [List.length_append, List.length_singleton] at hl
    obtain ⟨fl, lg, lk, rs, us, sm⟩ := P (by omega)
    have cnt : ∀ u (p : Ev → Bool), (s.2 u).countP p ≤ pre.length := fun u p => Nat.le_trans (List.countP_le_length ..) (RW.sub u).length_le
    have i1 : ∀ x : Int, 0 ≤ x → x ≤ 2000000 → inc x = x + 1 := fun x h1 h2 => w64 (n := x + 1) (by omega)
    have wu : E.kind = 2 ∨ E.kind = 3 → whoOf S E = E.user := fun hk => by unfold whoOf; rw [if_neg (by omega), if_neg (by omega)]
    refine ⟨fun u hu => ?_, fun u hu => ?_, fun u hu => ?_, fun u => ?_, fun u hu F hF hk => ?_, ?_⟩
    · show (lnCount C s.1.1 s.1.2 E T u).fails = ((trA s.2 E S T u).countP (isK 2) : Nat)
      have c := cnt u (isK 2)
      have f1 := fl u hu
      rw [lnCount_fails]
      rcases trA_who s.2 E S T u with ⟨h1, h2⟩ | ⟨h1, h2⟩
      · rw [h2, List.countP_append]
        by_cases k2 : E.kind = 2
        · rw [if_pos ⟨k2, by rw [← wu (.inl k2), h1]⟩, i1 _ (by omega) (by omega), f1]
          simp [isK, k2]
        · rw [if_neg (by omega), f1]
          simp [isK, k2]
      · rw [h2, if_neg (fun h3 => h1 (by rw [wu (.inl h3.1), h3.2])), f1]
    · show (lnCount C s.1.1 s.1.2 E T u).logins = ((trA s.2 E S T u).countP (isK 3) : Nat)
      have c := cnt u (isK 3)
      have f1 := lg u hu
      rw [lnCount_logins]
      rcases trA_who s.2 E S T u with ⟨h1, h2⟩ | ⟨h1, h2⟩
      · rw [h2, List.countP_append]
        by_cases k3 : E.kind = 3
        · rw [if_pos ⟨k3, by rw [← wu (.inr k3), h1]⟩, i1 _ (by omega) (by omega), f1]
          simp [isK, k3]
        · rw [if_neg (by omega), f1]
          simp [isK, k3]
      · rw [h2, if_neg (fun h3 => h1 (by rw [wu (.inr h3.1), h3.2])), f1]
    · show 0 ≤ (lnCount C s.1.1 s.1.2 E T u).locks ∧ (lnCount C s.1.1 s.1.2 E T u).locks ≤ (lnCount C s.1.1 s.1.2 E T u).fails
      have c := cnt u (isK 2)
      have f1 := fl u hu
      have l1 := lk u hu
      have e1 := lnCount_fails C s.1.1 s.1.2 E T u
      rcases lnCount_locks C s.1.1 s.1.2 E T u with h1 | ⟨h1, h2, h3⟩
      · rw [h1, e1]
        split
        · rw [i1 _ (by omega) (by omega)]; omega
        · exact l1
      · rw [if_pos ⟨h1, h2⟩, i1 _ (by omega) (by omega)] at e1
        rw [i1 _ (by omega) (by omega)] at h3
        omega
    · show 0 ≤ (lnCount C s.1.1 s.1.2 E T u).resumes ∧ (lnCount C s.1.1 s.1.2 E T u).resumes ≤ _
      have r1 := rs u
      rw [List.length_append, List.length_singleton]
      rcases lnCount_resumes C s.1.1 s.1.2 E T u with h1 | h1
      · rw [h1]; omega
      · rw [i1 _ (by omega) (by omega)] at h1; omega
    · have hF : F ∈ trA s.2 E S T u := hF
      rcases trA_who s.2 E S T u with ⟨h1, h2⟩ | ⟨h1, h2⟩
      · rw [h2] at hF
        simp at hF
        rcases hF with hF | rfl
        · exact us u hu F hF hk
        · rw [← h1]
          cases hw with
          | no k w => omega
          | new k w h8 g => exact w.symm
          | old k w h8 => exact w.symm
          | close k h8 => omega
      · rw [h2] at hF; exact us u hu F hF hk
    · show ((uids T).map fun u => (trA s.2 E S T u).length).sum = _
      rw [List.countP_append]
      have oth : ∀ u, u ≠ whoOf S E → (trA s.2 E S T u).length = (s.2 u).length := fun u h1 => by
        rcases trA_who s.2 E S T u with ⟨h3, h2⟩ | ⟨h3, h2⟩
        · exact absurd h3.symm h1
        · rw [h2]
      have own : (trA s.2 E S T (whoOf S E)).length = (s.2 (whoOf S E)).length + 1 := by
        rcases trA_who s.2 E S T (whoOf S E) with ⟨h3, h2⟩ | ⟨h3, h2⟩
        · rw [h2]; simp
        · exact absurd rfl h3
      have notin : -1 ∉ uids S := fun h1 => by have := I.neg h1; omega
      cases hw with
      | no k w =>
        rw [if_neg (by omega)] at hul
        rw [hul, sum_not oth _ (by rw [w]; exact notin), sm]
        have : [E].countP isOwn = 0 := by simp [isOwn]; omega
        rw [this]; rfl
      | new k w h8 g =>
        rw [if_pos k] at hul
        rw [w] at oth own
        rw [(hul.1.map _).sum_nat, List.map_cons, List.sum_cons, sum_not oth _ h8, sm, own, RW.nil _ h8 (by omega)]
        have : [E].countP isOwn = 1 := by simp [isOwn]; omega
        rw [this]; simp; omega
      | old k w h8 =>
        rw [if_neg (by omega)] at hul
        rw [hul, sum_up oth own _ I.nd (by rw [w]; exact h8), sm]
        have : [E].countP isOwn = 1 := by simp [isOwn]; omega
        rw [this]
      | close k h8 =>
        rw [if_neg (by omega)] at hul
        rw [hul, sum_up oth own _ I.nd h8, sm]
        have : [E].countP isOwn = 1 := by simp [isOwn]; omega
        rw [this]
end Go.AI

/- Audits: AuditParts. -/
set_option linter.all false
namespace Go.AI
variable {A : Type} {R : Adts A}
theorem opens_keep (f : Int → Ln) : ∀ (xs : List Ses) (u : Int), (lnOpens f xs u).fails = (f u).fails ∧ (lnOpens f xs u).logins = (f u).logins ∧ (lnOpens f xs u).locks = (f u).locks ∧ (lnOpens f xs u).resumes = (f u).resumes := by
  intro xs
  induction xs generalizing f with
  | nil => intro u; exact ⟨rfl, rfl, rfl, rfl⟩
  | cons x r ih =>
    intro u
    have := ih (lnOpen f x.user) u
    unfold lnOpens at this ⊢
    rw [List.foldl_cons, this.1, this.2.1, this.2.2.1, this.2.2.2]
    unfold lnOpen lnUp
    split
    · rename_i h; rw [h]; exact ⟨rfl, rfl, rfl, rfl⟩
    · exact ⟨rfl, rfl, rfl, rfl⟩
def PtO (n : Nat) (lens : List Nat) (base : AHeap A) (mm : Nat) (y : List AVal) (g : AHeap A) : Prop :=
  ∃ i : Nat, y = [.int .i64 ((lens.take i).sum : Nat), .int .i64 i] ∧ i ≤ n ∧ (∀ k, k < base.length → g[k]? = base[k]?) ∧ base.length ≤ g.length ∧ mm = n - i
def PtI (t : List Ev) (base : AHeap A) (mm : Nat) (y : List AVal) (g : AHeap A) : Prop :=
  ∃ j : Nat, y = [.int .i64 ((t.take j).countP (isK 2) : Nat), .int .i64 ((t.take j).countP (isK 3) : Nat), .int .i64 j] ∧ j ≤ t.length ∧ g = base ∧ mm = t.length - j
def PtW (es : List Ev) (base : AHeap A) (mm : Nat) (y : List AVal) (g : AHeap A) : Prop :=
  ∃ j : Nat, y = [.int .i64 ((es.take j).countP isOwn : Nat), .int .i64 j] ∧ j ≤ es.length ∧ g = base ∧ mm = es.length - j
end Go.AI

/- Audits: plain laws: of more events no count is less. -/
set_option linter.all false
namespace Go.AI
structure More25 (s : Jn) (S : Sta) (t : Jn) (T : Sta) : Prop where
  cn : ∀ u, u ≠ -1 → (s.1.1 u).logins ≤ (t.1.1 u).logins ∧ (s.1.1 u).resumes ≤ (t.1.1 u).resumes ∧ (s.1.1 u).fails ≤ (t.1.1 u).fails ∧ (s.1.1 u).locks ≤ (t.1.1 u).locks
  us : ∀ u ∈ S.users, ∃ v ∈ T.users, v.user = u.user ∧ u.used ≤ v.used
  ln : S.users.length ≤ T.users.length
theorem More25.refl (s : Jn) (S : Sta) : More25 s S s S := ⟨fun _ _ => ⟨Int.le_refl _, Int.le_refl _, Int.le_refl _, Int.le_refl _⟩, fun u hu => ⟨u, hu, rfl, Int.le_refl _⟩, Nat.le_refl _⟩
theorem More25.trans {s t r : Jn} {S T U : Sta} (h1 : More25 s S t T) (h2 : More25 t T r U) : More25 s S r U := by
  refine ⟨fun u hu => ?_, fun u hu => ?_, Nat.le_trans h1.ln h2.ln⟩
  · have a := h1.cn u hu
    have b := h2.cn u hu
    omega
  · obtain ⟨v, hv, e1, l1⟩ := h1.us u hu
    obtain ⟨w, hw, e2, l2⟩ := h2.us v hv
    exact ⟨w, hw, e2.trans e1, by omega⟩
theorem more_step {C : Cfg} {pre : List Ev} {s : Jn} {S T : Sta} {E : Ev} (hj : jAll C pre = some (s, S)) (hn : pre.length ≤ 2000000) (hm : evMay E = true) (ht : Turn S E T) : More25 s S (jStep C s E S T) T := by
  obtain ⟨I, RW⟩ := rows25 hj
  have P := parts25 hj hn
  have cnt : ∀ u (p : Ev → Bool), (s.2 u).countP p ≤ pre.length := fun u p => Nat.le_trans (List.countP_le_length ..) (RW.sub u).length_le
  have i1 : ∀ x : Int, 0 ≤ x → x ≤ 2000000 → inc x = x + 1 := fun x h1 h2 => w64 (n := x + 1) (by omega)
  refine ⟨fun u hu => ?_, fun u hu => ?_, ?_⟩
  · have f1 := P.fl u hu
    have f2 := P.lg u hu
    have f3 := P.lk u hu
    have f4 := P.rs u
    have c1 := cnt u (isK 2)
    have c2 := cnt u (isK 3)
    have e1 := lnCount_fails C s.1.1 s.1.2 E T u
    have e2 := lnCount_logins C s.1.1 s.1.2 E T u
    have e3 := lnCount_locks C s.1.1 s.1.2 E T u
    have e4 := lnCount_resumes C s.1.1 s.1.2 E T u
    show _ ≤ (lnCount C s.1.1 s.1.2 E T u).logins ∧ _ ≤ (lnCount C s.1.1 s.1.2 E T u).resumes ∧ _ ≤ (lnCount C s.1.1 s.1.2 E T u).fails ∧ _ ≤ (lnCount C s.1.1 s.1.2 E T u).locks
    rw [i1 _ (by omega) (by omega)] at e1 e2 e3 e4
    refine ⟨?_, ?_, ?_, ?_⟩
    · rw [e2]; split <;> omega
    · omega
    · rw [e1]; split <;> omega
    · omega
  · cases ht with
    | boot k us x a n => rw [us]; exact ⟨u, hu, rfl, Int.le_refl _⟩
    | user k h us => subst us; exact ⟨u, ((uPut_perm _ S.users).mem_iff).2 (List.mem_cons_of_mem _ hu), rfl, Int.le_refl _⟩
    | lease k ps p i h us => subst us; exact ⟨u, hu, rfl, Int.le_refl _⟩
    | close k i hi ps p x a n us =>
      rcases us with us | ⟨j, hj2, us⟩
      · rw [us]; exact ⟨u, hu, rfl, Int.le_refl _⟩
      · rw [us]
        have hjl := uAt_lt hj2
        obtain ⟨m, hm2, rfl⟩ := List.mem_iff_getElem.1 hu
        by_cases hmj : j = m
        · subst hmj
          have ea : E.a ≥ 0 := by
            simp only [evMay, Bool.and_eq_true, decide_eq_true_eq] at hm
            obtain ⟨⟨⟨⟨⟨⟨⟨_, _⟩, h3⟩, h4⟩, _⟩, _⟩, _⟩, _⟩ := hm
            have : E.a ∈ evParts E := by unfold evParts; simp [k]
            have := List.all_eq_true.1 h3 _ this
            simp [nMay] at this
            omega
          have := sum_le (I.ur _ hu).2 ea
          refine ⟨_, List.mem_iff_getElem.2 ⟨j, by simpa using hm2, List.getElem_set_self _⟩, ?_, ?_⟩
          · rw [usr_get hm2]
          · rw [usr_get hm2]; exact this.1
        · exact ⟨_, List.mem_iff_getElem.2 ⟨m, by simpa using hm2, List.getElem_set_ne hmj _⟩, rfl, Int.le_refl _⟩
    | turn k j hj2 v hv us =>
      subst us
      obtain ⟨m, hm2, rfl⟩ := List.mem_iff_getElem.1 hu
      by_cases hmj : j = m
      · subst hmj
        refine ⟨v, List.mem_iff_getElem.2 ⟨j, by simpa using hm2, List.getElem_set_self _⟩, ?_, ?_⟩
        · rw [hv.1, usr_get hm2]
        · rw [hv.2, usr_get hm2]; exact Int.le_refl _
      · exact ⟨_, List.mem_iff_getElem.2 ⟨m, by simpa using hm2, List.getElem_set_ne hmj _⟩, rfl, Int.le_refl _⟩
    | other k us x a n => rw [us]; exact ⟨u, hu, rfl, Int.le_refl _⟩
  · cases ht with
    | boot k us x a n => rw [us]; exact Nat.le_refl _
    | user k h us => subst us; dsimp only; rw [uPut_len]; omega
    | lease k ps p i h us => subst us; exact Nat.le_refl _
    | close k i hi ps p x a n us =>
      rcases us with us | ⟨j, hj2, us⟩
      · rw [us]; exact Nat.le_refl _
      · rw [us]; simp
    | turn k j hj2 v hv us => subst us; simp
    | other k us x a n => rw [us]; exact Nat.le_refl _
/-- A part of the events. -/
theorem jAll_pre {C : Cfg} {pre : List Ev} : ∀ (n : Nat) (post : List Ev), post.length = n → (pre ++ post).length ≤ 2000000 → ∀ t T, jAll C (pre ++ post) = some (t, T) → ∃ s S, jAll C pre = some (s, S) ∧ More25 s S t T
  | 0, post, hn, hl, t, T, h => by
    obtain rfl := List.length_eq_zero_iff.1 hn
    rw [List.append_nil] at h
    exact ⟨t, T, h, More25.refl t T⟩
  | n + 1, post, hn, hl, t, T, h => by
    obtain ⟨p2, E, rfl⟩ : ∃ p2 E, post = p2 ++ [E] := ⟨post.dropLast, post.getLast (by intro h; simp [h] at hn), (List.dropLast_concat_getLast _).symm⟩
    rw [← List.append_assoc] at h hl
    unfold jAll at h
    rw [wAll_snoc] at h
    cases hw : wAll C (jStep C) jn0 (pre ++ p2) with
    | none => rw [hw] at h; simp at h
    | some p =>
      rw [hw] at h
      simp only [Option.bind_some] at h
      split at h
      · rename_i he
        simp at h
        obtain ⟨rfl, rfl⟩ := h
        obtain ⟨h2, h3, _⟩ := sApply_ok he
        have hl2 : (pre ++ p2).length ≤ 2000000 := by rw [List.length_append] at hl; omega
        obtain ⟨s, S, h4, h5⟩ := jAll_pre n p2 (by simp at hn; omega) hl2 p.1 p.2 hw
        exact ⟨s, S, h4, h5.trans (more_step hw hl2 h3 (turn_cases h2 h3))⟩
      · simp at h
/-- Lines of a part of the events. -/
theorem more25 {C : Cfg} {es : List Ev} {o : List Ln} (h : aLines C es = some o) (hn : es.length ≤ 2000000) (k : Nat) : ∃ o', aLines C (es.take k) = some o' ∧ o'.length ≤ o.length ∧ (o.map Ln.user).Nodup ∧
    ∀ x ∈ o', ∃ y ∈ o, y.user = x.user ∧ y.logins ≥ x.logins ∧ y.resumes ≥ x.resumes ∧ y.fails ≥ x.fails ∧ y.locks ≥ x.locks ∧ y.bytes ≥ x.bytes := by
  rw [jAll_lines] at h
  cases hj : jAll C es with
  | none => rw [hj] at h; simp at h
  | some p =>
  obtain ⟨t, T⟩ := p
  rw [hj] at h
  simp only [Option.map_some, Option.some.injEq] at h
  have hj2 := hj
  rw [← List.take_append_drop k es] at hj2
  obtain ⟨s, S, h1, M⟩ := jAll_pre _ (es.drop k) rfl (by rw [List.take_append_drop]; exact hn) t T hj2
  have I1 := (rows25 h1).1
  have I2 := (rows25 hj).1
  refine ⟨_, by rw [jAll_lines, h1]; rfl, ?_, ?_, fun x hx => ?_⟩
  · rw [← h]; simpa [lnOut] using M.ln
  · rw [← h, out_user (opens_user (lines_user hj) _)]; exact I2.nd
  · unfold lnOut at hx
    obtain ⟨u, hu, rfl⟩ := List.mem_map.1 hx
    obtain ⟨v, hv, e1, l1⟩ := M.us u hu
    have hneg := (I1.ur u hu).1
    refine ⟨_, by rw [← h]; exact List.mem_map.2 ⟨v, hv, rfl⟩, ?_⟩
    have c := M.cn u.user (by omega)
    have k1 := opens_keep s.1.1 S.sess u.user
    have k2 := opens_keep t.1.1 T.sess u.user
    have u1 := opens_user (lines_user h1) S.sess u.user
    have u2 := opens_user (lines_user hj) T.sess u.user
    rw [e1]
    dsimp only
    omega
end Go.AI

/- Audits: AuditMore. -/
set_option linter.all false
namespace Go.AI
variable {A : Type} {R : Adts A}
theorem tmodu25 (x m : Int) (hm : 0 < m) : ∃ k, (IntKind.u64.wrap x).tmod m = k ∧ 0 ≤ k ∧ k < m := by
  have h1 : 0 ≤ IntKind.u64.wrap x := by simp [IntKind.wrap, IntKind.signed, IntKind.bits]; omega
  exact ⟨_, rfl, Int.tmod_nonneg _ h1, Int.tmod_lt_of_pos _ hm⟩
theorem rsl_pre {a : AVal} {es : List Ev} (ha : (a = .nils ∧ es = []) ∨ ∃ b o cap, a = .lst b o es.length cap (es.flatMap Ev.row) ∧ es.length ≤ cap) {k : Nat} (hk : k ≤ es.length) : ∃ a', IsFz Ev.row a' (es.take k) ∧ ∀ K, rslP 8 a none (some (.int .i64 k)) none K = K a' := by
  rcases ha with ⟨rfl, rfl⟩ | ⟨b, o, cap, rfl, hc⟩
  · simp at hk
    subst hk
    exact ⟨.nils, .inl ⟨rfl, rfl⟩, fun K => by simp [rslP, bnd]⟩
  · refine ⟨.lst b o k cap ((es.take k).flatMap Ev.row), .inr (.inl ⟨b, o, cap, ?_⟩), fun K => ?_⟩
    · rw [List.length_take, Nat.min_eq_left hk]
    · simp only [rslP, bnd]
      rw [if_pos (by omega)]
      have := rows_taken evR es k
      simp [this]
def MoO (o' : List Ln) (base : AHeap A) (mm : Nat) (y : List AVal) (g : AHeap A) : Prop :=
  ∃ i : Nat, y = [.int .i64 i] ∧ i ≤ o'.length ∧ g = base ∧ mm = o'.length - i
def MoI (u : Int) (o : List Ln) (base : AHeap A) (mm : Nat) (y : List AVal) (g : AHeap A) : Prop :=
  ∃ (b : Bool) (j : Nat), y = [.bool b, .int .i64 j] ∧ j ≤ o.length ∧ (b = true ↔ ∃ n ∈ o.take j, n.user = u) ∧ g = base ∧ mm = o.length - j
theorem AuditMore_ok (hR : R.Ok) (C : Cfg) (a : AVal) (es : List Ev) (ha : (a = .nils ∧ es = []) ∨ ∃ b o cap, a = .lst b o es.length cap (es.flatMap Ev.row) ∧ es.length ≤ cap) (hn : es.length ≤ 1048576) (cut : Int) : Tri Pr R n_law25_AuditMore [.agg C.row, a, .int .i64 cut] [] fun u _ => u = .bool true := by
  have rc : Cfg.row C = [.int .i64 C.sectors, .int .i64 C.halves, .int .i64 C.sessions, .int .i64 C.addresses, .int .i64 C.fails, .int .i64 C.lockout, .int .i64 C.halfLife, .int .i64 C.idle, .int .i64 C.absolute, .int .i64 C.quarantine, .int .i64 C.ticketLife, .int .i64 C.keep] := rfl
  have hz : IsFz Ev.row a es := by
    rcases ha with ⟨h1, h2⟩ | ⟨b, o, cap, h1, _⟩
    · exact .inl ⟨h1, h2⟩
    · exact .inr (.inl ⟨b, o, cap, h1⟩)
  have rda := fun g : AHeap A => hz.rd evR g
  have la := (rda []).len
  obtain ⟨k, hk, k0, k1⟩ := tmodu25 cut ((es.length : Int) + 1) (by omega)
  obtain ⟨kn, rfl⟩ : ∃ n : Nat, k = n := ⟨k.toNat, by omega⟩
  obtain ⟨a', hz', hrsl⟩ := rsl_pre ha (k := kn) (by omega)
  have w1 := w64 (n := (es.length : Int) + 1) (by omega)
  have w2 : IntKind.u64.wrap ((es.length : Int) + 1) = (es.length : Int) + 1 := wu64 (by omega)
  have w3 : IntKind.i64.wrap (kn : Int) = kn := w64 (by omega)
  have w4 : IntKind.u64.wrap (kn : Int) = kn := wu64 (by omega)
  have nz : ¬ (es.length : Int) + 1 = 0 := by omega
  apply c_law25_AuditMore
  unfold p_law25_AuditMore
  simp -implicitDefEqProofs [rc]
  refine law25_awake_ok hR fun g0 k0 _ => ?_
  have c0 : g0[0]? = some (.cells t_api_Config C.row) := by rw [k0 0 (by simp)]; rfl
  have l0 := (List.getElem?_eq_some_iff.1 c0).1
  have c0' := c0
  rw [rc] at c0'
  simp -implicitDefEqProofs [la, w1, w2, hk, nz, w3, w4, c0', AObj.read]
  refine audit_Lines_ok hR C (EvRd.fz hz g0) hn (fun h0 g1 k1 l1 => ?_) (fun o ho x g1 O1 B1 k1 l1 => ?_)
  · have c1 : g1[0]? = _ := (k1 0 (by omega)).trans c0'
    simp -implicitDefEqProofs [hrsl, c1, AObj.read]
    refine audit_Lines_ok hR C (EvRd.fz hz' g1) (by rw [List.length_take]; omega) (fun _ g2 _ _ => ?_) (fun o ho x g2 O2 B2 k2 l2 => ?_)
    · simp -implicitDefEqProofs
      refine law0_Num_ok ?_
      simp -implicitDefEqProofs
    · simp -implicitDefEqProofs
      refine law0_Num_ok ?_
      simp -implicitDefEqProofs
  have c1 : g1[0]? = _ := (k1 0 (by omega)).trans c0'
  obtain ⟨o', ho', hlen, hnd, hmore⟩ := more25 ho (by omega) kn
  simp -implicitDefEqProofs [hrsl, c1, AObj.read]
  refine audit_Lines_ok hR C (EvRd.fz hz' g1) (by rw [List.length_take]; omega) (fun h9 g2 _ _ => by rw [ho'] at h9; simp at h9) (fun o2 ho2 x2 g2 O2 B2 k2 l2 => ?_)
  obtain rfl := Option.some.inj (ho'.symm.trans ho2)
  have ol : o.length ≤ 2000000 := by
    have h1 := ho
    rw [jAll_lines] at h1
    cases hj : jAll C es with
    | none => rw [hj] at h1; simp at h1
    | some p =>
      rw [hj] at h1
      simp only [Option.map_some, Option.some.injEq] at h1
      have := (jAll_le (s := p.1) (S := p.2) hj).1.u
      rw [← h1]; simp only [lnOut, List.length_map]; omega
  have rdx := (O1.move' (h' := g2) fun b hb => k2 b (O1.blt hb)).rd lnR
  have rdy := O2.rd lnR
  have lx := rdx.len
  have ly := rdy.len
  simp -implicitDefEqProofs
  refine law0_Num_ok ?_
  simp -implicitDefEqProofs
  refine law0_Num_ok ?_
  simp -implicitDefEqProofs
  refine loopP_go (MoO o' g2) o'.length (Gives.done (Nat.le_refl _) ⟨0, rfl, by omega, rfl, by omega⟩) ?_
  rintro mm y g ⟨i, rfl, hi, rfl, rfl⟩
  have wi := w64 (n := (i : Int) + 1) (by omega)
  by_cases h1 : i < o'.length
  · have h1' : (i : Int) < o'.length := by omega
    obtain ⟨q, hq, hatq⟩ := rdy.get i h1
    obtain ⟨yo, hyo, hyu, y1, y2, y3, y4, y6⟩ := hmore _ (List.getElem_mem h1)
    have q0 : ldV 1 false (q.fad 0) g = some (.int .i64 (o'[i]).user) := hatq.cell 0 (by simp [Ln.row])
    have q1 : ldV 1 false (q.fad 1) g = some (.int .i64 (o'[i]).logins) := hatq.cell 1 (by simp [Ln.row])
    have q2 : ldV 1 false (q.fad 2) g = some (.int .i64 (o'[i]).resumes) := hatq.cell 2 (by simp [Ln.row])
    have q3 : ldV 1 false (q.fad 3) g = some (.int .i64 (o'[i]).fails) := hatq.cell 3 (by simp [Ln.row])
    have q4 : ldV 1 false (q.fad 4) g = some (.int .i64 (o'[i]).locks) := hatq.cell 4 (by simp [Ln.row])
    have q6 : ldV 1 false (q.fad 6) g = some (.int .i64 (o'[i]).bytes) := hatq.cell 6 (by simp [Ln.row])
    simp -implicitDefEqProofs [ly, h1']
    refine loopP_go (MoI (o'[i]).user o g) o.length (Gives.done (Nat.le_refl _) ⟨false, 0, rfl, by omega, by simp, rfl, by omega⟩) ?_
    rintro mm y g3 ⟨b, j, rfl, hj, hb, rfl, rfl⟩
    have wj := w64 (n := (j : Int) + 1) (by omega)
    by_cases h2 : j < o.length
    · have h2' : (j : Int) < o.length := by omega
      obtain ⟨p, hp, hatp⟩ := rdx.get j h2
      have p0 : ldV 1 false (p.fad 0) g3 = some (.int .i64 (o[j]).user) := hatp.cell 0 (by simp [Ln.row])
      have p1 : ldV 1 false (p.fad 1) g3 = some (.int .i64 (o[j]).logins) := hatp.cell 1 (by simp [Ln.row])
      have p2 : ldV 1 false (p.fad 2) g3 = some (.int .i64 (o[j]).resumes) := hatp.cell 2 (by simp [Ln.row])
      have p3 : ldV 1 false (p.fad 3) g3 = some (.int .i64 (o[j]).fails) := hatp.cell 3 (by simp [Ln.row])
      have p4 : ldV 1 false (p.fad 4) g3 = some (.int .i64 (o[j]).locks) := hatp.cell 4 (by simp [Ln.row])
      have p6 : ldV 1 false (p.fad 6) g3 = some (.int .i64 (o[j]).bytes) := hatp.cell 6 (by simp [Ln.row])
      have tk := List.take_succ_eq_append_getElem h2
      have nx : ∀ b' : Bool, (b' = true ↔ ∃ n ∈ o.take (j + 1), n.user = (o'[i]).user) → Gives Pr R g3.length g3 [.bool b', .int .i64 ((j : Int) + 1)] fun z k => ∃ m', m' < o.length - j ∧ MoI (o'[i]).user o g3 m' z k := by
        intro b' hb'
        exact Gives.done (Nat.le_refl _) ⟨o.length - (j + 1), by omega, b', j + 1, by simp, by omega, hb', rfl, rfl⟩
      simp -implicitDefEqProofs [lx, h2']
      refine joinP_go ?_
      by_cases hu : (o[j]).user = (o'[i]).user
      · have hjy : o[j] = yo := by
          obtain ⟨m, hm, rfl⟩ := List.mem_iff_getElem.1 hyo
          by_cases hjm : j = m
          · subst hjm; rfl
          · exfalso
            unfold List.Nodup at hnd
            rw [List.pairwise_iff_getElem] at hnd
            by_cases hlt : j < m
            · exact hnd j m (by simp; omega) (by simp; omega) hlt (by simp [hu, hyu])
            · exact hnd m j (by simp; omega) (by simp; omega) (by omega) (by simp [hu, hyu])
        rw [hjy] at p1 p2 p3 p4 p6
        have hu' : ((o[j]).user != (o'[i]).user) = false := by simp [hu]
        simp -implicitDefEqProofs [hp, hq, hatp.fad, hatq.fad, p0, q0, hu']
        refine joinP_go ?_
        simp -implicitDefEqProofs [hp, hq, hatp.fad, hatq.fad, p1, q1, p2, q2, p3, q3, p4, q4, p6, q6, y1, y2, y3, y4, y6, wj]
        exact nx true ⟨fun _ => ⟨_, by rw [tk]; exact List.mem_append.2 (.inr (List.mem_singleton.2 rfl)), hu⟩, fun _ => rfl⟩
      · have hu' : ((o[j]).user != (o'[i]).user) = true := by simpa using hu
        simp -implicitDefEqProofs [hp, hq, hatp.fad, hatq.fad, p0, q0, hu', wj]
        refine nx b (hb.trans ⟨fun ⟨n, h3, h4⟩ => ⟨n, by rw [tk]; exact List.mem_append.2 (.inl h3), h4⟩, fun ⟨n, h3, h4⟩ => ?_⟩)
        rw [tk] at h3
        rcases List.mem_append.1 h3 with h3 | h3
        · exact ⟨n, h3, h4⟩
        · rw [List.mem_singleton.1 h3] at h4; exact absurd h4 hu
    · have h2' : ¬ (j : Int) < o.length := by omega
      have hjl : o.take j = o := List.take_of_length_le (by omega)
      have hbt : b = true := hb.2 ⟨yo, by rw [hjl]; exact hyo, hyu⟩
      subst hbt
      simp -implicitDefEqProofs [lx, h2', wi]
      exact Gives.done (Nat.le_refl _) ⟨o'.length - (i + 1), by omega, i + 1, by simp, by omega, rfl, rfl⟩
  · have h1' : ¬ (i : Int) < o'.length := by omega
    have hge : (o.length : Int) ≥ o'.length := by omega
    simp -implicitDefEqProofs [lx, ly, h1', hge]
end Go.AI

/- Configs and events that are handed in (printed by gen/tie25.py). -/
set_option linter.all false
namespace Go.AI
theorem len_s25 {α : Type} {l : List α} {n : Nat} (h : l.length = n + 1) : ∃ x r, l = x :: r ∧ r.length = n := by
  cases l with
  | nil => simp at h
  | cons x r => exact ⟨x, r, rfl, by simpa using h⟩
theorem ev25_TR2 {P : Program} {n B : Nat} {sl : Bool} {e i : TypeId} {f0 f1 f2 f3 f4 f5 f6 f7 : Field} {us : List AVal} (he : P.underlying e = some (.struct #[f0, f1, f2, f3, f4, f5, f6, f7])) (hi : P.underlying i = some (.int .i64)) (hc : P.cellsOf e = 8) (ci : P.cellsOf i = 1)
    (hf : (f0.type = i ∧ f0.offset = 0) ∧ (f1.type = i ∧ f1.offset = 1) ∧ (f2.type = i ∧ f2.offset = 2) ∧ (f3.type = i ∧ f3.offset = 3) ∧ (f4.type = i ∧ f4.offset = 4) ∧ (f5.type = i ∧ f5.offset = 5) ∧ (f6.type = i ∧ f6.offset = 6) ∧ (f7.type = i ∧ f7.offset = 7)) (h : TR2 P B (n + 2) sl e us) : ∃ x : Ev, us = x.row := by
  obtain ⟨⟨t0, o0⟩, ⟨t1, o1⟩, ⟨t2, o2⟩, ⟨t3, o3⟩, ⟨t4, o4⟩, ⟨t5, o5⟩, ⟨t6, o6⟩, ⟨t7, o7⟩⟩ := hf
  obtain ⟨hr, h6⟩ := TR2_struct he h
  rw [hc] at hr
  obtain ⟨r0, q0, rfl, h100⟩ := len_s25 hr
  obtain ⟨r1, q1, rfl, h101⟩ := len_s25 h100
  obtain ⟨r2, q2, rfl, h102⟩ := len_s25 h101
  obtain ⟨r3, q3, rfl, h103⟩ := len_s25 h102
  obtain ⟨r4, q4, rfl, h104⟩ := len_s25 h103
  obtain ⟨r5, q5, rfl, h105⟩ := len_s25 h104
  obtain ⟨r6, q6, rfl, h106⟩ := len_s25 h105
  obtain ⟨r7, q7, rfl, h107⟩ := len_s25 h106
  obtain rfl := List.length_eq_zero_iff.1 h107
  have g0 := h6 0 f0 rfl
  have g1 := h6 1 f1 rfl
  have g2 := h6 2 f2 rfl
  have g3 := h6 3 f3 rfl
  have g4 := h6 4 f4 rfl
  have g5 := h6 5 f5 rfl
  have g6 := h6 6 f6 rfl
  have g7 := h6 7 f7 rfl
  rw [t0, o0, ci] at g0
  rw [t1, o1, ci] at g1
  rw [t2, o2, ci] at g2
  rw [t3, o3, ci] at g3
  rw [t4, o4, ci] at g4
  rw [t5, o5, ci] at g5
  rw [t6, o6, ci] at g6
  rw [t7, o7, ci] at g7
  obtain ⟨x0, e0, _⟩ := TR2_int hi g0
  obtain ⟨x1, e1, _⟩ := TR2_int hi g1
  obtain ⟨x2, e2, _⟩ := TR2_int hi g2
  obtain ⟨x3, e3, _⟩ := TR2_int hi g3
  obtain ⟨x4, e4, _⟩ := TR2_int hi g4
  obtain ⟨x5, e5, _⟩ := TR2_int hi g5
  obtain ⟨x6, e6, _⟩ := TR2_int hi g6
  obtain ⟨x7, e7, _⟩ := TR2_int hi g7
  simp at e0 e1 e2 e3 e4 e5 e6 e7
  subst e0 e1 e2 e3 e4 e5 e6 e7
  exact ⟨⟨x0, x1, x2, x3, x4, x5, x6, x7⟩, rfl⟩
theorem cfg25_TR2 {P : Program} {n B : Nat} {sl : Bool} {e i : TypeId} {f0 f1 f2 f3 f4 f5 f6 f7 f8 f9 f10 f11 : Field} {us : List AVal} (he : P.underlying e = some (.struct #[f0, f1, f2, f3, f4, f5, f6, f7, f8, f9, f10, f11])) (hi : P.underlying i = some (.int .i64)) (hc : P.cellsOf e = 12) (ci : P.cellsOf i = 1)
    (hf : (f0.type = i ∧ f0.offset = 0) ∧ (f1.type = i ∧ f1.offset = 1) ∧ (f2.type = i ∧ f2.offset = 2) ∧ (f3.type = i ∧ f3.offset = 3) ∧ (f4.type = i ∧ f4.offset = 4) ∧ (f5.type = i ∧ f5.offset = 5) ∧ (f6.type = i ∧ f6.offset = 6) ∧ (f7.type = i ∧ f7.offset = 7) ∧ (f8.type = i ∧ f8.offset = 8) ∧ (f9.type = i ∧ f9.offset = 9) ∧ (f10.type = i ∧ f10.offset = 10) ∧ (f11.type = i ∧ f11.offset = 11)) (h : TR2 P B (n + 2) sl e us) : ∃ x : Cfg, us = x.row := by
  obtain ⟨⟨t0, o0⟩, ⟨t1, o1⟩, ⟨t2, o2⟩, ⟨t3, o3⟩, ⟨t4, o4⟩, ⟨t5, o5⟩, ⟨t6, o6⟩, ⟨t7, o7⟩, ⟨t8, o8⟩, ⟨t9, o9⟩, ⟨t10, o10⟩, ⟨t11, o11⟩⟩ := hf
  obtain ⟨hr, h6⟩ := TR2_struct he h
  rw [hc] at hr
  obtain ⟨r0, q0, rfl, h100⟩ := len_s25 hr
  obtain ⟨r1, q1, rfl, h101⟩ := len_s25 h100
  obtain ⟨r2, q2, rfl, h102⟩ := len_s25 h101
  obtain ⟨r3, q3, rfl, h103⟩ := len_s25 h102
  obtain ⟨r4, q4, rfl, h104⟩ := len_s25 h103
  obtain ⟨r5, q5, rfl, h105⟩ := len_s25 h104
  obtain ⟨r6, q6, rfl, h106⟩ := len_s25 h105
  obtain ⟨r7, q7, rfl, h107⟩ := len_s25 h106
  obtain ⟨r8, q8, rfl, h108⟩ := len_s25 h107
  obtain ⟨r9, q9, rfl, h109⟩ := len_s25 h108
  obtain ⟨r10, q10, rfl, h110⟩ := len_s25 h109
  obtain ⟨r11, q11, rfl, h111⟩ := len_s25 h110
  obtain rfl := List.length_eq_zero_iff.1 h111
  have g0 := h6 0 f0 rfl
  have g1 := h6 1 f1 rfl
  have g2 := h6 2 f2 rfl
  have g3 := h6 3 f3 rfl
  have g4 := h6 4 f4 rfl
  have g5 := h6 5 f5 rfl
  have g6 := h6 6 f6 rfl
  have g7 := h6 7 f7 rfl
  have g8 := h6 8 f8 rfl
  have g9 := h6 9 f9 rfl
  have g10 := h6 10 f10 rfl
  have g11 := h6 11 f11 rfl
  rw [t0, o0, ci] at g0
  rw [t1, o1, ci] at g1
  rw [t2, o2, ci] at g2
  rw [t3, o3, ci] at g3
  rw [t4, o4, ci] at g4
  rw [t5, o5, ci] at g5
  rw [t6, o6, ci] at g6
  rw [t7, o7, ci] at g7
  rw [t8, o8, ci] at g8
  rw [t9, o9, ci] at g9
  rw [t10, o10, ci] at g10
  rw [t11, o11, ci] at g11
  obtain ⟨x0, e0, _⟩ := TR2_int hi g0
  obtain ⟨x1, e1, _⟩ := TR2_int hi g1
  obtain ⟨x2, e2, _⟩ := TR2_int hi g2
  obtain ⟨x3, e3, _⟩ := TR2_int hi g3
  obtain ⟨x4, e4, _⟩ := TR2_int hi g4
  obtain ⟨x5, e5, _⟩ := TR2_int hi g5
  obtain ⟨x6, e6, _⟩ := TR2_int hi g6
  obtain ⟨x7, e7, _⟩ := TR2_int hi g7
  obtain ⟨x8, e8, _⟩ := TR2_int hi g8
  obtain ⟨x9, e9, _⟩ := TR2_int hi g9
  obtain ⟨x10, e10, _⟩ := TR2_int hi g10
  obtain ⟨x11, e11, _⟩ := TR2_int hi g11
  simp at e0 e1 e2 e3 e4 e5 e6 e7 e8 e9 e10 e11
  subst e0 e1 e2 e3 e4 e5 e6 e7 e8 e9 e10 e11
  exact ⟨⟨x0, x1, x2, x3, x4, x5, x6, x7, x8, x9, x10, x11⟩, rfl⟩
theorem rows25_of {α : Type} {f : α → List AVal} {q : List AVal → Prop} (he : ∀ r, q r → ∃ x : α, r = f x) : ∀ rows : List (List AVal), (∀ r ∈ rows, q r) → ∃ l : List α, rows = l.map f
  | [], _ => ⟨[], rfl⟩
  | r :: rs, h => by
    obtain ⟨l, rfl⟩ := rows25_of he rs fun r hr => h r (by simp [hr])
    obtain ⟨x, rfl⟩ := he _ (h r (by simp))
    exact ⟨x :: l, rfl⟩
theorem evs25s_TR2 {P : Program} {n B : Nat} {t e i : TypeId} {f0 f1 f2 f3 f4 f5 f6 f7 : Field} {us : List AVal} (hu : P.underlying t = some (.slice e)) (he : P.underlying e = some (.struct #[f0, f1, f2, f3, f4, f5, f6, f7])) (hi : P.underlying i = some (.int .i64)) (hc : P.cellsOf e = 8) (ci : P.cellsOf i = 1)
    (hf : (f0.type = i ∧ f0.offset = 0) ∧ (f1.type = i ∧ f1.offset = 1) ∧ (f2.type = i ∧ f2.offset = 2) ∧ (f3.type = i ∧ f3.offset = 3) ∧ (f4.type = i ∧ f4.offset = 4) ∧ (f5.type = i ∧ f5.offset = 5) ∧ (f6.type = i ∧ f6.offset = 6) ∧ (f7.type = i ∧ f7.offset = 7)) (h : TR2 P B (n + 3) true t us) : ∃ (a : AVal) (l : List Ev), us = [a] ∧ ((a = .nils ∧ l = []) ∨ ∃ b o cap, a = .lst b o l.length cap (l.flatMap Ev.row) ∧ l.length ≤ cap) ∧ l.length ≤ B := by
  rcases TR2_slice hu h with rfl | ⟨b', o, len, cap, rows, rfl, h1, h2, h2b, h3, h4⟩ | ⟨h9, x, rfl⟩
  · exact ⟨_, [], rfl, .inl ⟨rfl, rfl⟩, by simp⟩
  · obtain ⟨l, rfl⟩ := rows25_of (f := Ev.row) (fun r hr => ev25_TR2 he hi hc ci hf hr) rows fun r hr => (h4 r hr).2
    subst h3
    refine ⟨_, l, rfl, .inr ⟨b', o, cap, ?_, by simpa using h1⟩, by simpa using h2b⟩
    rw [List.length_map, List.flatMap]
  · cases h9
end Go.AI
