/- Audits: refusals; who holds an address. -/
import Derived.Test.YtmdlhohhimdkaaaGreatMcAudits
import Derived.Test.YtmdlhohhimdkaaaGreatFns
set_option linter.all false
namespace Go.AI
variable {A : Type} {R : Adts A}
theorem audit_bad_nil {h : AHeap A} {K : AVal → AHeap A → Prop} (hk : K (.bool false) h) : Tri Pr R n_audit_bad [.nili] h K := by
  apply c_audit_bad
  unfold p_audit_bad
  simp -implicitDefEqProofs [mkiP]
  refine Is_nil_ok _ ?_
  simp -implicitDefEqProofs [mkiP]
  refine Is_nil_ok _ ?_
  exact hk
theorem audit_bad_ref {h : AHeap A} {r : Nat} {i er : Int} (he : er = 2000 ∨ er = 2001) (hr : h[r]? = some (.cells t_audit_refused [.int .i64 i, .iface t_api_Errno (.int .i64 er)])) {K : AVal → AHeap A → Prop} (hk : K (.bool true) h) : Tri Pr R n_audit_bad [.iface t_p_audit_refused (.ptr r 0)] h K := by
  apply c_audit_bad
  unfold p_audit_bad
  simp -implicitDefEqProofs [mkiP]
  refine Is_audit_refused_ok er _ hr rfl ?_
  rcases he with rfl | rfl
  · simp -implicitDefEqProofs
    exact hk
  · simp -implicitDefEqProofs [mkiP]
    refine Is_audit_refused_ok 2001 _ hr rfl ?_
    simp -implicitDefEqProofs
    exact hk
/-- The state of events, if they may come. -/
def sRunO (C : Cfg) : Sta → List Ev → Option Sta
  | S, [] => some S
  | S, E :: r => if (sApply C S E).2 = 0 then sRunO C (sApply C S E).1 r else none
def sAllO (C : Cfg) (es : List Ev) : Option Sta := (sNew C.addresses).bind fun S => sRunO C S es
theorem wRun_snd {σ : Type} (C : Cfg) (step : σ → Ev → Sta → Sta → σ) : ∀ (es : List Ev) (s : σ) (S : Sta), (wRun C step s S es).map Prod.snd = sRunO C S es
  | [], s, S => rfl
  | E :: r, s, S => by
    unfold wRun sRunO
    split
    · exact wRun_snd C step r _ _
    · rfl
theorem wAll_snd {σ : Type} (C : Cfg) (step : σ → Ev → Sta → Sta → σ) (s : σ) (es : List Ev) : (wAll C step s es).map Prod.snd = sAllO C es := by
  unfold wAll sAllO
  cases sNew C.addresses with
  | none => rfl
  | some S => exact wRun_snd C step es s S
/-- Events that can be read over whatever comes behind. -/
def EvRd (a : AVal) (es : List Ev) (h : AHeap A) : Prop := ∀ g : AHeap A, (∀ k, k < h.length → g[k]? = h[k]?) → RdS Ev.row 8 a es g
theorem EvRd.fz {a : AVal} {es : List Ev} (ha : IsFz Ev.row a es) (h : AHeap A) : EvRd a es h := fun g _ => ha.rd evR g
theorem EvRd.own {a : AVal} {es : List Ev} {ty : TypeId} {h : AHeap A} (ha : Own Ev.row 8 ty a es h) : EvRd a es h := fun g hg => (ha.move' fun b hb => hg b (ha.blt hb)).rd evR
theorem EvRd.move {a : AVal} {es : List Ev} {h h' : AHeap A} (ha : EvRd a es h) (hh : ∀ k, k < h.length → h'[k]? = h[k]?) (hl : h.length ≤ h'.length) : EvRd a es h' := fun g hg => ha g fun k hk => (hg k (by omega)).trans (hh k hk)
def aHolder (C : Cfg) (ad : Int) (es : List Ev) : Int × Int × Int :=
  match sAllO C es with
  | none => (0, 0, 2500)
  | some S => if ad < 0 ∨ (S.addrs.length : Int) ≤ ad then (0, 0, 2500) else
    match S.sess.find? fun x => decide (x.address = ad) with
    | some x => (x.user, x.session, 0)
    | none => (-1, -1, 0)
def Inv0 (_ : Unit) (O : Nat → Prop) (_ : AHeap A) : Prop := ∀ k, ¬ O k
theorem seer0 : Seer A (Inv0 (A := A)) := ⟨fun s O g k h hk => absurd hk (h k), fun s O g g' h _ => h⟩
def HoI (S : Sta) (ad : Int) (h : AHeap A) (mm : Nat) (y : List AVal) (g : AHeap A) : Prop :=
  ∃ i : Nat, y = [.int .i64 i] ∧ i ≤ S.sess.length ∧ (∀ j (hj : j < S.sess.length), j < i → decide ((S.sess[j]).address = ad) = false) ∧ (∀ k, k < h.length → g[k]? = h[k]?) ∧ h.length ≤ g.length ∧ mm = S.sess.length - i
theorem audit_Holder_ok (hR : R.Ok) (C : Cfg) {a : AVal} {es : List Ev} {h : AHeap A} (ha : EvRd a es h) (hn : es.length ≤ 1048576) (ad : Int) {K : AVal → AHeap A → Prop}
    (hk : ∀ g, (∀ k, k < h.length → g[k]? = h[k]?) → h.length ≤ g.length → K (.tup [.int .i64 (aHolder C ad es).1, .int .i64 (aHolder C ad es).2.1, .int .i64 (aHolder C ad es).2.2]) g) : Tri Pr R n_audit_Holder [.agg C.row, .int .i64 ad, a] h K := by
  have rc : Cfg.row C = [.int .i64 C.sectors, .int .i64 C.halves, .int .i64 C.sessions, .int .i64 C.addresses, .int .i64 C.fails, .int .i64 C.lockout, .int .i64 C.halfLife, .int .i64 C.idle, .int .i64 C.absolute, .int .i64 C.quarantine, .int .i64 C.ticketLife, .int .i64 C.keep] := rfl
  have hs := wAll_snd C (fun (_ : Unit) _ _ _ => ()) () es
  apply c_audit_Holder
  unfold p_audit_Holder
  simp -implicitDefEqProofs [rc]
  rw [← rc]
  have ha2 := ha.move (h' := h ++ [.cells t_api_Config C.row]) (fun k hk => List.getElem?_append_left hk) (by simp)
  refine audit_walk_ok hR seer0 C (step := fun _ _ _ _ => ()) (s0 := ()) (O0 := fun _ => False) (es := es) (a1 := a) (Bd := fun _ _ => True) (fun s O g x pe ps pt E S T K _ _ hi _ hK => ?_) (by kernel_rfl) (fun k h => h) trivial (fun _ _ _ _ _ _ => trivial) (fun g hg => ha2 g fun k hk => hg k hk (fun h => h)) hn (fun s S sv O g hw hsv hle hi hf hl _ => ?_) (fun hw i er r g he hr hf hl => ?_)
  · apply c_audit_Holder_c1
    unfold p_audit_Holder_c1
    exact hK O g hi (fun _ _ _ => rfl) (Nat.le_refl _) (fun k hk => .inl hk)
  · rw [hw] at hs
    obtain ⟨u, x, ad', p, rfl, hu, hx, had, hp⟩ := hsv
    have s1 := hu.sc
    have s2 := hx.sc
    have s3 := had.sc
    have s4 := hp.sc
    have kp : ∀ k, k < h.length → g[k]? = h[k]? := fun k hk => (hf k (by simp; omega) (fun h => h)).trans (List.getElem?_append_left hk)
    have hl' : h.length ≤ g.length := by simp at hl; omega
    simp -implicitDefEqProofs [s1, s2, s3, s4]
    refine audit_bad_nil ?_
    have ha3 : aHolder C ad es = (if ad < 0 ∨ (S.addrs.length : Int) ≤ ad then ((0, 0, 2500) : Int × Int × Int) else match S.sess.find? fun x => decide (x.address = ad) with | some x => ((x.user, x.session, 0) : Int × Int × Int) | none => ((-1, -1, 0) : Int × Int × Int)) := by
      unfold aHolder; rw [← hs]; rfl
    have rda := (had.rd adrR ([] : AHeap A)).len
    have rdx := fun g : AHeap A => hx.rd sesR g
    have done : ∀ g' : AHeap A, (∀ k, k < g.length → g'[k]? = g[k]?) → g.length ≤ g'.length → ∀ q, aHolder C ad es = q → K (.tup [.int .i64 q.1, .int .i64 q.2.1, .int .i64 q.2.2]) g' := by
      rintro g' h1 h2 q rfl
      exact hk g' (fun k hk => (h1 k (by omega)).trans (kp k hk)) (by omega)
    by_cases h1 : ad < 0
    · simp -implicitDefEqProofs [h1]
      exact done _ (fun k hk => List.getElem?_append_left hk) (by simp) (0, 0, 2500) (by rw [ha3, if_pos (.inl h1)])
    by_cases h2 : (S.addrs.length : Int) ≤ ad
    · have h2' : ad ≥ (S.addrs.length : Int) := h2
      simp -implicitDefEqProofs [h1, rda, h2']
      exact done _ (fun k hk => List.getElem?_append_left hk) (by simp) (0, 0, 2500) (by rw [ha3, if_pos (.inr h2)])
    have h2' : ¬ ad ≥ (S.addrs.length : Int) := h2
    rw [if_neg (by omega)] at ha3
    simp -implicitDefEqProofs [h1, rda, h2', (rdx ([] : AHeap A)).len]
    refine loopP_go (HoI S ad g) S.sess.length (Gives.done (Nat.le_refl _) ⟨0, rfl, by omega, fun j _ hj => by omega, fun k hk => List.getElem?_append_left hk, by simp, by omega⟩) ?_
    rintro mm y g2 ⟨i, rfl, hi2, hb, kp2, hl2, rfl⟩
    have e1 := w64 (n := (i : Int) + 1) (by have := hle.x; omega)
    by_cases h3 : i < S.sess.length
    · obtain ⟨pp, hpp, hat⟩ := (rdx g2).get i h3
      have hall : ldV 4 true pp g2 = some (.agg (S.sess[i]).row) := hat.all
      unfold Ses.row at hall
      have rL : ∀ o, (g2 ++ [o] : AHeap A)[g2.length]? = some o := fun o => by simp
      by_cases h4 : (S.sess[i]).address = ad
      · have h4' : ((S.sess[i]).address == ad) = true := by simpa using h4
        simp -implicitDefEqProofs [h3, hpp, hall, h4']
        have hfind : S.sess.find? (fun x => decide (x.address = ad)) = some S.sess[i] := by
          rw [List.find?_eq_some_iff_getElem]
          exact ⟨by simpa using h4, i, h3, rfl, fun j hj => by simpa using hb j (by omega) hj⟩
        exact done _ (fun k hk => by rw [List.getElem?_append_left (by omega)]; exact kp2 k hk) (by simp; omega) ((S.sess[i]).user, (S.sess[i]).session, 0) (by rw [ha3, hfind])
      · have h4' : ((S.sess[i]).address == ad) = false := by simpa using h4
        simp -implicitDefEqProofs [h3, hpp, hall, h4', e1]
        refine Gives.done (by simp; omega) ⟨S.sess.length - (i + 1), by omega, i + 1, by simp, by omega, fun j hj hji => ?_, fun k hk => by rw [List.getElem?_append_left (by omega)]; exact kp2 k hk, by simp; omega, rfl⟩
        by_cases hj2 : j = i
        · subst hj2; simpa using h4
        · exact hb j hj (by omega)
    · simp -implicitDefEqProofs [h3]
      have hfind : S.sess.find? (fun x => decide (x.address = ad)) = none := by
        rw [List.find?_eq_none]
        intro x hx2
        obtain ⟨j, hj, rfl⟩ := List.mem_iff_getElem.1 hx2
        have := hb j hj (by omega)
        simpa using this
      exact done _ kp2 hl2 (-1, -1, 0) (by rw [ha3, hfind])
  · rw [hw] at hs
    have kp : ∀ k, k < h.length → g[k]? = h[k]? := fun k hk => (hf k (by simp; omega) (fun h => h)).trans (List.getElem?_append_left hk)
    have hl' : h.length ≤ g.length := by simp at hl; omega
    have ha3 : aHolder C ad es = (0, 0, 2500) := by unfold aHolder; rw [← hs]; rfl
    unfold zSta
    simp -implicitDefEqProofs
    refine audit_bad_ref he (get_app hr) ?_
    simp -implicitDefEqProofs
    have := hk (g ++ [.cells t_api_State [.int .i64 0, .int .i64 0, .int .i64 0, .nils, .nils, .nils, .nils]]) (fun k hk => by rw [List.getElem?_append_left (by omega)]; exact kp k hk) (by simp; omega)
    rw [ha3] at this
    exact this
end Go.AI

/- The document's states: all events. -/
set_option linter.all false
namespace Go.AI
variable {A : Type} {R : Adts A}
def AlW (C : Cfg) (S : Sta) (E : Ev) (g : AHeap A) (vs : List AVal) (g2 : AHeap A) : Prop :=
  ∃ l, vs = [.ptr g.length 0, .int .i64 (sApply C S E).2] ∧ g2 = g ++ [.cells t_api_State l] ∧ IsSta (.agg l) (sApply C S E).1
structure AlI (C : Cfg) (es : List Ev) (h : AHeap A) (i : Nat) (S : Sta) (sv : List AVal) (g : AHeap A) : Prop where
  il : i ≤ es.length
  f : ∀ k, k < h.length → g[k]? = h[k]?
  c0 : g[h.length]? = some (.cells t_api_Config C.row)
  c1 : g[h.length + 1]? = some (.cells t_api_State zSta)
  c2 : g[h.length + 2]? = some (.cells t_api_State sv)
  st : IsSta (.agg sv) S
  le : StaLe S (16 + i)
  ok : StaIn S
  run : sRunO C S (es.drop i) = sAllO C es
  len : h.length + 3 ≤ g.length
def AlJ (C : Cfg) (es : List Ev) (h : AHeap A) (mm : Nat) (y : List AVal) (g : AHeap A) : Prop :=
  ∃ (i : Nat) (S : Sta) (sv : List AVal), y = [.int .i64 i] ∧ AlI C es h i S sv g ∧ mm = es.length - i
theorem ref20_All_ok (hR : R.Ok) (C : Cfg) {a : AVal} {es : List Ev} {h : AHeap A} (ha : Rg Ev.row 8 a es h) (hn : es.length ≤ 1048576) {K : AVal → AHeap A → Prop}
    (hk1 : ∀ S sv g, sAllO C es = some S → IsSta sv S → StaLe S 2000000 → Gr h g → K (.tup [sv, .int .i64 0]) g) (hk0 : sAllO C es = none → ∀ (er : Int) g, er ≠ 0 → Gr h g → K (.tup [.agg zSta, .int .i64 er]) g) : Tri Pr R n_ref20_All [.agg C.row, a] h K := by
  have rc : Cfg.row C = [.int .i64 C.sectors, .int .i64 C.halves, .int .i64 C.sessions, .int .i64 C.addresses, .int .i64 C.fails, .int .i64 C.lockout, .int .i64 C.halfLife, .int .i64 C.idle, .int .i64 C.absolute, .int .i64 C.quarantine, .int .i64 C.ticketLife, .int .i64 C.keep] := rfl
  apply c_ref20_All
  unfold p_ref20_All
  simp -implicitDefEqProofs [rc, AObj.read]
  refine ref20_NewState_ok hR _ (fun hnew => ?_) (fun S0 sv0 hnew hsv0 => ?_)
  · simp -implicitDefEqProofs [AObj.read]
    exact hk0 (by unfold sAllO; rw [hnew]; rfl) 2000 _ (by decide) (Gr.app h _)
  obtain ⟨l0, rfl, ll0, ls0, li0⟩ := hsv0.list
  have n0 := sNew_in hnew
  have la : ∀ g, Gr h g → ∀ K, lenP a K = K (.int .i64 es.length) := fun g G => (ha g G).len
  have la0 := la h (Gr.refl h)
  simp -implicitDefEqProofs [ll0, ls0]
  refine loopP_go (AlJ C es h) es.length (Gives.done (Nat.le_refl _) ⟨0, S0, l0, rfl, ⟨by omega, fun k hk => List.getElem?_append_left hk, ?_, ?_, ?_, hsv0, n0.1, n0.2, ?_, by simp⟩, by omega⟩) ?_
  · rw [List.getElem?_append_right (Nat.le_refl _), rc]; simp
  · rw [List.getElem?_append_right (by omega)]; simp [zSta]
  · rw [List.getElem?_append_right (by omega)]; simp
  · unfold sAllO; rw [hnew]; rfl
  rintro mm y g ⟨i, S, sv, rfl, W, rfl⟩
  have hil := W.il
  have hlen := W.len
  have G : Gr h g := ⟨W.f, by omega⟩
  obtain ⟨lv, hlv, ll, lsc, lix⟩ := W.st.list
  obtain rfl : sv = lv := by simpa using hlv
  have c0 := W.c0
  have c1 := W.c1
  have c2 := W.c2
  rw [rc] at c0
  unfold zSta at c1
  have le1 : StaLe S 2000000 := W.le.mono (by omega)
  have tk : sv.take 7 = sv := List.take_of_length_le (by omega)
  by_cases h1 : i < es.length
  · have h1' : (i : Int) < es.length := by omega
    have hdr : es.drop i = es[i] :: es.drop (i + 1) := List.drop_eq_getElem_cons h1
    have hrun := W.run
    rw [hdr] at hrun
    obtain ⟨pe, hpe, hate⟩ := (ha g G).get i h1
    have hall : ldV 8 true pe g = some (.agg es[i].row) := hate.all
    have wi := w64 (n := (i : Int) + 1) (by omega)
    simp -implicitDefEqProofs [la0, h1']
    refine joinP_all (AlW C S es[i] g) ?_ ?_
    · have c0a : ∀ o : AObj A, (g ++ [o] : AHeap A)[h.length]? = _ := fun o => get_app c0
      have c2a : ∀ o : AObj A, (g ++ [o] : AHeap A)[h.length + 2]? = _ := fun o => get_app c2
      have hall2 : ∀ o : AObj A, ldV 8 true pe (g ++ [o]) = some (.agg es[i].row) := fun o => by
        obtain ⟨p', hp', ha'⟩ := (ha (g ++ [o]) (G.trans (Gr.app g _))).get i h1
        obtain rfl := idx_uniq hp' hpe
        exact ha'.all
      simp -implicitDefEqProofs [hpe, c0, c2, hall, AObj.read, c0a, c2a, hall2, ll, tk]
      refine ⟨?_, ?_⟩
      · refine ref20_Apply_ok hR C W.st le1 W.ok es[i] fun sv' hsv' => ?_
        obtain ⟨l', rfl, q1, q2, q3⟩ := hsv'.list
        simp -implicitDefEqProofs [q1, q2]
        exact ⟨l', rfl, rfl, hsv'⟩
      · refine ref20_Apply_ok hR C W.st le1 W.ok es[i] fun sv' hsv' => ?_
        obtain ⟨l', rfl, q1, q2, q3⟩ := hsv'.list
        simp -implicitDefEqProofs [q1, q2]
        exact ⟨l', rfl, rfl, hsv'⟩
    · rintro _ _ ⟨l', rfl, rfl, hsv'⟩
      refine ⟨by simp, ?_⟩
      have d1 : ∀ o : AObj A, (g ++ [o] : AHeap A)[h.length + 1]? = _ := fun o => get_app c1
      have d2 : ∀ o : AObj A, (g ++ [o] : AHeap A)[h.length + 2]? = _ := fun o => get_app c2
      obtain ⟨l2, hl2, q1, q2, q3⟩ := hsv'.list
      obtain rfl : l' = l2 := by simpa using hl2
      by_cases he : (sApply C S es[i]).2 = 0
      · have T1 := sDoes_keeps (sApply_ok he).1 W.le W.ok (evIn (sApply_ok he).2.1)
        have tk' : l'.take 7 = l' := List.take_of_length_le (by omega)
        simp -implicitDefEqProofs [he, AObj.read, q1, tk', d2, q2, ll, wi]
        refine Gives.done (by simp; omega) ⟨es.length - (i + 1), by omega, i + 1, (sApply C S es[i]).1, l', by simp, ⟨by omega, fun k hk => ?_, ?_, ?_, ?_, hsv', T1.1.mono (by omega), T1.2, ?_, by simp; omega⟩, rfl⟩
        · rw [List.getElem?_set_ne (by omega), List.getElem?_append_left (by omega)]; exact W.f k hk
        · rw [List.getElem?_set_ne (by omega), List.getElem?_append_left (by omega)]; exact W.c0
        · rw [List.getElem?_set_ne (by omega), List.getElem?_append_left (by omega)]; exact W.c1
        · rw [List.getElem?_set_self (by simp; omega), List.drop_of_length_le (by omega), List.append_nil]
        · rw [sRunO, if_pos he] at hrun; exact hrun
      · have he' : ((sApply C S es[i]).2 != 0) = true := by simpa using he
        have r1 : ∀ o o' : AObj A, ((g ++ [o] : AHeap A).set (h.length + 1) o')[h.length + 1]? = some o' := fun o o' => List.getElem?_set_self (by simp; omega)
        simp -implicitDefEqProofs [he', d1, AObj.read, r1]
        refine hk0 (by rw [← hrun, sRunO, if_neg he]) _ _ he ⟨fun k hk => ?_, by simp; omega⟩
        rw [List.getElem?_set_ne (by omega), List.getElem?_append_left (by omega)]; exact W.f k hk
  · have hie : i = es.length := by omega
    have h1' : ¬ (i : Int) < es.length := by omega
    have r1 : ∀ o, (g.set (h.length + 1) o)[h.length + 1]? = some o := fun o => List.getElem?_set_self (by omega)
    have hrun := W.run
    rw [hie, List.drop_length, sRunO] at hrun
    simp -implicitDefEqProofs [la0, h1', c2, c1, AObj.read, ll, tk, lsc, r1]
    exact hk1 S (.agg sv) _ hrun.symm W.st le1 ⟨fun k hk => by rw [List.getElem?_set_ne (by omega)]; exact W.f k hk, by simp; omega⟩
end Go.AI

/- Audits: lines by user. -/
set_option linter.all false
namespace Go.AI
variable {A : Type} {R : Adts A}
structure Ln where
  user : Int
  logins : Int
  resumes : Int
  fails : Int
  locks : Int
  opn : Int
  bytes : Int
deriving DecidableEq
def Ln.row (n : Ln) : List AVal := [.int .i64 n.user, .int .i64 n.logins, .int .i64 n.resumes, .int .i64 n.fails, .int .i64 n.locks, .int .i64 n.opn, .int .i64 n.bytes]
theorem lnR : RowOk Ln.row 7 := ⟨by decide, fun _ => rfl, fun _ => rfl, fun _ => rfl⟩
def ln0 (u : Int) : Ln := ⟨u, 0, 0, 0, 0, 0, 0⟩
def inc (x : Int) : Int := IntKind.i64.wrap (x + 1)
def lnUp (f : Int → Ln) (u : Int) (n : Ln) : Int → Ln := fun v => if v = u then n else f v
def lnLogin (f : Int → Ln) (u : Int) : Int → Ln := lnUp f u { f u with logins := inc (f u).logins }
def lnResume (f : Int → Ln) (u : Int) : Int → Ln := lnUp f u { f u with resumes := inc (f u).resumes }
def lnFail (f : Int → Ln) (u : Int) : Int → Ln := lnUp f u { f u with fails := inc (f u).fails }
def lnLock (f : Int → Ln) (u : Int) : Int → Ln := lnUp f u { f u with locks := inc (f u).locks }
def lnOpen (f : Int → Ln) (u : Int) : Int → Ln := lnUp f u { f u with opn := inc (f u).opn }
/-- An event is counted. -/
def lnCount (C : Cfg) (f : Int → Ln) (spent : Bool) (E : Ev) (T : Sta) : Int → Ln :=
  if E.kind = 3 then lnLogin f E.user
  else if E.kind = 2 then
    if (match uAt T.users E.user with | some j => decide ((T.users.getD j usr0).fails = C.fails) | none => false) = true then lnLock (lnFail f E.user) E.user else lnFail f E.user
  else if E.kind = 5 then (if spent = true then lnResume f E.user else f)
  else f
def lnStep (C : Cfg) (s : (Int → Ln) × Bool) (E : Ev) (_ T : Sta) : (Int → Ln) × Bool := (lnCount C s.1 s.2 E T, E.kind == 9)
def lEnts : List (Int × Nat) → Nat → List AEnt
  | [], _ => []
  | p :: r, i => ⟨.int .i64 p.1, .ptr p.2 0, i⟩ :: lEnts r (i + 1)
theorem lEnts_snoc (p : Int × Nat) : ∀ (bs : List (Int × Nat)) (i : Nat), lEnts (bs ++ [p]) i = lEnts bs i ++ [⟨.int .i64 p.1, .ptr p.2 0, i + bs.length⟩]
  | [], i => by simp [lEnts]
  | q :: r, i => by simp [lEnts, lEnts_snoc p r]; omega
theorem findK_lEnts (u : Int) : ∀ (bs : List (Int × Nat)) (i j : Nat), (findK false (.int .i64 u) (lEnts bs i) j = some none ∧ ∀ b, (u, b) ∉ bs) ∨ ∃ k b, findK false (.int .i64 u) (lEnts bs i) j = some (some (k, .ptr b 0)) ∧ (u, b) ∈ bs
  | [], i, j => .inl ⟨rfl, by simp⟩
  | (v, b) :: r, i, j => by
    by_cases h : u = v
    · subst h
      exact .inr ⟨j, b, by simp [lEnts, findK, sameKey], by simp⟩
    · have h2 : (u == v) = false := by simp [h]
      rcases findK_lEnts u r (i + 1) (j + 1) with ⟨h3, h4⟩ | ⟨k, c, h3, h4⟩
      · exact .inl ⟨by simp only [lEnts, findK, sameKey, h2]; simpa using h3, fun c hc => by simp at hc; rcases hc with ⟨h5, _⟩ | h5; exact h h5; exact h4 c h5⟩
      · exact .inr ⟨k, c, by simp only [lEnts, findK, sameKey, h2]; simpa using h3, by simp [h4]⟩
/-- Lines in their places. -/
structure Ls (c m l sp : Nat) (C : Cfg) (f : Int → Ln) (spent : Bool) (bs : List (Int × Nat)) (g : AHeap A) : Prop where
  hc : g[c]? = some (.cells t_api_Config C.row)
  hm : g[m]? = some (.map (lEnts bs 0) bs.length)
  hl : g[l]? = some (.cells t_audit_lines [.map m])
  hp : g[sp]? = some (.cells t_bool [.bool spent])
  hb : ∀ u b, (u, b) ∈ bs → g[b]? = some (.cells t_api_Line (f u).row)
  h0 : ∀ u, (∀ b, (u, b) ∉ bs) → f u = ln0 u
  nd : ∀ u v b d, (u, b) ∈ bs → (v, d) ∈ bs → (u = v ↔ b = d)
section ls
variable {c m l sp : Nat} {C : Cfg} {f : Int → Ln} {spent : Bool} {bs : List (Int × Nat)} {h : AHeap A}
theorem Ls.own (L : Ls c m l sp C f spent bs h) {k : Nat} (hk : k = c ∨ k = m ∨ k = l ∨ k = sp ∨ ∃ u, (u, k) ∈ bs) : k < h.length := by
  rcases hk with rfl | rfl | rfl | rfl | ⟨u, hu⟩
  · exact (List.getElem?_eq_some_iff.1 L.hc).1
  · exact (List.getElem?_eq_some_iff.1 L.hm).1
  · exact (List.getElem?_eq_some_iff.1 L.hl).1
  · exact (List.getElem?_eq_some_iff.1 L.hp).1
  · exact (List.getElem?_eq_some_iff.1 (L.hb u k hu)).1
theorem Ls.move (L : Ls c m l sp C f spent bs h) {g : AHeap A} (hg : ∀ k, (k = c ∨ k = m ∨ k = l ∨ k = sp ∨ ∃ u, (u, k) ∈ bs) → g[k]? = h[k]?) : Ls c m l sp C f spent bs g :=
  ⟨(hg c (.inl rfl)).trans L.hc, (hg m (.inr (.inl rfl))).trans L.hm, (hg l (.inr (.inr (.inl rfl)))).trans L.hl, (hg sp (.inr (.inr (.inr (.inl rfl))))).trans L.hp, fun u b hu => (hg b (.inr (.inr (.inr (.inr ⟨u, hu⟩))))).trans (L.hb u b hu), L.h0, L.nd⟩
theorem Ls.grow (L : Ls c m l sp C f spent bs h) (g : AHeap A) : Ls c m l sp C f spent bs (h ++ g) := L.move fun _ hk => List.getElem?_append_left (L.own hk)
theorem Ls.ne (L : Ls c m l sp C f spent bs h) {u : Int} {b : Nat} (hb : (u, b) ∈ bs) : c ≠ b ∧ m ≠ b ∧ l ≠ b ∧ sp ≠ b := by
  have h1 := L.hb u b hb
  refine ⟨?_, ?_, ?_, ?_⟩
  · rintro rfl; have := L.hc; rw [h1] at this; simp [Ln.row, Cfg.row] at this
  · rintro rfl; have := L.hm; rw [h1] at this; simp at this
  · rintro rfl; have := L.hl; rw [h1] at this; simp [Ln.row] at this
  · rintro rfl; have := L.hp; rw [h1] at this; simp [Ln.row] at this
theorem Ls.ne0 (L : Ls c m l sp C f spent bs h) : c ≠ sp ∧ m ≠ sp ∧ l ≠ sp ∧ c ≠ m ∧ l ≠ m := by
  have h1 := L.hp
  have h2 := L.hm
  refine ⟨?_, ?_, ?_, ?_, ?_⟩
  · rintro rfl; have := L.hc; rw [h1] at this; simp [Cfg.row] at this
  · rintro rfl; rw [h1] at h2; simp at h2
  · rintro rfl; have := L.hl; rw [h1] at this; simp at this
  · rintro rfl; have := L.hc; rw [h2] at this; simp at this
  · rintro rfl; have := L.hl; rw [h2] at this; simp at this
/-- A line is turned. -/
theorem Ls.upd (L : Ls c m l sp C f spent bs h) {u : Int} {b : Nat} (hb : (u, b) ∈ bs) (n : Ln) : Ls c m l sp C (lnUp f u n) spent bs (h.set b (.cells t_api_Line n.row)) := by
  obtain ⟨n1, n2, n3, n4⟩ := L.ne hb
  refine ⟨(List.getElem?_set_ne (Ne.symm n1)).trans L.hc, (List.getElem?_set_ne (Ne.symm n2)).trans L.hm, (List.getElem?_set_ne (Ne.symm n3)).trans L.hl, (List.getElem?_set_ne (Ne.symm n4)).trans L.hp, fun v d hd => ?_, fun v hv => ?_, L.nd⟩
  · unfold lnUp
    by_cases h1 : v = u
    · have := (L.nd u v b d hb hd).1 h1.symm
      subst this
      rw [if_pos h1, List.getElem?_set_self (L.own (.inr (.inr (.inr (.inr ⟨u, hb⟩)))))]
    · rw [if_neg h1, List.getElem?_set_ne (fun h2 => h1 ((L.nd u v b d hb hd).2 h2).symm)]
      exact L.hb v d hd
  · have h1 : v ≠ u := fun h2 => hv b (h2 ▸ hb)
    rw [lnUp, if_neg h1]
    exact L.h0 v hv
theorem Ls.pset (L : Ls c m l sp C f spent bs h) (x : Bool) : Ls c m l sp C f x bs (h.set sp (.cells t_bool [.bool x])) := by
  obtain ⟨n1, n2, n3, _⟩ := L.ne0
  exact ⟨(List.getElem?_set_ne (Ne.symm n1)).trans L.hc, (List.getElem?_set_ne (Ne.symm n2)).trans L.hm, (List.getElem?_set_ne (Ne.symm n3)).trans L.hl, List.getElem?_set_self (L.own (.inr (.inr (.inr (.inl rfl))))), fun v d hd => (List.getElem?_set_ne (L.ne hd).2.2.2).trans (L.hb v d hd), L.h0, L.nd⟩
theorem Ls.lk (L : Ls c m l sp C f spent bs h) (u : Int) : ((∀ b, (u, b) ∉ bs) ∧ ∀ K, lkP false .nilp false (.map m) (.int .i64 u) h K = K .nilp) ∨ ∃ b, (u, b) ∈ bs ∧ ∀ K, lkP false .nilp false (.map m) (.int .i64 u) h K = K (.ptr b 0) := by
  have hm := L.hm
  rcases findK_lEnts u bs 0 0 with ⟨h1, h2⟩ | ⟨k, b, h1, h2⟩
  · exact .inl ⟨h2, fun K => by simp [lkP, keyOk, mapAt, hm, h1]⟩
  · exact .inr ⟨b, h2, fun K => by simp [lkP, keyOk, mapAt, hm, h1]⟩
/-- A line is begun. -/
theorem Ls.new (L : Ls c m l sp C f spent bs h) {u : Int} (no : ∀ b, (u, b) ∉ bs) {K : AHeap A → Prop} (hk : ∀ g, Ls c m l sp C f spent (bs ++ [(u, h.length)]) g → (∀ k, k < h.length → k ≠ m → g[k]? = h[k]?) → g.length = h.length + 1 → K g) : mupP false (.map m) (.int .i64 u) (.ptr h.length 0) (h ++ [.cells t_api_Line (ln0 u).row]) K := by
  have hm : (h ++ [.cells t_api_Line (ln0 u).row] : AHeap A)[m]? = _ := get_app L.hm
  have h1 : findK false (.int .i64 u) (lEnts bs 0) 0 = some none := by
    rcases findK_lEnts u bs 0 0 with ⟨h1, _⟩ | ⟨k, b, _, h2⟩
    · exact h1
    · exact absurd h2 (no b)
  have hml := L.own (k := m) (.inr (.inl rfl))
  have e : mupV false (.map m) (.int .i64 u) (.ptr h.length 0) (h ++ [.cells t_api_Line (ln0 u).row]) = some ((h ++ [.cells t_api_Line (ln0 u).row] : AHeap A).set m (.map (lEnts (bs ++ [(u, h.length)]) 0) (bs ++ [(u, h.length)]).length)) := by
    unfold mupV
    rw [if_pos ⟨rfl, rfl⟩]
    dsimp only
    rw [hm]
    dsimp only
    rw [h1]
    simp [lEnts_snoc]
  have old : ∀ k, k < h.length → k ≠ m → ((h ++ [.cells t_api_Line (ln0 u).row] : AHeap A).set m (.map (lEnts (bs ++ [(u, h.length)]) 0) (bs ++ [(u, h.length)]).length))[k]? = h[k]? := fun k hk hkm => by
    rw [List.getElem?_set_ne (Ne.symm hkm), List.getElem?_append_left hk]
  obtain ⟨_, n2, _, n4, n5⟩ := L.ne0
  unfold mupP
  rw [e]
  simp only [hP]
  refine hk _ ⟨(old c (L.own (.inl rfl)) n4).trans L.hc, List.getElem?_set_self (by simp; omega), (old l (L.own (.inr (.inr (.inl rfl)))) n5).trans L.hl, (old sp (L.own (.inr (.inr (.inr (.inl rfl))))) (Ne.symm n2)).trans L.hp, fun v d hd => ?_, fun v hv => ?_, fun v w b d hb hd => ?_⟩ old (by simp)
  · rcases List.mem_append.1 hd with hd | hd
    · exact (old d (L.own (.inr (.inr (.inr (.inr ⟨v, hd⟩))))) (Ne.symm (L.ne hd).2.1)).trans (L.hb v d hd)
    · simp at hd
      obtain ⟨rfl, rfl⟩ := hd
      rw [List.getElem?_set_ne (by omega), L.h0 v no]
      simp
  · exact L.h0 v fun b hb => hv b (List.mem_append.2 (.inl hb))
  · have lt : ∀ v b, (v, b) ∈ bs → b < h.length := fun v b hb => L.own (.inr (.inr (.inr (.inr ⟨v, hb⟩))))
    rcases List.mem_append.1 hb with hb1 | hb1 <;> rcases List.mem_append.1 hd with hd1 | hd1
    · exact L.nd v w b d hb1 hd1
    · simp at hd1; obtain ⟨rfl, rfl⟩ := hd1
      exact ⟨fun h2 => absurd (h2 ▸ hb1) (no b), fun h2 => by have := lt v b hb1; omega⟩
    · simp at hb1; obtain ⟨rfl, rfl⟩ := hb1
      exact ⟨fun h2 => absurd (h2 ▸ hd1) (no d), fun h2 => by have := lt w d hd1; omega⟩
    · simp at hb1 hd1; rw [hb1.1, hb1.2, hd1.1, hd1.2]; simp
def LJ (m : Nat) (u : Int) (Q : List (Int × Nat) → AHeap A → Prop) (bs : List (Int × Nat)) (h : AHeap A) (vs : List AVal) (g : AHeap A) : Prop :=
  vs = [] ∧ ∃ bs' b, Q bs' g ∧ (u, b) ∈ bs' ∧ (∀ k, k < h.length → k ≠ m → g[k]? = h[k]?) ∧ h.length ≤ g.length ∧ (∀ v d, (v, d) ∈ bs' → (v, d) ∈ bs ∨ h.length ≤ d) ∧ (∀ v d, (v, d) ∈ bs → (v, d) ∈ bs')
theorem line_ok (L : Ls c m l sp C f spent bs h) (u : Int) {K : AVal → AHeap A → Prop}
    (hk : ∀ g bs' b, Ls c m l sp C f spent bs' g → (u, b) ∈ bs' → (∀ k, k < h.length → k ≠ m → g[k]? = h[k]?) → h.length ≤ g.length → (∀ v d, (v, d) ∈ bs' → (v, d) ∈ bs ∨ h.length ≤ d) → (∀ v d, (v, d) ∈ bs → (v, d) ∈ bs') → K (.ptr b 0) g) : Tri Pr R n_audit_lines_line [.map m, .int .i64 u] h K := by
  apply c_audit_lines_line
  unfold p_audit_lines_line
  refine joinP_all (LJ m u (Ls c m l sp C f spent) bs h) ?_ ?_
  · rcases L.lk u with ⟨no, h1⟩ | ⟨b, hb, h1⟩
    · rw [h1]
      simp -implicitDefEqProofs
      refine L.new no fun g L2 h2 h3 => ⟨rfl, _, h.length, L2, by simp, h2, by omega, fun v d hd => ?_, fun v d hd => List.mem_append.2 (.inl hd)⟩
      rcases List.mem_append.1 hd with hd | hd
      · exact .inl hd
      · simp at hd; exact .inr (by omega)
    · rw [h1]
      simp -implicitDefEqProofs
      exact ⟨rfl, bs, b, L, hb, fun _ _ _ => rfl, Nat.le_refl _, fun v d hd => .inl hd, fun v d hd => hd⟩
  · rintro _ g ⟨rfl, bs', b, L2, hb, h2, h3, h4, h5⟩
    refine ⟨h3, ?_⟩
    rcases L2.lk u with ⟨no, _⟩ | ⟨b2, hb2, h1⟩
    · exact absurd hb (no b)
    · rw [h1]
      exact hk g bs' b2 L2 hb2 h2 h3 h4 h5
end ls
end Go.AI

/- Audits: events are counted. -/
set_option linter.all false
namespace Go.AI
variable {A : Type} {R : Adts A}
theorem uAt_set {us : List Usr} {u : Int} {j : Nat} {v : Usr} (h : uAt us u = some j) (hv : v.user = (us.getD j usr0).user) : uAt (us.set j v) u = some j := by
  unfold uAt at *
  rw [List.findIdx?_eq_some_iff_getElem] at h ⊢
  obtain ⟨h1, h2, h3⟩ := h
  rw [List.getD_eq_getElem?_getD, List.getElem?_eq_getElem h1] at hv
  simp only [Option.getD_some] at hv
  refine ⟨by simpa using h1, by rw [List.getElem_set_self, hv]; exact h2, fun k hk => ?_⟩
  rw [List.getElem_set_ne (by omega)]
  exact h3 k hk
theorem fail_user {C : Cfg} {S : Sta} {E : Ev} (h : (sApply C S E).2 = 0) (h2 : E.kind = 2) : ∃ j, uAt (sApply C S E).1.users E.user = some j := by
  have h1 := (sApply_ok h).1
  unfold sDoes at h1
  rw [if_neg (by omega), if_neg (by omega), if_neg (by omega), if_neg (by omega), if_neg (by omega), if_neg (by omega)] at h1
  cases hu : uAt S.users E.user with
  | none => rw [hu] at h1; simp at h1
  | some j =>
    rw [hu] at h1
    dsimp only at h1
    simp only [Option.map_eq_some_iff] at h1
    obtain ⟨v, hv, h3⟩ := h1
    rw [← h3]
    exact ⟨j, uAt_set hu (uTurn_used hv).2⟩
/-- What is kept. -/
structure Kp (m : Nat) (bs bs' : List (Int × Nat)) (h g : AHeap A) : Prop where
  k : ∀ k, k < h.length → k ≠ m → (∀ u, (u, k) ∉ bs) → g[k]? = h[k]?
  l : h.length ≤ g.length
  b : ∀ v d, (v, d) ∈ bs' → (v, d) ∈ bs ∨ h.length ≤ d
theorem Kp.set {m : Nat} {bs bs' : List (Int × Nat)} {h g : AHeap A} (H : Kp m bs bs' h g) {u : Int} {b : Nat} (hb : (u, b) ∈ bs') (o : AObj A) : Kp m bs bs' h (g.set b o) := by
  refine ⟨fun k hk hm hn => ?_, by simpa using H.l, H.b⟩
  rw [List.getElem?_set_ne]
  · exact H.k k hk hm hn
  · rintro rfl
    rcases H.b u b hb with h1 | h1
    · exact hn u h1
    · omega
section ls
variable {c m l sp : Nat} {C : Cfg} {f : Int → Ln} {spent : Bool} {bs : List (Int × Nat)} {h : AHeap A}
theorem count_ok (hR : R.Ok) (L : Ls c m l sp C f spent bs h) {O : Nat → Prop} (hO : ∀ k, O k ↔ (k = c ∨ k = m ∨ k = l ∨ k = sp ∨ ∃ u, (u, k) ∈ bs)) {x : Nat} {pe : AVal} {ps pt : Nat} {E : Ev} {S T : Sta} (Q : Seen C h O x pe ps pt E S T) {K : AVal → AHeap A → Prop}
    (hk : ∀ g bs', Ls c m l sp C (lnCount C f spent E T) spent bs' g → Kp m bs bs' h g → K (.tup []) g) : Tri Pr R n_audit_lines_count [.map m, .ptr x 0, .bool spent, .int .i64 C.fails] h K := by
  obtain ⟨i, hx⟩ := Q.hx
  have at0 := Q.he h fun _ _ _ => rfl
  have c0 : ldV 1 false (pe.fad 0) h = some (.int .i64 E.kind) := at0.cell 0 (by simp [Ev.row])
  have c1 : ldV 1 false (pe.fad 1) h = some (.int .i64 E.user) := at0.cell 1 (by simp [Ev.row])
  have nm : ∀ k, ¬ O k → k ≠ m ∧ ∀ u, (u, k) ∉ bs := fun k hk => ⟨fun h1 => hk ((hO k).2 (.inr (.inl h1))), fun u hu => hk ((hO k).2 (.inr (.inr (.inr (.inr ⟨u, hu⟩)))))⟩
  have xl : x < h.length := (List.getElem?_eq_some_iff.1 hx).1
  apply c_audit_lines_count
  unfold p_audit_lines_count
  by_cases k3 : E.kind = 3
  · simp -implicitDefEqProofs [hx, AObj.read, at0.nn, at0.fad, c0, c1, k3]
    refine line_ok L E.user fun g bs' b L2 hb h2 h3 h4 h5 => ?_
    have hbx := L2.hb _ _ hb
    unfold Ln.row at hbx
    simp -implicitDefEqProofs [hbx, AObj.read]
    refine hk _ bs' ?_ (Kp.set ⟨fun k hk hm _ => h2 k hk hm, h3, h4⟩ hb _)
    unfold lnCount
    rw [if_pos k3]
    exact L2.upd hb _
  have k3' : (E.kind == 3) = false := by simpa using k3
  by_cases k2 : E.kind = 2
  · simp -implicitDefEqProofs [hx, AObj.read, at0.nn, at0.fad, c0, c1, k2]
    refine line_ok L E.user fun g bs' b L2 hb h2 h3 h4 h5 => ?_
    have hbx := L2.hb _ _ hb
    unfold Ln.row at hbx
    have H1 : Kp m bs bs' h g := ⟨fun k hk hm _ => h2 k hk hm, h3, h4⟩
    have L3 := L2.upd hb { f E.user with fails := inc (f E.user).fails }
    have H3 := H1.set hb (.cells t_api_Line ({ f E.user with fails := inc (f E.user).fails } : Ln).row)
    obtain ⟨g3, hg3⟩ : ∃ g3, g3 = g.set b (.cells t_api_Line ({ f E.user with fails := inc (f E.user).fails } : Ln).row) := ⟨_, rfl⟩
    rw [← hg3] at L3 H3
    have kp3 : ∀ k, k < h.length → ¬ O k → g3[k]? = h[k]? := fun k hk hn => H3.k k hk (nm k hn).1 (nm k hn).2
    have hx3 : g3[x]? = _ := (kp3 x xl Q.nx).trans hx
    have at3 := Q.he g3 kp3
    have c13 : ldV 1 false (pe.fad 1) g3 = some (.int .i64 E.user) := at3.cell 1 (by simp [Ev.row])
    obtain ⟨tv, htv, htp⟩ := Q.ht
    have ptl : pt < h.length := (List.getElem?_eq_some_iff.1 htp).1
    have htp3 : g3[pt]? = _ := (kp3 pt ptl Q.nt).trans htp
    obtain ⟨tu, tx, ta, tp, htv, hu, _, _, _⟩ := htv
    obtain rfl : tv = _ := by simpa using htv
    have fld : Fld (.ptr pt 0) 3 tu g3 := ⟨fun K => by simp, fun K => by simp [AVal.fad], fun g' => by
      have : (g3 ++ g')[pt]? = _ := get_app htp3
      simp [AVal.fad, ldV, this, AObj.read]⟩
    simp -implicitDefEqProofs [hbx, AObj.read]
    rw [show g.set b (.cells t_api_Line [.int .i64 (f E.user).user, .int .i64 (f E.user).logins, .int .i64 (f E.user).resumes, .int .i64 (IntKind.i64.wrap ((f E.user).fails + 1)), .int .i64 (f E.user).locks, .int .i64 (f E.user).opn, .int .i64 (f E.user).bytes]) = g3 from hg3.symm]
    simp -implicitDefEqProofs [hx3, AObj.read, at3.nn, at3.fad, c13]
    obtain ⟨j, hj⟩ := fail_user Q.ok.1 k2
    rw [← Q.ok.2] at hj
    refine state_User_ok hR fld (fun g' => hu.rd usrR _) Q.leT.1.u E.user (fun h6 => absurd (h6.symm.trans hj) (by simp)) (fun j2 p hj2 hp => ?_)
    obtain rfl : j = j2 := by simpa using hj.symm.trans hj2
    obtain ⟨p2, hp2, hat⟩ := (hu.rd usrR (g3 ++ [.cells t_int [.int .i64 E.user]])).get j (uAt_lt hj)
    obtain rfl := idx_uniq hp hp2
    have cf : ldV 1 false (p.fad 5) (g3 ++ [.cells t_int [.int .i64 E.user]]) = some (.int .i64 (T.users[j]'(uAt_lt hj)).fails) := hat.cell 5 (by simp [Usr.row])
    have L4 := L3.grow [.cells t_int [.int .i64 E.user]]
    have H4 : Kp m bs bs' h (g3 ++ [.cells t_int [.int .i64 E.user]]) := ⟨fun k hk hm hn => by rw [List.getElem?_append_left (by have := H3.l; omega)]; exact H3.k k hk hm hn, by have := H3.l; simp; omega, H3.b⟩
    have hb4 := L4.hb _ _ hb
    unfold Ln.row at hb4
    have lu : lnUp f E.user { f E.user with fails := inc (f E.user).fails } E.user = { f E.user with fails := inc (f E.user).fails } := by simp [lnUp]
    rw [lu] at hb4
    have hgd : T.users.getD j usr0 = T.users[j]'(uAt_lt hj) := usr_get (uAt_lt hj)
    by_cases kf : (T.users[j]'(uAt_lt hj)).fails = C.fails
    · have e : lnCount C f spent E T = lnLock (lnFail f E.user) E.user := by
        unfold lnCount; rw [if_neg k3, if_pos k2, hj]; simp only [hgd, kf]; simp
      simp -implicitDefEqProofs [hat.nn, hat.fad, hat.fad2, cf, kf, hb4, AObj.read]
      refine hk _ bs' ?_ (H4.set hb _)
      rw [e]
      have := L4.upd hb { (lnFail f E.user E.user) with locks := inc (lnFail f E.user E.user).locks }
      simp only [lnFail, lu] at this ⊢
      unfold lnLock
      rw [lu]
      exact this
    · have kf' : ((T.users[j]'(uAt_lt hj)).fails == C.fails) = false := by simpa using kf
      have e : lnCount C f spent E T = lnFail f E.user := by
        unfold lnCount; rw [if_neg k3, if_pos k2, hj]; simp only [hgd, kf]; simp
      simp -implicitDefEqProofs [hat.nn, hat.fad, hat.fad2, cf, kf', hb4, AObj.read]
      refine hk _ bs' ?_ H4
      rw [e]
      exact L4
  have k2' : (E.kind == 2) = false := by simpa using k2
  by_cases k5 : E.kind = 5
  · cases spent with
    | true =>
      simp -implicitDefEqProofs [hx, AObj.read, at0.nn, at0.fad, c0, c1, k5]
      refine line_ok L E.user fun g bs' b L2 hb h2 h3 h4 h5 => ?_
      have hbx := L2.hb _ _ hb
      unfold Ln.row at hbx
      simp -implicitDefEqProofs [hbx, AObj.read]
      refine hk _ bs' ?_ (Kp.set ⟨fun k hk hm _ => h2 k hk hm, h3, h4⟩ hb _)
      unfold lnCount
      rw [if_neg k3, if_neg k2, if_pos k5, if_pos rfl]
      exact L2.upd hb _
    | false =>
      simp -implicitDefEqProofs [hx, AObj.read, at0.nn, at0.fad, c0, c1, k5]
      refine hk _ bs ?_ ⟨fun _ _ _ _ => rfl, Nat.le_refl _, fun v d hd => .inl hd⟩
      unfold lnCount
      rw [if_neg k3, if_neg k2, if_pos k5, if_neg (by simp)]
      exact L
  have k5' : (E.kind == 5) = false := by simpa using k5
  simp -implicitDefEqProofs [hx, AObj.read, at0.nn, at0.fad, c0, c1, k3', k2', k5']
  refine hk _ bs ?_ ⟨fun _ _ _ _ => rfl, Nat.le_refl _, fun v d hd => .inl hd⟩
  unfold lnCount
  rw [if_neg k3, if_neg k2, if_neg k5]
  exact L
def LInv (c m l sp : Nat) (C : Cfg) (s : (Int → Ln) × Bool) (O : Nat → Prop) (g : AHeap A) : Prop :=
  ∃ bs, Ls c m l sp C s.1 s.2 bs g ∧ ∀ k, O k ↔ (k = c ∨ k = m ∨ k = l ∨ k = sp ∨ ∃ u, (u, k) ∈ bs)
theorem lseer (c m l sp : Nat) (C : Cfg) : Seer A (LInv c m l sp C) :=
  ⟨fun s O g k ⟨bs, L, hO⟩ hk => L.own ((hO k).1 hk), fun s O g g' ⟨bs, L, hO⟩ hg => ⟨bs, L.move fun k hk => hg k ((hO k).2 hk), hO⟩⟩
theorem lsees (hR : R.Ok) (c m l sp : Nat) (C : Cfg) (es : List Ev) : Sees Pr R C (LInv (A := A) c m l sp C) (lnStep C) (fun _ _ => True) n_audit_Lines_c1 [.ptr l 0, .ptr sp 0, .ptr c 0] es := by
  rintro s O g x pe ps pt E S T K _ _ ⟨bs, L, hO⟩ Q hK
  have hc := L.hc
  have hl := L.hl
  have hp := L.hp
  have nm : ∀ k, ¬ O k → k ≠ m ∧ k ≠ sp ∧ ∀ u, (u, k) ∉ bs := fun k hk => ⟨fun h1 => hk ((hO k).2 (.inr (.inl h1))), fun h1 => hk ((hO k).2 (.inr (.inr (.inr (.inl h1))))), fun u hu => hk ((hO k).2 (.inr (.inr (.inr (.inr ⟨u, hu⟩)))))⟩
  obtain ⟨i, hx⟩ := Q.hx
  have xl : x < g.length := (List.getElem?_eq_some_iff.1 hx).1
  unfold Cfg.row at hc
  apply c_audit_Lines_c1
  unfold p_audit_Lines_c1
  simp -implicitDefEqProofs [hc, hl, hp, AObj.read]
  refine count_ok hR L hO Q fun g2 bs' L2 H2 => ?_
  have kp : ∀ k, k < g.length → ¬ O k → g2[k]? = g[k]? := fun k hk hn => H2.k k hk (nm k hn).1 (nm k hn).2.2
  have hx2 : g2[x]? = _ := (kp x xl Q.nx).trans hx
  have at2 := Q.he g2 kp
  have c0 : ldV 1 false (pe.fad 0) g2 = some (.int .i64 E.kind) := at2.cell 0 (by simp [Ev.row])
  have hp2 := L2.hp
  simp -implicitDefEqProofs [hx2, hp2, AObj.read, at2.nn, at2.fad, c0]
  refine hK _ _ ⟨bs', L2.pset _, fun k => Iff.rfl⟩ (fun k hk hn => ?_) (by simpa using H2.l) (fun k hk => ?_)
  · rw [List.getElem?_set_ne (Ne.symm (nm k hn).2.1)]
    exact kp k hk hn
  · rcases hk with h1 | h1 | h1 | h1 | ⟨u, h1⟩
    · exact .inl ((hO k).2 (.inl h1))
    · exact .inl ((hO k).2 (.inr (.inl h1)))
    · exact .inl ((hO k).2 (.inr (.inr (.inl h1))))
    · exact .inl ((hO k).2 (.inr (.inr (.inr (.inl h1)))))
    · rcases H2.b u k h1 with h2 | h2
      · exact .inl ((hO k).2 (.inr (.inr (.inr (.inr ⟨u, h2⟩)))))
      · exact .inr h2
end ls
end Go.AI

/- Audits: Lines. -/
set_option linter.all false
namespace Go.AI
variable {A : Type} {R : Adts A}
theorem reps9 : reps 9 (AVal.int .i64 0) = [.int .i64 0, .int .i64 0, .int .i64 0, .int .i64 0, .int .i64 0, .int .i64 0, .int .i64 0, .int .i64 0, .int .i64 0] := rfl
def lnOpens (f : Int → Ln) (xs : List Ses) : Int → Ln := xs.foldl (fun f x => lnOpen f x.user) f
def lnOut (f : Int → Ln) (us : List Usr) : List Ln := us.map fun u => { f u.user with bytes := u.used }
/-- The lines of events; none: they may not come. -/
def aLines (C : Cfg) (es : List Ev) : Option (List Ln) := (wAll C (lnStep C) (ln0, false) es).map fun p => lnOut (lnOpens p.1.1 p.2.sess) p.2.users
def L1 (C : Cfg) (n : Nat) (S : Sta) (f : Int → Ln) (sp : Bool) (h : AHeap A) (q : Nat) (sv : List AVal) (mm : Nat) (y : List AVal) (g : AHeap A) : Prop :=
  ∃ (i : Nat) (bs : List (Int × Nat)), y = [.int .i64 i] ∧ i ≤ S.sess.length ∧ Ls n (n + 1) (n + 2) (n + 3) C (lnOpens f (S.sess.take i)) sp bs g ∧ (∀ k, k < n → g[k]? = h[k]?) ∧ g[q]? = some (.cells t_api_State sv) ∧ (∀ u b, (u, b) ∈ bs → n ≤ b) ∧ n ≤ g.length ∧ mm = S.sess.length - i
def L2 (C : Cfg) (n : Nat) (S : Sta) (f : Int → Ln) (sp : Bool) (h : AHeap A) (nn : Nat) (mm : Nat) (y : List AVal) (g : AHeap A) : Prop :=
  ∃ (i : Nat) (bs : List (Int × Nat)) (a : AVal), nn ≤ g.length ∧ y = [a, .int .i64 i] ∧ i ≤ S.users.length ∧ Ls n (n + 1) (n + 2) (n + 3) C f sp bs g ∧ (∀ k, k < n → g[k]? = h[k]?) ∧ (∀ u b, (u, b) ∈ bs → n ≤ b) ∧ n ≤ g.length ∧ Own Ln.row 7 t_api_Line a (lnOut f (S.users.take i)) g ∧ (∀ b, a.blk = some b → n ≤ b ∧ ∀ u, (u, b) ∉ bs) ∧ mm = S.users.length - i
theorem audit_Lines_ok (hR : R.Ok) (C : Cfg) {a : AVal} {es : List Ev} {h : AHeap A} (ha : EvRd a es h) (hn : es.length ≤ 1048576) {K : AVal → AHeap A → Prop}
    (hk0 : aLines C es = none → ∀ g, (∀ k, k < h.length → g[k]? = h[k]?) → h.length ≤ g.length → K (.tup [.nils, .int .i64 2500]) g)
    (hk1 : ∀ o, aLines C es = some o → ∀ x g, Own Ln.row 7 t_api_Line x o g → (∀ b, x.blk = some b → h.length ≤ b) → (∀ k, k < h.length → g[k]? = h[k]?) → h.length ≤ g.length → K (.tup [x, .int .i64 0]) g) : Tri Pr R n_audit_Lines [.agg C.row, a] h K := by
  have rc : Cfg.row C = [.int .i64 C.sectors, .int .i64 C.halves, .int .i64 C.sessions, .int .i64 C.addresses, .int .i64 C.fails, .int .i64 C.lockout, .int .i64 C.halfLife, .int .i64 C.idle, .int .i64 C.absolute, .int .i64 C.quarantine, .int .i64 C.ticketLife, .int .i64 C.keep] := rfl
  apply c_audit_Lines
  unfold p_audit_Lines
  simp -implicitDefEqProofs [rc, mkmP]
  rw [← rc]
  obtain ⟨h1, hh1⟩ : ∃ h1, h1 = h ++ [AObj.cells t_api_Config C.row, .map [] 0, .cells t_audit_lines [.map (h.length + 1)], .cells t_bool [.bool false]] := ⟨_, rfl⟩
  rw [← hh1]
  have len1 : h1.length = h.length + 4 := by rw [hh1]; simp
  have kp1 : ∀ k, k < h.length → h1[k]? = h[k]? := fun k hk => by rw [hh1, List.getElem?_append_left hk]
  have b0 : h1[h.length]? = some (.cells t_api_Config C.row) := by rw [hh1, List.getElem?_append_right (by omega)]; simp
  have b1 : h1[h.length + 1]? = some (.map [] 0) := by rw [hh1, List.getElem?_append_right (by omega)]; simp
  have b2 : h1[h.length + 2]? = some (.cells t_audit_lines [.map (h.length + 1)]) := by rw [hh1, List.getElem?_append_right (by omega)]; simp
  have b3 : h1[h.length + 3]? = some (.cells t_bool [.bool false]) := by rw [hh1, List.getElem?_append_right (by omega)]; simp
  have L0 : Ls h.length (h.length + 1) (h.length + 2) (h.length + 3) C ln0 false [] h1 := ⟨b0, b1, b2, b3, fun _ _ hu => by simp at hu, fun _ _ => rfl, fun _ _ _ _ hu => by simp at hu⟩
  have b0' := b0
  have ha2 := ha.move kp1 (by omega)
  refine audit_walk_ok hR (lseer h.length (h.length + 1) (h.length + 2) (h.length + 3) C) C (lsees hR _ _ _ _ C es) (by kernel_rfl) (O0 := fun k => k = h.length ∨ k = h.length + 1 ∨ k = h.length + 2 ∨ k = h.length + 3) (s0 := (ln0, false)) ⟨[], L0, fun k => by simp⟩ trivial (fun _ _ _ _ _ _ => trivial) (fun g hg => ha g fun k hk => ?_) hn (fun s S sv O g hw hsv hle hi hf hl ho => ?_) (fun hw i er r g he hr hf hl => ?_)
  · rw [hg k (by omega) (by omega)]; exact kp1 k hk
  · obtain ⟨bs, L, hO⟩ := hi
    obtain ⟨u, x, ad', p, rfl, hu, hx, had, hp⟩ := hsv
    have s1 := hu.sc
    have s2 := hx.sc
    have s3 := had.sc
    have s4 := hp.sc
    have kp : ∀ k, k < h.length → g[k]? = h[k]? := fun k hk => (hf k (by omega) (by omega)).trans (kp1 k hk)
    have hbs : ∀ u b, (u, b) ∈ bs → h.length ≤ b := fun u b hb => by
      rcases ho b ((hO b).2 (.inr (.inr (.inr (.inr ⟨u, hb⟩))))) with h2 | h2 <;> omega
    have e : aLines C es = some (lnOut (lnOpens s.1 S.sess) S.users) := by unfold aLines; rw [hw]; rfl
    simp -implicitDefEqProofs [s1, s2, s3, s4]
    refine audit_bad_nil ?_
    have rdx := fun g : AHeap A => hx.rd sesR g
    have rdu := fun g : AHeap A => hu.rd usrR g
    simp -implicitDefEqProofs [(rdx ([] : AHeap A)).len]
    refine loopP_go (L1 C h.length S s.1 s.2 h g.length [.int .i64 S.boots, .int .i64 S.epoch, .int .i64 S.next, u, x, ad', p]) S.sess.length (Gives.done (Nat.le_refl _) ⟨0, bs, rfl, by omega, L.grow _, fun k hk => by rw [List.getElem?_append_left (by omega)]; exact kp k hk, by simp, hbs, by simp; omega, by omega⟩) ?_
    rintro mm y g2 ⟨i, bs2, rfl, hi2, L2', kp2, hq2, hb2, hl2, rfl⟩
    have e1 := w64 (n := (i : Int) + 1) (by have := hle.x; omega)
    have hql := (List.getElem?_eq_some_iff.1 hq2).1
    by_cases h3 : i < S.sess.length
    · obtain ⟨pp, hpp, hat⟩ := (rdx g2).get i h3
      have hall : ldV 4 true pp g2 = some (.agg (S.sess[i]).row) := hat.all
      unfold Ses.row at hall
      have L3 := L2'.grow [.cells t_api_Session [.int .i64 (S.sess[i]).session, .int .i64 (S.sess[i]).user, .int .i64 (S.sess[i]).address, .int .i64 (S.sess[i]).start]]
      have hl3 := L3.hl
      simp -implicitDefEqProofs [h3, hpp, hall, hl3, AObj.read]
      refine line_ok L3 (S.sess[i]).user fun g4 bs4 b L4 hb h5 h6 h7 h8 => ?_
      have hbx := L4.hb _ _ hb
      unfold Ln.row at hbx
      simp -implicitDefEqProofs [hbx, AObj.read, e1]
      have hqb : g.length ≠ b := by
        rintro rfl
        have h9 : g4[g.length]? = _ := (h5 g.length (by have := (List.getElem?_eq_some_iff.1 hq2).1; simp; omega) (by omega)).trans (get_app hq2)
        rw [L4.hb _ _ hb] at h9
        exact absurd (AObj.cells.inj (Option.some.inj h9)).1 (by decide)
      have bge : ∀ v d, (v, d) ∈ bs4 → h.length ≤ d := fun v d hd => by
        rcases h7 v d hd with h9 | h9
        · exact hb2 v d h9
        · simp at h9; omega
      refine Gives.done (by simp at h6; simp; omega) ⟨S.sess.length - (i + 1), by omega, i + 1, bs4, by simp, by omega, ?_, fun k hk => ?_, ?_, bge, by simp at h6; simp; omega, rfl⟩
      · have := L4.upd hb { lnOpens s.1 (S.sess.take i) (S.sess[i]).user with opn := inc (lnOpens s.1 (S.sess.take i) (S.sess[i]).user).opn }
        rw [List.take_succ_eq_append_getElem h3]
        unfold lnOpens
        rw [List.foldl_append]
        exact this
      · rw [List.getElem?_set_ne (by have := bge _ _ hb; omega), h5 k (by simp; omega) (by omega), List.getElem?_append_left (by omega)]
        exact kp2 k hk
      · rw [List.getElem?_set_ne (Ne.symm hqb), h5 _ (by have := (List.getElem?_eq_some_iff.1 hq2).1; simp; omega) (by omega)]
        exact get_app hq2
    · have hie : i = S.sess.length := by omega
      subst hie
      rw [List.take_length] at L2'
      simp -implicitDefEqProofs [h3, hq2, AObj.read, (rdu ([] : AHeap A)).len]
      refine loopP_go (L2 C h.length S (lnOpens s.1 S.sess) s.2 h g2.length) S.users.length (Gives.done (Nat.le_refl _) ⟨0, bs2, .nils, Nat.le_refl _, rfl, by omega, L2', kp2, hb2, hl2, Own.nil, fun b hb => by simp [AVal.blk] at hb, by omega⟩) ?_
      rintro mm y g3 ⟨j, bs3, av, hnn, rfl, hj3, L3, kp3, hb3, hl3, ov, ovb, rfl⟩
      have e2 := w64 (n := (j : Int) + 1) (by have := hle.u; omega)
      by_cases h4 : j < S.users.length
      · obtain ⟨pp, hpp, hat⟩ := (rdu g3).get j h4
        have hall : ldV 9 true pp g3 = some (.agg (S.users[j]).row) := hat.all
        unfold Usr.row at hall
        have L4 := L3.grow [.cells t_api_User [.int .i64 (S.users[j]).user, .int .i64 (S.users[j]).key, .int .i64 (S.users[j]).secret, .int .i64 (S.users[j]).quota, .int .i64 (S.users[j]).used, .int .i64 (S.users[j]).fails, .int .i64 (S.users[j]).unt, .int .i64 (S.users[j]).step, .int .i64 (S.users[j]).gen]]
        have hl4 := L4.hl
        have sav := ov.sc
        simp -implicitDefEqProofs [h4, hpp, hall, hl4, AObj.read, reps9]
        refine line_ok L4 (S.users[j]).user fun g5 bs5 b L5 hb h5 h6 h7 h8 => ?_
        have hbx := L5.hb _ _ hb
        unfold Ln.row at hbx
        have hU : g5[g3.length]? = some (.cells t_api_User [.int .i64 (S.users[j]).user, .int .i64 (S.users[j]).key, .int .i64 (S.users[j]).secret, .int .i64 (S.users[j]).quota, .int .i64 (S.users[j]).used, .int .i64 (S.users[j]).fails, .int .i64 (S.users[j]).unt, .int .i64 (S.users[j]).step, .int .i64 (S.users[j]).gen]) := by
          have hm3 := L3.own (k := h.length + 1) (.inr (.inl rfl))
          rw [h5 _ (by simp) (by omega)]; simp
        have hU2 : ∀ g' : AHeap A, (g5 ++ g')[g3.length]? = _ := fun g' => get_app hU
        simp -implicitDefEqProofs [hbx, AObj.read, hU, hU2, e2]
        have bm : ∀ b, av.blk = some b → b ≠ h.length + 1 := by
          rintro b hb2 rfl
          obtain ⟨cs, hcs⟩ := ov.at hb2
          rw [L3.hm] at hcs
          simp at hcs
        have k5 : ∀ k, k < g3.length → k ≠ h.length + 1 → g5[k]? = g3[k]? := fun k hk hm => by rw [h5 k (by simp; omega) hm, List.getElem?_append_left hk]
        have l5 : g3.length + 1 ≤ g5.length := by simpa using h6
        have bge : ∀ v d, (v, d) ∈ bs5 → h.length ≤ d := fun v d hd => by
          rcases h7 v d hd with h9 | h9
          · exact hb3 v d h9
          · simp at h9; omega
        have ov5 := ov.move' (h' := g5) fun b hb2 => k5 b (ov.blt hb2) (bm b hb2)
        obtain ⟨n, hnr⟩ : ∃ n : Ln, n = { lnOpens s.1 S.sess (S.users[j]).user with bytes := (S.users[j]).used } := ⟨_, rfl⟩
        have hout : lnOut (lnOpens s.1 S.sess) (S.users.take j) ++ [n] = lnOut (lnOpens s.1 S.sess) (S.users.take (j + 1)) := by
          rw [List.take_succ_eq_append_getElem h4, lnOut, lnOut, List.map_append, hnr]; rfl
        have hol : (lnOut (lnOpens s.1 S.sess) (S.users.take j)).length = j := by unfold lnOut; rw [List.length_map, List.length_take]; omega
        have hnrow : n.row = [AVal.int IntKind.i64 (lnOpens s.1 S.sess (S.users[j]).user).user, AVal.int IntKind.i64 (lnOpens s.1 S.sess (S.users[j]).user).logins, AVal.int IntKind.i64 (lnOpens s.1 S.sess (S.users[j]).user).resumes, AVal.int IntKind.i64 (lnOpens s.1 S.sess (S.users[j]).user).fails, AVal.int IntKind.i64 (lnOpens s.1 S.sess (S.users[j]).user).locks, AVal.int IntKind.i64 (lnOpens s.1 S.sess (S.users[j]).user).opn, AVal.int IntKind.i64 (S.users[j]).used] := by rw [hnr]; rfl
        rw [← hnrow]
        have ov6 := ov5.move' (h' := g5 ++ [.cells t_api_Line n.row, .cells t_api_Line n.row]) fun b hb2 => List.getElem?_append_left (by have := ov.blt hb2; omega)
        refine app_own lnR (l2 := [n]) ov6 (by decide) ?_ (by rw [hol]; have := hle.u; simp; omega) fun a' h' o1 o2 o3 o4 => ?_
        · have : (g5 ++ [.cells t_api_Line n.row, .cells t_api_Line n.row] : AHeap A)[g5.length + 1]? = some (.cells t_api_Line n.row) := by rw [List.getElem?_append_right (by omega)]; simp
          simp [srcOf, cellsAt, this, AObj.read]
          rw [lnR.len]
          exact ⟨Nat.le_refl _, List.take_of_length_le (by rw [lnR.len]; exact Nat.le_refl _)⟩
        rw [hout] at o1
        have ln6 : (g5 ++ [.cells t_api_Line n.row, .cells t_api_Line n.row] : AHeap A).length = g5.length + 2 := by simp
        rw [ln6] at o2 o3 o4
        have L6 := L5.grow [.cells t_api_Line n.row, .cells t_api_Line n.row]
        have old : ∀ b, av.blk = some b → ∀ u, (u, b) ∉ bs5 := fun b hb2 u hu => by
          rcases h7 u b hu with h9 | h9
          · exact (ovb b hb2).2 u h9
          · have := ov.blt hb2; simp at h9; omega
        have L7 : Ls h.length (h.length + 1) (h.length + 2) (h.length + 3) C (lnOpens s.1 S.sess) s.2 bs5 h' := L6.move fun k hk => o2 k (by have := L5.own hk; omega) fun hb2 => by
          have hcs := ov6.at hb2
          obtain ⟨cs, hcs⟩ := hcs
          rcases hk with rfl | rfl | rfl | rfl | ⟨u, hu⟩
          · rw [L6.hc] at hcs; exact absurd (AObj.cells.inj (Option.some.inj hcs)).1 (by decide)
          · rw [L6.hm] at hcs; simp at hcs
          · rw [L6.hl] at hcs; exact absurd (AObj.cells.inj (Option.some.inj hcs)).1 (by decide)
          · rw [L6.hp] at hcs; exact absurd (AObj.cells.inj (Option.some.inj hcs)).1 (by decide)
          · exact old k hb2 u hu
        refine Gives.done (by omega) ⟨S.users.length - (j + 1), by omega, j + 1, bs5, a', by omega, by simp, by omega, L7, fun k hk => ?_, bge, by omega, o1, fun b hb2 => ?_, rfl⟩
        · rw [o2 k (by omega) (fun hb2 => by have := (ovb k hb2).1; omega), List.getElem?_append_left (by omega), k5 k (by omega) (by omega)]
          exact kp3 k hk
        · rcases o4 b hb2 with h9 | h9
          · exact ⟨(ovb b h9).1, old b h9⟩
          · exact ⟨by omega, fun u hu => by have := L5.own (k := b) (.inr (.inr (.inr (.inr ⟨u, hu⟩)))); omega⟩
      · have hie : j = S.users.length := by omega
        subst hie
        rw [List.take_length] at ov
        simp -implicitDefEqProofs [h4]
        exact hk1 _ e av g3 ov (fun b hb => (ovb b hb).1) kp3 hl3
  · have e : aLines C es = none := by unfold aLines; rw [hw]; rfl
    unfold zSta
    simp -implicitDefEqProofs
    refine audit_bad_ref he (get_app hr) ?_
    simp -implicitDefEqProofs
    exact hk0 e _ (fun k hk => by rw [List.getElem?_append_left (by omega)]; exact (hf k (by omega) (by omega)).trans (kp1 k hk)) (by simp; omega)
end Go.AI

/- Audits: Trace. -/
set_option linter.all false
namespace Go.AI
variable {A : Type} {R : Adts A}
/-- Whose an event is. -/
def whoOf (S : Sta) (E : Ev) : Int :=
  if E.kind = 6 then (match xAt S.sess E.session with | some j => (S.sess.getD j ses0).user | none => -1)
  else if E.kind = 0 ∨ E.kind = 8 ∨ E.kind = 9 then -1 else E.user
def trStep (user : Int) (s : List Ev) (E : Ev) (S _ : Sta) : List Ev := if whoOf S E = user then s ++ [E] else s
/-- A user's events; none: they may not come, or nobody is the user. -/
def aTrace (C : Cfg) (user : Int) (es : List Ev) : Option (List Ev) := (wAll C (trStep user) [] es).bind fun p => if (uAt p.2.users user).isSome = true then some p.1 else none
theorem seen_of_ok (hR : R.Ok) {C : Cfg} {h : AHeap A} {O : Nat → Prop} {x : Nat} {pe : AVal} {ps pt : Nat} {E : Ev} {S T : Sta} (Q : Seen C h O x pe ps pt E S T) {K : AVal → AHeap A → Prop}
    (hk : ∀ g, K (.int .i64 (whoOf S E)) (h ++ g)) : Tri Pr R n_audit_seen_of [.ptr x 0] h K := by
  obtain ⟨i, hx⟩ := Q.hx
  have at0 := Q.he h fun _ _ _ => rfl
  have c0 : ldV 1 false (pe.fad 0) h = some (.int .i64 E.kind) := at0.cell 0 (by simp [Ev.row])
  have c1 : ldV 1 false (pe.fad 1) h = some (.int .i64 E.user) := at0.cell 1 (by simp [Ev.row])
  have c2 : ldV 1 false (pe.fad 2) h = some (.int .i64 E.session) := at0.cell 2 (by simp [Ev.row])
  obtain ⟨sv, hsv, hsp⟩ := Q.hs
  obtain ⟨su, sx, sa, sp, hsv, _, hx2, _, _⟩ := hsv
  obtain rfl : sv = _ := by simpa using hsv
  have fld : Fld (.ptr ps 0) 4 sx h := ⟨fun K => by simp, fun K => by simp [AVal.fad], fun g' => by
    have : (h ++ g')[ps]? = _ := get_app hsp
    simp [AVal.fad, ldV, this, AObj.read]⟩
  have hk' := hk []
  rw [List.append_nil] at hk'
  apply c_audit_seen_of
  unfold p_audit_seen_of
  simp -implicitDefEqProofs [hx, AObj.read, at0.nn, at0.fad, c0, c1]
  refine joinP_go ?_
  by_cases k6 : E.kind = 6
  · simp -implicitDefEqProofs [k6, hx, AObj.read, at0.nn, at0.fad, c2]
    refine state_Session_ok hR fld (fun g' => hx2.rd sesR _) Q.le.1.x E.session (fun h6 => ?_) (fun j p hj hp => ?_)
    · have e : whoOf S E = -1 := by unfold whoOf; rw [if_pos k6, h6]
      simp -implicitDefEqProofs
      rw [← e]
      exact hk _
    · obtain ⟨p2, hp2, hat⟩ := (hx2.rd sesR (h ++ [.cells t_int [.int .i64 E.session]])).get j (xAt_lt hj)
      obtain rfl := idx_uniq hp hp2
      have cf : ldV 1 false (p.fad 1) (h ++ [.cells t_int [.int .i64 E.session]]) = some (.int .i64 (S.sess[j]'(xAt_lt hj)).user) := hat.cell 1 (by simp [Ses.row])
      have e : whoOf S E = (S.sess[j]'(xAt_lt hj)).user := by unfold whoOf; rw [if_pos k6, hj]; simp only [ses_get (xAt_lt hj)]
      simp -implicitDefEqProofs [hat.nen, hat.nn, hat.fad, cf]
      rw [← e]
      exact hk _
  have k6' : (E.kind == 6) = false := by simpa using k6
  have none' : E.kind = 0 ∨ E.kind = 8 ∨ E.kind = 9 → whoOf S E = -1 := fun h1 => by unfold whoOf; rw [if_neg k6, if_pos h1]
  simp -implicitDefEqProofs [k6']
  refine joinP_go ?_
  by_cases k0 : E.kind = 0
  · simp -implicitDefEqProofs [k0]
    rw [← none' (.inl k0)]; exact hk'
  have k0' : (E.kind == 0) = false := by simpa using k0
  by_cases k8 : E.kind = 8
  · simp -implicitDefEqProofs [k8]
    rw [← none' (.inr (.inl k8))]; exact hk'
  have k8' : (E.kind == 8) = false := by simpa using k8
  by_cases k9 : E.kind = 9
  · simp -implicitDefEqProofs [k9]
    rw [← none' (.inr (.inr k9))]; exact hk'
  have k9' : (E.kind == 9) = false := by simpa using k9
  have e : whoOf S E = E.user := by unfold whoOf; rw [if_neg k6, if_neg (by omega)]
  simp -implicitDefEqProofs [k0', k8', k9', hx, AObj.read, at0.nn, at0.fad, c1]
  rw [← e]; exact hk'
def TInv (ub ob : Nat) (user : Int) (s : List Ev) (O : Nat → Prop) (g : AHeap A) : Prop :=
  ∃ a, g[ub]? = some (.cells t_int [.int .i64 user]) ∧ g[ob]? = some (.cells t_sl_api_Event [a]) ∧ Own Ev.row 8 t_api_Event a s g ∧ ∀ k, O k ↔ (k = ub ∨ k = ob ∨ a.blk = some k)
theorem tseer (ub ob : Nat) (user : Int) : Seer A (TInv ub ob user) := by
  refine ⟨?_, ?_⟩
  · rintro s O g k ⟨a, h1, h2, h3, hO⟩ hk
    rcases (hO k).1 hk with rfl | rfl | hb
    · exact (List.getElem?_eq_some_iff.1 h1).1
    · exact (List.getElem?_eq_some_iff.1 h2).1
    · exact h3.blt hb
  · rintro s O g g' ⟨a, h1, h2, h3, hO⟩ hg
    exact ⟨a, (hg _ ((hO _).2 (.inl rfl))).trans h1, (hg _ ((hO _).2 (.inr (.inl rfl)))).trans h2, h3.move' fun b hb => hg b ((hO b).2 (.inr (.inr hb))), hO⟩
theorem tsees (hR : R.Ok) (ub ob : Nat) (C : Cfg) (user : Int) (es : List Ev) (hn : es.length ≤ 1048576) : Sees Pr R C (TInv (A := A) ub ob user) (trStep user) (fun s i => s.length ≤ i) n_audit_Trace_c1 [.ptr ub 0, .ptr ob 0] es := by
  rintro s O g x pe ps pt E S T K _ ⟨i0, hi0, hb0⟩ ⟨a, h1, h2, h3, hO⟩ Q hK
  obtain ⟨i, hx⟩ := Q.hx
  have xl : x < g.length := (List.getElem?_eq_some_iff.1 hx).1
  have ul := (List.getElem?_eq_some_iff.1 h1).1
  have ol := (List.getElem?_eq_some_iff.1 h2).1
  have sa := h3.sc
  apply c_audit_Trace_c1
  unfold p_audit_Trace_c1
  simp -implicitDefEqProofs [h1, AObj.read]
  refine seen_of_ok hR Q fun g2 => ?_
  have u2 : (g ++ g2)[ub]? = _ := get_app h1
  have o2 : (g ++ g2)[ob]? = _ := get_app h2
  have x2 : (g ++ g2)[x]? = _ := get_app hx
  have kp : ∀ k, k < g.length → (g ++ g2)[k]? = g[k]? := fun k hk => List.getElem?_append_left hk
  have at2 := Q.he (g ++ g2) fun k hk _ => kp k hk
  have hall : ldV 8 true pe (g ++ g2) = some (.agg E.row) := at2.all
  have own2 : Own Ev.row 8 t_api_Event a s (g ++ g2) := h3.move' fun b hb => kp b (h3.blt hb)
  have re : E.row = [.int .i64 E.kind, .int .i64 E.user, .int .i64 E.session, .int .i64 E.address, .int .i64 E.a, .int .i64 E.b, .int .i64 E.c, .int .i64 E.tick] := rfl
  by_cases hu : whoOf S E = user
  · have e : trStep user s E S T = s ++ [E] := if_pos hu
    rw [re] at hall
    simp -implicitDefEqProofs [u2, o2, x2, AObj.read, hu, at2.nn, at2.fad, hall]
    rw [← re]
    obtain ⟨g5, hg5⟩ : ∃ g5, g5 = g ++ (g2 ++ [AObj.cells t_api_Event E.row]) := ⟨_, rfl⟩
    rw [← hg5]
    have kp5 : ∀ k, k < g.length → g5[k]? = g[k]? := fun k hk => by rw [hg5]; exact List.getElem?_append_left hk
    have l5 : g5.length = g.length + g2.length + 1 := by rw [hg5]; simp; omega
    have o5 := (kp5 ob ol).trans h2
    have own5 : Own Ev.row 8 t_api_Event a s g5 := h3.move' fun b hb => kp5 b (h3.blt hb)
    refine ⟨by simp [o5, AObj.read], ?_⟩
    refine app_own evR (l2 := [E]) own5 (by decide) ?_ (by simp; omega) fun a' h' q1 q2 q3 q4 => ?_
    · have : g5[g.length + g2.length]? = some (.cells t_api_Event E.row) := by rw [hg5, ← List.append_assoc, List.getElem?_append_right (by simp)]; simp
      simp [srcOf, cellsAt, this, AObj.read]
      rw [evR.len]
      exact ⟨Nat.le_refl _, List.take_of_length_le (by rw [evR.len]; exact Nat.le_refl _)⟩
    have nub : ∀ b, a.blk = some b → b ≠ ub ∧ b ≠ ob := fun b hb => by
      obtain ⟨cs, hcs⟩ := h3.at hb
      refine ⟨?_, ?_⟩
      · rintro rfl; rw [h1] at hcs; exact absurd (AObj.cells.inj (Option.some.inj hcs)).1 (by decide)
      · rintro rfl; rw [h2] at hcs; exact absurd (AObj.cells.inj (Option.some.inj hcs)).1 (by decide)
    have oo : h'[ob]? = _ := (q2 ob (by omega) fun hb => (nub ob hb).2 rfl).trans o5
    have uu : h'[ub]? = _ := (q2 ub (by omega) fun hb => (nub ub hb).1 rfl).trans ((kp5 ub ul).trans h1)
    have sa' := q1.sc
    have nob : ∀ b, a'.blk = some b → b ≠ ob := fun b hb => by
      rcases q4 b hb with h9 | h9
      · exact (nub b h9).2
      · omega
    have hne : ub ≠ ob := by rintro rfl; rw [h1] at h2; exact absurd (AObj.cells.inj (Option.some.inj h2)).1 (by decide)
    have scs := sc_cs sa'
    simp -implicitDefEqProofs [oo, sa', scs]
    refine hK (fun k => k = ub ∨ k = ob ∨ a'.blk = some k) _ (by rw [e]; exact ⟨a', (List.getElem?_set_ne (Ne.symm hne)).trans uu, List.getElem?_set_self (by omega), q1.move' fun b hb => List.getElem?_set_ne (Ne.symm (nob b hb)), fun k => Iff.rfl⟩) (fun k hk hn => ?_) (by simp; omega) (fun k hk => ?_)
    · have n1 : ¬ (k = ub ∨ k = ob ∨ a.blk = some k) := fun h9 => hn ((hO k).2 h9)
      rw [List.getElem?_set_ne (fun h9 => n1 (.inr (.inl h9.symm))), q2 k (by omega) (fun h9 => n1 (.inr (.inr h9)))]
      exact kp5 k hk
    · rcases hk with h9 | h9 | h9
      · exact .inl ((hO k).2 (.inl h9))
      · exact .inl ((hO k).2 (.inr (.inl h9)))
      · rcases q4 k h9 with h8 | h8
        · exact .inl ((hO k).2 (.inr (.inr h8)))
        · exact .inr (by omega)
  · have hu' : (whoOf S E == user) = false := by simpa using hu
    have e : trStep user s E S T = s := if_neg hu
    simp -implicitDefEqProofs [u2, hu', AObj.read]
    refine hK O (g ++ g2) (by rw [e]; exact ⟨a, u2, o2, own2, hO⟩) (fun k hk _ => kp k hk) (by simp) (fun k hk => .inl hk)
theorem audit_Trace_ok (hR : R.Ok) (C : Cfg) {a : AVal} {es : List Ev} {h : AHeap A} (ha : EvRd a es h) (hn : es.length ≤ 1048576) (user : Int) {K : AVal → AHeap A → Prop}
    (hk0 : aTrace C user es = none → ∀ g, (∀ k, k < h.length → g[k]? = h[k]?) → h.length ≤ g.length → K (.tup [.nils, .int .i64 2500]) g)
    (hk1 : ∀ o, aTrace C user es = some o → ∀ x g, Own Ev.row 8 t_api_Event x o g → (∀ b, x.blk = some b → h.length ≤ b) → (∀ k, k < h.length → g[k]? = h[k]?) → h.length ≤ g.length → K (.tup [x, .int .i64 0]) g) : Tri Pr R n_audit_Trace [.agg C.row, .int .i64 user, a] h K := by
  have rc : Cfg.row C = [.int .i64 C.sectors, .int .i64 C.halves, .int .i64 C.sessions, .int .i64 C.addresses, .int .i64 C.fails, .int .i64 C.lockout, .int .i64 C.halfLife, .int .i64 C.idle, .int .i64 C.absolute, .int .i64 C.quarantine, .int .i64 C.ticketLife, .int .i64 C.keep] := rfl
  apply c_audit_Trace
  unfold p_audit_Trace
  simp -implicitDefEqProofs [rc]
  rw [← rc]
  obtain ⟨h1, hh1⟩ : ∃ h1, h1 = h ++ [AObj.cells t_api_Config C.row, .cells t_int [.int .i64 user], .cells t_sl_api_Event [.nils]] := ⟨_, rfl⟩
  rw [← hh1]
  have len1 : h1.length = h.length + 3 := by rw [hh1]; simp
  have kp1 : ∀ k, k < h.length → h1[k]? = h[k]? := fun k hk => by rw [hh1, List.getElem?_append_left hk]
  have b1 : h1[h.length + 1]? = some (.cells t_int [.int .i64 user]) := by rw [hh1, List.getElem?_append_right (by omega)]; simp
  have b2 : h1[h.length + 2]? = some (.cells t_sl_api_Event [.nils]) := by rw [hh1, List.getElem?_append_right (by omega)]; simp
  refine audit_walk_ok hR (tseer (h.length + 1) (h.length + 2) user) C (tsees hR _ _ C user es hn) (by kernel_rfl) (O0 := fun k => k = h.length + 1 ∨ k = h.length + 2) (s0 := []) ⟨.nils, b1, b2, Own.nil, fun k => by simp [AVal.blk]⟩ (Nat.le_refl _) (fun s i E S T hb => by show (trStep user s E S T).length ≤ i + 1; have hb' : s.length ≤ i := hb; unfold trStep; split <;> simp <;> omega) (fun g hg => ha g fun k hk => ?_) hn (fun s S sv O g hw hsv hle hi hf hl ho => ?_) (fun hw i er r g he hr hf hl => ?_)
  · rw [hg k (by omega) (by omega)]; exact kp1 k hk
  · obtain ⟨av, q1, q2, q3, hO⟩ := hi
    obtain ⟨u, x, ad', p, rfl, hu, hx, had, hp⟩ := hsv
    have s1 := hu.sc
    have s2 := hx.sc
    have s3 := had.sc
    have s4 := hp.sc
    have kp : ∀ k, k < h.length → g[k]? = h[k]? := fun k hk => (hf k (by omega) (by omega)).trans (kp1 k hk)
    have hbl : ∀ b, av.blk = some b → h.length ≤ b := fun b hb => by
      rcases ho b ((hO b).2 (.inr (.inr hb))) with h2 | h2 <;> omega
    have e : aTrace C user es = if (uAt S.users user).isSome = true then some s else none := by unfold aTrace; rw [hw]; rfl
    simp -implicitDefEqProofs [s1, s2, s3, s4]
    refine audit_bad_nil ?_
    obtain ⟨g2, hg2⟩ : ∃ g2, g2 = g ++ [AObj.cells t_api_State [.int .i64 S.boots, .int .i64 S.epoch, .int .i64 S.next, u, x, ad', p]] := ⟨_, rfl⟩
    have hq : g2[g.length]? = some (.cells t_api_State [.int .i64 S.boots, .int .i64 S.epoch, .int .i64 S.next, u, x, ad', p]) := by rw [hg2]; simp
    have fld : Fld (.ptr g.length 0) 3 u g2 := ⟨fun K => by simp, fun K => by simp [AVal.fad], fun g' => by
      have : (g2 ++ g')[g.length]? = _ := get_app hq
      simp [AVal.fad, ldV, this, AObj.read]⟩
    have u2 : g2[h.length + 1]? = some (.cells t_int [.int .i64 user]) := by rw [hg2]; exact get_app q1
    rw [← hg2]
    have kp2 : ∀ k, k < h.length → ∀ g' : AHeap A, (g2 ++ g')[k]? = h[k]? := fun k hk g' => by
      rw [hg2, List.append_assoc, List.getElem?_append_left (by omega)]; exact kp k hk
    have l2 : ∀ g' : AHeap A, h.length ≤ (g2 ++ g').length := fun g' => by rw [hg2]; simp; omega
    have u1 := u2
    simp -implicitDefEqProofs [u2, AObj.read]
    refine state_User_ok hR fld (fun g' => hu.rd usrR _) hle.u user (fun h6 => ?_) (fun j pp hj hp => ?_)
    · simp -implicitDefEqProofs
      exact hk0 (by rw [e, h6]; rfl) _ (fun k hk => kp2 k hk _) (l2 _)
    · obtain ⟨p2, hp2, hat⟩ := (hu.rd usrR (g2 ++ [.cells t_int [.int .i64 user]])).get j (uAt_lt hj)
      obtain rfl := idx_uniq hp hp2
      have o2 : (g2 ++ [.cells t_int [.int .i64 user]] : AHeap A)[h.length + 2]? = some (.cells t_sl_api_Event [av]) := by rw [hg2]; exact get_app (get_app q2)
      simp -implicitDefEqProofs [hat.eqn, o2, AObj.read]
      exact hk1 s (by rw [e, hj]; rfl) av _ (q3.move' fun b hb => by rw [hg2]; exact (List.getElem?_append_left (by have := q3.blt hb; rw [List.length_append]; omega)).trans (List.getElem?_append_left (q3.blt hb))) hbl (fun k hk => kp2 k hk _) (l2 _)
  · have e : aTrace C user es = none := by unfold aTrace; rw [hw]; rfl
    unfold zSta
    simp -implicitDefEqProofs
    refine audit_bad_ref he (get_app hr) ?_
    simp -implicitDefEqProofs
    exact hk0 e _ (fun k hk => by rw [List.getElem?_append_left (by omega)]; exact (hf k (by omega) (by omega)).trans (kp1 k hk)) (by simp; omega)
end Go.AI

/- Audits: the document's answers: whose an event is, who holds an address. -/
set_option linter.all false
namespace Go.AI
variable {A : Type} {R : Adts A}
theorem ref20_ofUser_ok (hR : R.Ok) {sv : AVal} {S : Sta} (hsv : IsSta sv S) (hle : StaLe S 2000000) {E : Ev} (hE : 0 ≤ E.kind ∧ E.kind ≤ 9) {h : AHeap A} {K : AVal → AHeap A → Prop} (hk : ∀ g, Gr h g → K (.int .i64 (whoOf S E)) g) : Tri Pr R n_ref20_ofUser [sv, .agg E.row] h K := by
  have re : Ev.row E = [.int .i64 E.kind, .int .i64 E.user, .int .i64 E.session, .int .i64 E.address, .int .i64 E.a, .int .i64 E.b, .int .i64 E.c, .int .i64 E.tick] := rfl
  obtain ⟨u, x, a, p, rfl, hu, hx, ha, hp⟩ := hsv
  have su := hu.sc
  have sx := hx.sc
  have sa := ha.sc
  have sp := hp.sc
  apply c_ref20_ofUser
  unfold p_ref20_ofUser
  simp -implicitDefEqProofs [re, su, sx, sa, sp, AObj.read]
  refine joinP_go ?_
  refine joinP_go ?_
  have none' : E.kind = 0 ∨ E.kind = 8 ∨ E.kind = 9 → whoOf S E = -1 := fun h1 => by unfold whoOf; rw [if_neg (by omega), if_pos h1]
  have own' : E.kind ≠ 6 → ¬ (E.kind = 0 ∨ E.kind = 8 ∨ E.kind = 9) → whoOf S E = E.user := fun h1 h2 => by unfold whoOf; rw [if_neg h1, if_neg h2]
  have hkg := hk _ (Gr.app h [AObj.cells t_api_State [.int .i64 S.boots, .int .i64 S.epoch, .int .i64 S.next, u, x, a, p], .cells t_api_Event E.row])
  rw [re] at hkg
  have t : ∀ n : Int, E.kind = n → (E.kind == n) = true := fun n h => by simpa using h
  have f : ∀ n : Int, E.kind ≠ n → (E.kind == n) = false := fun n h => by simpa using h
  by_cases k1 : E.kind = 1
  · rw [own' (by omega) (by omega)] at hkg
    have b1 := t 1 k1
    simp -implicitDefEqProofs [AObj.read, b1]
    exact hkg
  have b1 := f 1 k1
  by_cases k2 : E.kind = 2
  · rw [own' (by omega) (by omega)] at hkg
    have b2 := t 2 k2
    simp -implicitDefEqProofs [AObj.read, b1, b2]
    exact hkg
  have b2 := f 2 k2
  by_cases k3 : E.kind = 3
  · rw [own' (by omega) (by omega)] at hkg
    have b3 := t 3 k3
    simp -implicitDefEqProofs [AObj.read, b1, b2, b3]
    exact hkg
  have b3 := f 3 k3
  by_cases k4 : E.kind = 4
  · rw [own' (by omega) (by omega)] at hkg
    have b4 := t 4 k4
    simp -implicitDefEqProofs [AObj.read, b1, b2, b3, b4]
    exact hkg
  have b4 := f 4 k4
  by_cases k5 : E.kind = 5
  · rw [own' (by omega) (by omega)] at hkg
    have b5 := t 5 k5
    simp -implicitDefEqProofs [AObj.read, b1, b2, b3, b4, b5]
    exact hkg
  have b5 := f 5 k5
  by_cases k7 : E.kind = 7
  · rw [own' (by omega) (by omega)] at hkg
    have b7 := t 7 k7
    simp -implicitDefEqProofs [AObj.read, b1, b2, b3, b4, b5, b7]
    exact hkg
  have b7 := f 7 k7
  by_cases k6 : E.kind = 6
  · have b6 := t 6 k6
    simp -implicitDefEqProofs [AObj.read, b1, b2, b3, b4, b5, b6, b7]
    refine ref20_SessionAt_ok hR su sx sa sp (Rg.fz sesR hx _) hle.x E.session fun g1 G1 => ?_
    have G0 := (Gr.app h _).trans G1
    have c1 : g1[h.length]? = some (.cells t_api_State [.int .i64 S.boots, .int .i64 S.epoch, .int .i64 S.next, u, x, a, p]) := G1.get (by rw [List.getElem?_append_right (Nat.le_refl _)]; simp)
    have hg1 := hk g1 G0
    cases hj : xAt S.sess E.session with
    | none =>
      have e : whoOf S E = -1 := by unfold whoOf; rw [if_pos k6, hj]
      rw [e] at hg1
      have h2 : ¬ idx1 (none : Option Nat) ≥ 0 := by simp [idx1]
      have gl := G0.l
      have gl1 := G1.l
      simp -implicitDefEqProofs [h2]
      simp at gl1
      first | exact hg1 | exact ⟨by omega, hg1⟩ | exact ⟨by omega, by omega, hg1⟩
    | some j =>
      have hjl := xAt_lt hj
      have e : whoOf S E = (S.sess[j]).user := by unfold whoOf; rw [if_pos k6, hj]; simp only [ses_get hjl]
      rw [e] at hg1
      obtain ⟨p2, hp2, hat⟩ := (hx.rd sesR g1).get j hjl
      have cf : ldV 1 false (p2.fad 1) g1 = some (.int .i64 (S.sess[j]).user) := hat.cell 1 (by simp [Ses.row])
      have h2 : (j : Int) ≥ 0 := by omega
      have ij : idx1 (some j) = (j : Int) := rfl
      simp -implicitDefEqProofs [ij, h2, c1, AObj.read, hp2, hat.fad, cf]
      exact hg1
  have b6 := f 6 k6
  rw [none' (by omega)] at hkg
  simp -implicitDefEqProofs [AObj.read, b1, b2, b3, b4, b5, b6, b7]
  exact hkg
def RhI (S : Sta) (ad : Int) (h : AHeap A) (q : Nat) (sv : List AVal) (mm : Nat) (y : List AVal) (g : AHeap A) : Prop :=
  ∃ i : Nat, y = [.int .i64 i] ∧ i ≤ S.sess.length ∧ (∀ j (hj : j < S.sess.length), j < i → decide ((S.sess[j]).address = ad) = false) ∧ g = h ∧ mm = S.sess.length - i
theorem ref20_Holder_ok (hR : R.Ok) (C : Cfg) {a : AVal} {es : List Ev} {h : AHeap A} (ha : Rg Ev.row 8 a es h) (hn : es.length ≤ 1048576) (ad : Int) {K : AVal → AHeap A → Prop}
    (hk : ∀ g, Gr h g → K (.tup [.int .i64 (aHolder C ad es).1, .int .i64 (aHolder C ad es).2.1, .int .i64 (aHolder C ad es).2.2]) g) : Tri Pr R n_ref20_Holder [.agg C.row, .int .i64 ad, a] h K := by
  have rc : Cfg.row C = [.int .i64 C.sectors, .int .i64 C.halves, .int .i64 C.sessions, .int .i64 C.addresses, .int .i64 C.fails, .int .i64 C.lockout, .int .i64 C.halfLife, .int .i64 C.idle, .int .i64 C.absolute, .int .i64 C.quarantine, .int .i64 C.ticketLife, .int .i64 C.keep] := rfl
  have done : ∀ (g : AHeap A) (q : Int × Int × Int), Gr h g → aHolder C ad es = q → K (.tup [.int .i64 q.1, .int .i64 q.2.1, .int .i64 q.2.2]) g := by
    rintro g q G rfl
    exact hk g G
  apply c_ref20_Holder
  unfold p_ref20_Holder
  simp -implicitDefEqProofs [rc, AObj.read]
  rw [← rc]
  refine ref20_All_ok hR C (ha.gr (Gr.app h _)) hn (fun S sv g hS hsv hle G => ?_) (fun hS er g her G => ?_)
  · have Gh := (Gr.app h _).trans G
    have ha3 : aHolder C ad es = (if ad < 0 ∨ (S.addrs.length : Int) ≤ ad then ((0, 0, 2500) : Int × Int × Int) else match S.sess.find? fun x => decide (x.address = ad) with | some x => ((x.user, x.session, 0) : Int × Int × Int) | none => ((-1, -1, 0) : Int × Int × Int)) := by
      (unfold aHolder; rw [hS]) <;> rfl
    obtain ⟨u, x, ad', p, rfl, hu, hx, had, hp⟩ := hsv
    have s1 := hu.sc
    have s2 := hx.sc
    have s3 := had.sc
    have s4 := hp.sc
    have rda := (had.rd adrR ([] : AHeap A)).len
    have rdx := fun g : AHeap A => hx.rd sesR g
    have lx := (rdx []).len
    obtain ⟨g1, hg1⟩ : ∃ g1, g1 = g ++ [AObj.cells t_api_State [.int .i64 S.boots, .int .i64 S.epoch, .int .i64 S.next, u, x, ad', p]] := ⟨_, rfl⟩
    have G1 : Gr h g1 := Gh.trans (by rw [hg1]; exact Gr.app g _)
    have c1 : g1[g.length]? = some (.cells t_api_State [.int .i64 S.boots, .int .i64 S.epoch, .int .i64 S.next, u, x, ad', p]) := by rw [hg1]; simp
    by_cases h1 : ad < 0
    · simp -implicitDefEqProofs [s1, s2, s3, s4, AObj.read, h1]
      rw [← hg1]
      exact done _ (0, 0, 2500) G1 (by rw [ha3, if_pos (.inl h1)])
    by_cases h2 : (S.addrs.length : Int) ≤ ad
    · have h2' : ad ≥ (S.addrs.length : Int) := h2
      simp -implicitDefEqProofs [s1, s2, s3, s4, AObj.read, h1, rda, h2']
      rw [← hg1]
      exact done _ (0, 0, 2500) G1 (by rw [ha3, if_pos (.inr h2)])
    have h2' : ¬ ad ≥ (S.addrs.length : Int) := h2
    rw [if_neg (by omega)] at ha3
    simp -implicitDefEqProofs [s1, s2, s3, s4, AObj.read, h1, rda, h2']
    rw [← hg1]
    refine loopP_go (RhI S ad g1 0 []) S.sess.length (Gives.done (Nat.le_refl _) ⟨0, rfl, by omega, fun j _ hj => by omega, rfl, by omega⟩) ?_
    rintro mm y g2 ⟨i, rfl, hi, hb, rfl, rfl⟩
    have wi := w64 (n := (i : Int) + 1) (by have := hle.x; omega)
    by_cases h3 : i < S.sess.length
    · have h3' : (i : Int) < S.sess.length := by omega
      obtain ⟨pp, hpp, hat⟩ := (rdx g2).get i h3
      have q0 : ldV 1 false (pp.fad 0) g2 = some (.int .i64 (S.sess[i]).session) := hat.cell 0 (by simp [Ses.row])
      have q1 : ldV 1 false (pp.fad 1) g2 = some (.int .i64 (S.sess[i]).user) := hat.cell 1 (by simp [Ses.row])
      have q2 : ldV 1 false (pp.fad 2) g2 = some (.int .i64 (S.sess[i]).address) := hat.cell 2 (by simp [Ses.row])
      by_cases h4 : (S.sess[i]).address = ad
      · have h4' : ((S.sess[i]).address == ad) = true := by simpa using h4
        have hfind : S.sess.find? (fun x => decide (x.address = ad)) = some S.sess[i] := by
          rw [List.find?_eq_some_iff_getElem]
          exact ⟨by simpa using h4, i, h3, rfl, fun j hj => by simpa using hb j (by omega) hj⟩
        simp -implicitDefEqProofs [c1, AObj.read, lx, h3', hpp, hat.fad, q0, q1, q2, h4']
        exact done _ ((S.sess[i]).user, (S.sess[i]).session, 0) G1 (by rw [ha3, hfind])
      · have h4' : ((S.sess[i]).address == ad) = false := by simpa using h4
        simp -implicitDefEqProofs [c1, AObj.read, lx, h3', hpp, hat.fad, q2, h4', wi]
        refine Gives.done (Nat.le_refl _) ⟨S.sess.length - (i + 1), by omega, i + 1, by simp, by omega, fun j hj hji => ?_, rfl, rfl⟩
        by_cases hj2 : j = i
        · subst hj2; simpa using h4
        · exact hb j hj (by omega)
    · have h3' : ¬ (i : Int) < S.sess.length := by omega
      have hfind : S.sess.find? (fun x => decide (x.address = ad)) = none := by
        rw [List.find?_eq_none]
        intro x hx2
        obtain ⟨j, hj, rfl⟩ := List.mem_iff_getElem.1 hx2
        simpa using hb j hj (by omega)
      simp -implicitDefEqProofs [c1, AObj.read, lx, h3']
      exact done _ (-1, -1, 0) G1 (by rw [ha3, hfind])
  · have ha3 : aHolder C ad es = (0, 0, 2500) := by (unfold aHolder; rw [hS]) <;> rfl
    have her' : (er != 0) = true := by simpa using her
    unfold zSta
    simp -implicitDefEqProofs [AObj.read, her']
    exact done _ (0, 0, 2500) (((Gr.app h _).trans G).trans (Gr.app g _)) ha3
end Go.AI

/- Audits: the document's answers: traces. -/
set_option linter.all false
namespace Go.AI
variable {A : Type} {R : Adts A}
def RtA (user : Int) (E : Ev) (S : Sta) (out : List Ev) (n : Nat) (g : AHeap A) (vs : List AVal) (g2 : AHeap A) : Prop :=
  ∃ av, vs = [av] ∧ Own Ev.row 8 t_api_Event av (trStep user out E S S) g2 ∧ (∀ b, av.blk = some b → n ≤ b) ∧ (∀ k, k < n → g2[k]? = g[k]?) ∧ g.length ≤ g2.length
def RtW (C : Cfg) (S : Sta) (E : Ev) (g : AHeap A) (vs : List AVal) (g2 : AHeap A) : Prop :=
  ∃ l, vs = [.ptr g.length 0] ∧ g2 = g ++ [.cells t_api_State l] ∧ IsSta (.agg l) (sApply C S E).1
structure RtI (C : Cfg) (user : Int) (es : List Ev) (b : AHeap A) (ci qi : Nat) (i : Nat) (out : List Ev) (av : AVal) (S : Sta) (sv : List AVal) (g : AHeap A) : Prop where
  il : i ≤ es.length
  o : Own Ev.row 8 t_api_Event av out g
  ob : ∀ k, av.blk = some k → b.length ≤ k
  f : ∀ k, k < b.length → k ≠ qi → g[k]? = b[k]?
  cq : g[qi]? = some (.cells t_api_State sv)
  st : IsSta (.agg sv) S
  le : StaLe S (16 + i)
  ok : StaIn S
  run : wRun C (trStep user) out S (es.drop i) = wAll C (trStep user) [] es
  len : b.length ≤ g.length
  ol : out.length ≤ i
def RtJ (C : Cfg) (user : Int) (es : List Ev) (b : AHeap A) (ci qi : Nat) (mm : Nat) (y : List AVal) (g : AHeap A) : Prop :=
  ∃ (i : Nat) (out : List Ev) (av : AVal) (S : Sta) (sv : List AVal), y = [av, .int .i64 i] ∧ RtI C user es b ci qi i out av S sv g ∧ mm = es.length - i
theorem ref20_Trace_ok (hR : R.Ok) (C : Cfg) {a : AVal} {es : List Ev} {h : AHeap A} (ha : Rg Ev.row 8 a es h) (hn : es.length ≤ 1048576) (user : Int) {K : AVal → AHeap A → Prop}
    (hk0 : aTrace C user es = none → ∀ g, Gr h g → K (.tup [.nils, .int .i64 2500]) g)
    (hk1 : ∀ o, aTrace C user es = some o → ∀ x g, Own Ev.row 8 t_api_Event x o g → (∀ b, x.blk = some b → h.length ≤ b) → Gr h g → K (.tup [x, .int .i64 0]) g) : Tri Pr R n_ref20_Trace [.agg C.row, .int .i64 user, a] h K := by
  have rc : Cfg.row C = [.int .i64 C.sectors, .int .i64 C.halves, .int .i64 C.sessions, .int .i64 C.addresses, .int .i64 C.fails, .int .i64 C.lockout, .int .i64 C.halfLife, .int .i64 C.idle, .int .i64 C.absolute, .int .i64 C.quarantine, .int .i64 C.ticketLife, .int .i64 C.keep] := rfl
  have hsnd := wAll_snd C (trStep user) [] es
  apply c_ref20_Trace
  unfold p_ref20_Trace
  simp -implicitDefEqProofs [rc, AObj.read]
  rw [← rc]
  refine ref20_All_ok hR C (ha.gr (Gr.app h _)) hn (fun S sv g hS hsv hle G => ?_) (fun hS er g her G => ?_)
  case refine_2 =>
    rw [hS] at hsnd
    have e : aTrace C user es = none := by
      unfold aTrace
      cases hw : wAll C (trStep user) [] es with
      | none => rfl
      | some p => rw [hw] at hsnd; simp at hsnd
    have her' : (er != 0) = true := by simpa using her
    unfold zSta
    simp -implicitDefEqProofs [AObj.read, her']
    exact hk0 e _ (((Gr.app h _).trans G).trans (Gr.app g _))
  rw [hS] at hsnd
  cases hw : wAll C (trStep user) [] es with
  | none => rw [hw] at hsnd; simp at hsnd
  | some pr =>
  obtain ⟨outE, SE⟩ := pr
  rw [hw] at hsnd
  simp at hsnd
  subst hsnd
  have e : aTrace C user es = if (uAt SE.users user).isSome = true then some outE else none := by unfold aTrace; rw [hw]; rfl
  have Gh := (Gr.app h _).trans G
  have gl := G.l
  rw [List.length_append, List.length_singleton] at gl
  have c0 : g[h.length]? = some (.cells t_api_Config C.row) := G.get (by rw [List.getElem?_append_right (Nat.le_refl _)]; simp)
  obtain ⟨u, x, ad', p, rfl, hu, hx, had, hp⟩ := hsv
  have s1 := hu.sc
  have s2 := hx.sc
  have s3 := had.sc
  have s4 := hp.sc
  simp -implicitDefEqProofs [s1, s2, s3, s4, AObj.read]
  refine ref20_UserAt_ok hR s1 s2 s3 s4 (Rg.fz usrR hu _) hle.u user fun g1 G1 => ?_
  have GG := (Gh.trans (Gr.app g _)).trans G1
  have d0 := G1.get (get_app c0)
  have l1 := G1.l
  rw [List.length_append, List.length_singleton] at l1
  cases hj : uAt SE.users user with
  | none =>
    have h2 : idx1 (none : Option Nat) < 0 := by simp [idx1]
    simp -implicitDefEqProofs [h2]
    exact hk0 (by rw [e, hj]; rfl) _ GG
  | some j =>
  have h2 : ¬ (j : Int) < 0 := by omega
  have ij : idx1 (some j) = (j : Int) := rfl
  have e1 : aTrace C user es = some outE := by rw [e, hj]; rfl
  rw [rc] at d0
  simp -implicitDefEqProofs [ij, h2, d0, AObj.read]
  refine ref20_NewState_ok hR _ (fun hnew => ?_) (fun S0 sv0 hnew hsv0 => ?_)
  · unfold wAll at hw; rw [hnew] at hw; simp at hw
  obtain ⟨l0, rfl, ll0, ls0, li0⟩ := hsv0.list
  have n0 := sNew_in hnew
  simp -implicitDefEqProofs [ll0, ls0]
  obtain ⟨b, hb⟩ : ∃ b, b = g1 ++ [AObj.cells t_api_State l0] := ⟨_, rfl⟩
  have bl : b.length = g1.length + 1 := by rw [hb]; simp
  have Gb : Gr h b := GG.trans (by rw [hb]; exact Gr.app _ _)
  have hl := GG.l
  have cb : b[h.length]? = some (.cells t_api_Config C.row) := by rw [hb]; exact get_app (by rw [rc]; exact d0)
  rw [← hb]
  refine loopP_go (RtJ C user es b h.length g1.length) es.length (Gives.done (Nat.le_refl _) ⟨0, [], .nils, S0, l0, rfl, ⟨by omega, Own.nil, fun k hk => by simp [AVal.blk] at hk, fun _ _ _ => rfl, by rw [hb]; simp, hsv0, n0.1, n0.2, by rw [List.drop_zero]; unfold wAll; rw [hnew], Nat.le_refl _, Nat.le_refl _⟩, by omega⟩) ?_
  rintro mm y g2 ⟨i, out, av, S, sv, rfl, W, rfl⟩
  have hil := W.il
  have hlen := W.len
  have cq := W.cq
  have G2 : Gr h g2 := ⟨fun k hk => (W.f k (by omega) (by omega)).trans (Gb.k k hk), by omega⟩
  have la := (ha g2 G2).len
  have le1 : StaLe S 2000000 := W.le.mono (by omega)
  obtain ⟨lv, hlv, ll, lsc, lix⟩ := W.st.list
  obtain rfl : sv = lv := by simpa using hlv
  have tk : sv.take 7 = sv := List.take_of_length_le (by omega)
  have ool := W.ol
  by_cases h1 : i < es.length
  · have h1' : (i : Int) < es.length := by omega
    have hdr : es.drop i = es[i] :: es.drop (i + 1) := List.drop_eq_getElem_cons h1
    have hrun := W.run
    rw [hdr, wRun, hw] at hrun
    have he : (sApply C S es[i]).2 = 0 := by
      by_cases h9 : (sApply C S es[i]).2 = 0
      · exact h9
      · rw [if_neg h9] at hrun; simp at hrun
    rw [if_pos he] at hrun
    have ok1 := sApply_ok he
    have hE : 0 ≤ es[i].kind ∧ es[i].kind ≤ 9 := by
      have := ok1.2.1
      simp only [evMay, Bool.and_eq_true, decide_eq_true_eq] at this
      exact this.1.1.1.1.1.1.1
    have T1 := sDoes_keeps ok1.1 W.le W.ok (evIn ok1.2.1)
    have wi := w64 (n := (i : Int) + 1) (by omega)
    have ev : ∀ g, Gr h g → ∃ pe, (∀ K, idxP 8 a (.int .i64 i) K = K pe) ∧ ldV 8 true pe g = some (.agg es[i].row) := fun g G => by
      obtain ⟨pe, hpe, hat⟩ := (ha g G).get i h1
      exact ⟨pe, hpe, hat.all⟩
    obtain ⟨pe, hpe, hall⟩ := ev g2 G2
    have re : Ev.row es[i] = [.int .i64 es[i].kind, .int .i64 es[i].user, .int .i64 es[i].session, .int .i64 es[i].address, .int .i64 es[i].a, .int .i64 es[i].b, .int .i64 es[i].c, .int .i64 es[i].tick] := rfl
    simp -implicitDefEqProofs [la, h1']
    refine joinP_all (RtA user es[i] S out b.length g2) ?_ ?_
    · simp -implicitDefEqProofs [hpe, cq, hall, AObj.read, ll, tk]
      refine ref20_ofUser_ok hR W.st le1 hE fun g3 G3 => ?_
      have G3h := G2.trans G3
      have o3 := W.o.gr G3
      have g3l := G3.l
      by_cases hu2 : whoOf S es[i] = user
      · have hu' : (whoOf S es[i] == user) = true := by simpa using hu2
        obtain ⟨pe2, hpe2, hall2⟩ := ev g3 G3h
        obtain rfl := idx_uniq hpe hpe2
        rw [re] at hall2
        simp -implicitDefEqProofs [hu', hpe, hall2]
        rw [← re]
        refine app_one evR o3 (by decide) es[i] (by omega) fun a' h' q1 q2 q3 q4 => ?_
        refine ⟨a', rfl, by unfold trStep; rw [if_pos hu2]; exact q1, fun k hk => ?_, fun k hk => ?_, by omega⟩
        · rcases q4 k hk with h9 | h9
          · exact W.ob k h9
          · omega
        · rw [q2 k (by omega) (fun h9 => by have := W.ob k h9; omega)]; exact G3.k k (by omega)
      · have hu' : (whoOf S es[i] == user) = false := by simpa using hu2
        simp -implicitDefEqProofs [hu']
        exact ⟨av, rfl, by unfold trStep; rw [if_neg hu2]; exact o3, W.ob, fun k hk => G3.k k (by omega), g3l⟩
    · rintro _ g3 ⟨av', rfl, o', ob', f', l'⟩
      refine ⟨l', ?_⟩
      have G3 : Gr h g3 := ⟨fun k hk => (f' k (by omega)).trans (G2.k k hk), by omega⟩
      have cq3 := (f' g1.length (by omega)).trans cq
      have c03 : g3[h.length]? = some (.cells t_api_Config C.row) := (f' h.length (by omega)).trans ((W.f h.length (by omega) (by omega)).trans cb)
      rw [rc] at c03
      obtain ⟨pe2, hpe2, hall2⟩ := ev g3 G3
      obtain rfl := idx_uniq hpe hpe2
      refine joinP_all (RtW C S es[i] g3) ?_ ?_
      · have c0a : ∀ o : AObj A, (g3 ++ [o] : AHeap A)[h.length]? = _ := fun o => get_app c03
        have cqa : ∀ o : AObj A, (g3 ++ [o] : AHeap A)[g1.length]? = _ := fun o => get_app cq3
        have hall3 : ∀ o : AObj A, ldV 8 true pe (g3 ++ [o]) = some (.agg es[i].row) := fun o => by
          obtain ⟨p', hp', ha'⟩ := ev (g3 ++ [o]) (G3.trans (Gr.app g3 _))
          obtain rfl := idx_uniq hp' hpe
          exact ha'
        simp -implicitDefEqProofs [hpe, c03, cq3, hall2, AObj.read, c0a, cqa, hall3, ll, tk]
        refine ⟨?_, ?_⟩
        · refine ref20_Apply_ok hR C W.st le1 W.ok es[i] fun sv' hsv' => ?_
          obtain ⟨l', rfl, q1, q2, q3⟩ := hsv'.list
          simp -implicitDefEqProofs [q1, q2]
          exact ⟨l', rfl, rfl, hsv'⟩
        · refine ref20_Apply_ok hR C W.st le1 W.ok es[i] fun sv' hsv' => ?_
          obtain ⟨l', rfl, q1, q2, q3⟩ := hsv'.list
          simp -implicitDefEqProofs [q1, q2]
          exact ⟨l', rfl, rfl, hsv'⟩
      · rintro _ _ ⟨l2, rfl, rfl, hsv'⟩
        refine ⟨by simp, ?_⟩
        obtain ⟨l3, hl3, q1, q2, q3⟩ := hsv'.list
        obtain rfl : l2 = l3 := by simpa using hl3
        have tk' : l2.take 7 = l2 := List.take_of_length_le (by omega)
        have cqa : ∀ o : AObj A, (g3 ++ [o] : AHeap A)[g1.length]? = _ := fun o => get_app cq3
        simp -implicitDefEqProofs [AObj.read, q1, tk', cqa, q2, ll, wi]
        have hol : (trStep user out es[i] S S).length ≤ i + 1 := by
          unfold trStep
          split
          · simp; omega
          · omega
        refine Gives.done (by simp; omega) ⟨es.length - (i + 1), by omega, i + 1, _, av', (sApply C S es[i]).1, l2, by simp, ⟨by omega, o'.move' fun k hk => ?_, ob', fun k hk hne => ?_, ?_, hsv', T1.1.mono (by omega), T1.2, ?_, by simp; omega, hol⟩, rfl⟩
        · have := ob' k hk
          have := o'.blt hk
          rw [List.getElem?_set_ne (by omega), List.getElem?_append_left (by omega)]
        · rw [List.getElem?_set_ne (Ne.symm hne), List.getElem?_append_left (by omega), f' k hk]; exact W.f k hk hne
        · rw [List.getElem?_set_self (by simp; omega), List.drop_of_length_le (by omega), List.append_nil]
        · rw [hw]; exact hrun
  · have h1' : ¬ (i : Int) < es.length := by omega
    have hie : i = es.length := by omega
    have hrun := W.run
    rw [hie, List.drop_length, wRun, hw] at hrun
    simp at hrun
    simp -implicitDefEqProofs [la, h1']
    refine hk1 outE e1 av g2 (hrun.1 ▸ W.o) (fun k hk => by have := W.ob k hk; omega) G2
end Go.AI

/- Audits: what every program answers. -/
set_option linter.all false
namespace Go.AI
variable {A : Type} {R : Adts A}
theorem shLn (e f : Ln) : shEq (Sh.st [(0, 1, Sh.i), (1, 1, Sh.i), (2, 1, Sh.i), (3, 1, Sh.i), (4, 1, Sh.i), (5, 1, Sh.i), (6, 1, Sh.i)]) e.row f.row = some (decide (e = f)) := by
  cases e; cases f
  simp [Ln.row, shEq, shEqs]
  rfl
def SLI {α : Type} (xs ys : List α) (n : Nat) (h : AHeap A) (mm : Nat) (y : List AVal) (g : AHeap A) : Prop :=
  ∃ i : Nat, y = [.int .i64 i] ∧ i ≤ xs.length ∧ (∀ j, j < i → xs[j]? = ys[j]?) ∧ g = h ∧ mm = n - i
theorem law0_SameLines_ok {x y : AVal} {xs ys : List Ln} {h : AHeap A} (hx : RdS Ln.row 7 x xs h) (hy : RdS Ln.row 7 y ys h) (hn : xs.length ≤ 2000000) {K : AVal → AHeap A → Prop} (hk : K (.bool (decide (xs = ys))) h) : Tri Pr R n_law0_SameLines [x, y] h K := by
  apply c_law0_SameLines
  unfold p_law0_SameLines
  have lx := hx.len
  have ly := hy.len
  by_cases hl : xs.length = ys.length
  · have e : ((xs.length : Int) != ys.length) = false := by simp [hl]
    simp -implicitDefEqProofs [lx, ly, e]
    refine loopP_go (SLI xs ys xs.length h) xs.length (Gives.done (Nat.le_refl _) ⟨0, rfl, by omega, fun j hj => by omega, rfl, by omega⟩) ?_
    rintro mm y2 g ⟨i, rfl, hi, hj, rfl, rfl⟩
    have e1 := w64 (n := (i : Int) + 1) (by omega)
    by_cases h1 : i < xs.length
    · obtain ⟨p, hp, hatp⟩ := hx.get i h1
      obtain ⟨q, hq, hatq⟩ := hy.get i (by omega)
      have ap : ldV 7 true p g = some (.agg (xs[i]).row) := hatp.all
      have aq : ldV 7 true q g = some (.agg (ys[i]'(by omega)).row) := hatq.all
      have hs := shLn xs[i] (ys[i]'(by omega))
      simp -implicitDefEqProofs [lx, ly, h1, hp, hq, ap, aq, hs]
      by_cases h2 : xs[i] = ys[i]'(by omega)
      · simp -implicitDefEqProofs [h2, e1]
        refine Gives.done (Nat.le_refl _) ⟨xs.length - (i + 1), by omega, i + 1, by simp, by omega, fun j hj2 => ?_, rfl, rfl⟩
        by_cases h3 : j = i
        · subst h3
          rw [List.getElem?_eq_getElem h1, List.getElem?_eq_getElem (by omega), h2]
        · exact hj j (by omega)
      · have hd : decide (xs = ys) = false := by
          simp only [decide_eq_false_iff_not]
          rintro rfl
          exact h2 rfl
        rw [hd] at hk
        simp -implicitDefEqProofs [h2]
        exact hk
    · have hd : decide (xs = ys) = true := by
        simp only [decide_eq_true_eq]
        refine List.ext_getElem? fun j => ?_
        by_cases h3 : j < i
        · exact hj j h3
        · rw [List.getElem?_eq_none (by omega), List.getElem?_eq_none (by omega)]
      rw [hd] at hk
      simp -implicitDefEqProofs [lx, ly, h1]
      exact hk
  · have e : ((xs.length : Int) != ys.length) = true := by simp; omega
    have hd : decide (xs = ys) = false := by
      simp only [decide_eq_false_iff_not]
      rintro rfl
      exact hl rfl
    rw [hd] at hk
    simp -implicitDefEqProofs [lx, ly, e]
    exact hk
theorem law25_Plain_ok {h : AHeap A} {K : AVal → AHeap A → Prop} (hk : ∀ g, K (.agg [.int .i64 100, .int .i64 2, .int .i64 2, .int .i64 3, .int .i64 2, .int .i64 20, .int .i64 10, .int .i64 15, .int .i64 60, .int .i64 8, .int .i64 50, .int .i64 1]) (h ++ g)) : Tri Pr R n_law25_Plain [] h K := by
  apply c_law25_Plain
  unfold p_law25_Plain
  simp -implicitDefEqProofs [reps, List.replicate]
  exact hk _
def C25 : Cfg := ⟨100, 2, 2, 3, 2, 20, 10, 15, 60, 8, 50, 1⟩
def es25 : List Ev := [⟨0, 0, 0, 0, 0, 0, 0, 0⟩, ⟨1, 3, 0, 0, 5, 6, 7, 0⟩, ⟨2, 3, 0, 0, 0, 0, 0, 1⟩, ⟨2, 3, 0, 0, 0, 0, 0, 2⟩, ⟨4, 3, 0, 0, 0, 0, 0, 0⟩, ⟨3, 3, 0, 0, 1, 0, 0, 0⟩, ⟨5, 3, 0, 1, 0, 0, 0, 0⟩, ⟨6, 0, 0, 0, 9, 0, 0, 0⟩, ⟨9, 0, 0, 0, 0, 0, 0, 0⟩, ⟨5, 3, 1, 2, 0, 0, 0, 0⟩]
theorem ad1 : aLines C25 es25 = some [⟨3, 1, 1, 2, 1, 1, 9⟩] := by decide +kernel
theorem ad2 : aTrace C25 3 es25 = some [⟨1, 3, 0, 0, 5, 6, 7, 0⟩, ⟨2, 3, 0, 0, 0, 0, 0, 1⟩, ⟨2, 3, 0, 0, 0, 0, 0, 2⟩, ⟨4, 3, 0, 0, 0, 0, 0, 0⟩, ⟨3, 3, 0, 0, 1, 0, 0, 0⟩, ⟨5, 3, 0, 1, 0, 0, 0, 0⟩, ⟨6, 0, 0, 0, 9, 0, 0, 0⟩, ⟨5, 3, 1, 2, 0, 0, 0, 0⟩] := by decide +kernel
theorem ad3 : aHolder C25 2 es25 = (3, 1, 0) := by decide +kernel
theorem ad4 : aHolder C25 0 es25 = (-1, -1, 0) := by decide +kernel
theorem ad5 : aLines C25 [⟨6, 0, 0, 0, 0, 0, 0, 0⟩] = none := by decide +kernel
theorem ad6 : aTrace C25 2 es25 = none := by decide +kernel
theorem ad7 : aHolder C25 3 es25 = (0, 0, 2500) := by decide +kernel
end Go.AI

/- Audits: a program that is awake. -/
set_option linter.all false
namespace Go.AI
variable {A : Type} {R : Adts A}
theorem law0_Num_ok {v : AVal} {h : AHeap A} {K : AVal → AHeap A → Prop} (hk : K v h) : Tri Pr R n_law0_Num [v] h K := by
  apply c_law0_Num
  unfold p_law0_Num
  exact hk
theorem law25_awake_ok (hR : R.Ok) {h : AHeap A} {K : AVal → AHeap A → Prop} (hk : ∀ g, (∀ k, k < h.length → g[k]? = h[k]?) → h.length ≤ g.length → K (.bool true) g) : Tri Pr R n_law25_awake [] h K := by
  apply c_law25_awake
  unfold p_law25_awake
  refine law25_Plain_ok fun g0 => ?_
  have rc : C25.row = [.int .i64 100, .int .i64 2, .int .i64 2, .int .i64 3, .int .i64 2, .int .i64 20, .int .i64 10, .int .i64 15, .int .i64 60, .int .i64 8, .int .i64 50, .int .i64 1] := rfl
  simp -implicitDefEqProofs [reps, List.replicate]
  obtain ⟨n, hn⟩ : ∃ n, n = h.length + g0.length := ⟨_, rfl⟩
  rw [show h.length + (g0.length + 1) = n + 1 by omega, ← hn]
  obtain ⟨h1, hh1⟩ : ∃ h1, h1 = h ++ (g0 ++ [AObj.cells t_api_Config C25.row, .cells t_api_Event (es25.flatMap Ev.row)]) := ⟨_, rfl⟩
  refine cast (congrArg (fun z => Tri Pr R n_audit_Lines [.agg C25.row, .sl (n + 1) 0 10 10 true] z _) hh1) ?_
  have l1 : h1.length = n + 2 := by rw [hh1]; simp; omega
  have f1 : ∀ k, k < h.length → h1[k]? = h[k]? := fun k hk => by rw [hh1, List.getElem?_append_left hk]
  have c1 : h1[n]? = some (.cells t_api_Config C25.row) := by rw [hh1, List.getElem?_append_right (by omega), List.getElem?_append_right (by omega)]; simp [hn]
  have e1 : h1[n + 1]? = some (.cells t_api_Event (es25.flatMap Ev.row)) := by
    rw [hh1, List.getElem?_append_right (by omega), List.getElem?_append_right (by omega)]
    rw [show n + 1 - h.length - g0.length = 1 by omega]; rfl
  have E1 : EvRd (.sl (n + 1) 0 10 10 true) es25 h1 := EvRd.own (Own.new evR (l := es25) e1 rfl)
  refine audit_Lines_ok hR C25 E1 (by decide) (fun h0 => by rw [ad1] at h0; simp at h0) (fun o ho x g2 O1 B1 F1 L1 => ?_)
  obtain rfl := Option.some.inj (ad1.symm.trans ho)
  have E2 := E1.move F1 L1
  have c2 := (F1 n (by omega)).trans c1
  rw [rc] at c2
  simp -implicitDefEqProofs [c2, AObj.read]
  refine audit_Trace_ok hR C25 E2 (by decide) 3 (fun h0 => by rw [ad2] at h0; simp at h0) (fun o ho y g3 O2 B2 F2 L2 => ?_)
  obtain rfl := Option.some.inj (ad2.symm.trans ho)
  have E3 := E2.move F2 L2
  have c3 := (F2 n (by omega)).trans c2
  simp -implicitDefEqProofs [c3, AObj.read]
  refine audit_Holder_ok hR C25 E3 (by decide) 2 (fun g4 F3 L3 => ?_)
  rw [ad3]
  have E4 := E3.move F3 L3
  have c4 := (F3 n (by omega)).trans c3
  simp -implicitDefEqProofs [c4, AObj.read]
  refine audit_Holder_ok hR C25 E4 (by decide) 0 (fun g5 F4 L4 => ?_)
  rw [ad4]
  have E5 := E4.move F4 L4
  have c5 := (F4 n (by omega)).trans c4
  simp -implicitDefEqProofs [c5, AObj.read]
  have Eb : EvRd (.sl g5.length 0 1 1 true) [⟨6, 0, 0, 0, 0, 0, 0, 0⟩] (g5 ++ [AObj.cells t_api_Event (Ev.row ⟨6, 0, 0, 0, 0, 0, 0, 0⟩)] : AHeap A) := EvRd.own (ty := t_api_Event) (Own.new (l := [⟨6, 0, 0, 0, 0, 0, 0, 0⟩]) evR (by simp) rfl)
  refine audit_Lines_ok hR C25 Eb (by decide) (fun h0 g6 F5 L5 => ?_) (fun o ho => by rw [ad5] at ho; simp at ho)
  have F5' : ∀ k, k < g5.length → g6[k]? = g5[k]? := fun k hk => (F5 k (by simp; omega)).trans (List.getElem?_append_left hk)
  have L5' : g5.length ≤ g6.length := by simp at L5; omega
  have E6 := E5.move F5' L5'
  have c6 := (F5' n (by omega)).trans c5
  simp -implicitDefEqProofs [c6, AObj.read]
  refine audit_Trace_ok hR C25 E6 (by decide) 2 (fun h0 g7 F6 L6 => ?_) (fun o ho => by rw [ad6] at ho; simp at ho)
  have E7 := E6.move F6 L6
  have c7 := (F6 n (by omega)).trans c6
  simp -implicitDefEqProofs [c7, AObj.read]
  refine audit_Holder_ok hR C25 E7 (by decide) 3 (fun g8 F7 L7 => ?_)
  rw [ad7]
  have to3 : ∀ k, k < g3.length → g8[k]? = g3[k]? := fun k hk => (F7 k (by omega)).trans ((F6 k (by omega)).trans ((F5' k (by omega)).trans ((F4 k (by omega)).trans (F3 k hk))))
  have to2 : ∀ k, k < g2.length → g8[k]? = g2[k]? := fun k hk => (to3 k (by omega)).trans (F2 k hk)
  have l82 : g2.length ≤ g8.length := by omega
  have O1' := O1.move' (h' := g8) fun b hb => to2 b (O1.blt hb)
  have O2' := O2.move' (h' := g8) fun b hb => to3 b (O2.blt hb)
  have kf : ∀ k, k < h.length → g8[k]? = h[k]? := fun k hk => (to2 k (by omega)).trans ((F1 k (by omega)).trans (f1 k hk))
  simp -implicitDefEqProofs
  refine law0_Num_ok ?_
  simp -implicitDefEqProofs
  obtain ⟨g9, hg9⟩ : ∃ g9, g9 = g8 ++ [AObj.cells t_api_Line (Ln.row ⟨3, 1, 1, 2, 1, 1, 9⟩)] := ⟨_, rfl⟩
  have O9 : Own Ln.row 7 t_api_Line (.sl g8.length 0 1 1 true) [⟨3, 1, 1, 2, 1, 1, 9⟩] g9 := Own.new (l := [⟨3, 1, 1, 2, 1, 1, 9⟩]) lnR (by rw [hg9]; simp) rfl
  have O1'' := O1'.move' (h' := g9) fun b hb => by rw [hg9]; exact List.getElem?_append_left (O1'.blt hb)
  have O2'' := (O2'.move' (h' := g9) fun b hb => by rw [hg9]; exact List.getElem?_append_left (O2'.blt hb)).rd evR
  have fin := hk g9 (fun k hk => by rw [hg9, List.getElem?_append_left (by omega)]; exact kf k hk) (by rw [hg9, List.length_append]; omega)
  have ly := O2''.len
  obtain ⟨p, hp, hat⟩ := O2''.get 6 (by decide)
  have hall : ldV 8 true p g9 = some (.agg [.int .i64 6, .int .i64 0, .int .i64 0, .int .i64 0, .int .i64 9, .int .i64 0, .int .i64 0, .int .i64 0]) := hat.all
  have hp' : ∀ K, idxP 8 y (.int .i64 6) K = K p := hp
  refine cast (congrArg (fun z => Tri Pr R n_law0_SameLines [x, .sl g8.length 0 1 1 true] z _) hg9) ?_
  refine law0_SameLines_ok (O1''.rd lnR) (O9.rd lnR) (by decide) ?_
  simp -implicitDefEqProofs
  refine law0_Num_ok ?_
  simp -implicitDefEqProofs [ly, hp', hall, shEq, shEqs]
  refine law0_Num_ok ?_
  simp -implicitDefEqProofs
  refine law0_Num_ok ?_
  simp -implicitDefEqProofs
  refine law0_Num_ok ?_
  simp -implicitDefEqProofs
  refine law0_Num_ok ?_
  simp -implicitDefEqProofs
  refine law0_Num_ok ?_
  simp -implicitDefEqProofs
  exact fin
end Go.AI

/- Audits: plain laws: failures and locks. -/
set_option linter.all false
namespace Go.AI
theorem wRun_snoc {σ : Type} (C : Cfg) (step : σ → Ev → Sta → Sta → σ) (E : Ev) : ∀ (es : List Ev) (s : σ) (S : Sta), wRun C step s S (es ++ [E]) = (wRun C step s S es).bind fun p => if (sApply C p.2 E).2 = 0 then some (step p.1 E p.2 (sApply C p.2 E).1, (sApply C p.2 E).1) else none
  | [], s, S => by
    simp only [List.nil_append, wRun, Option.bind_some]
  | F :: r, s, S => by
    simp only [List.cons_append, wRun]
    split
    · exact wRun_snoc C step E r _ _
    · rfl
theorem wAll_snoc {σ : Type} (C : Cfg) (step : σ → Ev → Sta → Sta → σ) (s : σ) (es : List Ev) (E : Ev) : wAll C step s (es ++ [E]) = (wAll C step s es).bind fun p => if (sApply C p.2 E).2 = 0 then some (step p.1 E p.2 (sApply C p.2 E).1, (sApply C p.2 E).1) else none := by
  unfold wAll
  cases sNew C.addresses with
  | none => rfl
  | some S => exact wRun_snoc C step E es s S
/-- A config whose count of failures is m. -/
def Cm (m : Int) : Cfg := { C25 with fails := m }
def S3 (f u : Int) : Sta := ⟨1, 0, 0, [⟨2, 0, 0, 0, 0, f, u, 0, 0⟩], [], [⟨false, -1, 0⟩, ⟨false, -1, 0⟩, ⟨false, -1, 0⟩], []⟩
/-- What stands behind gaps. -/
def PL (m : Int) (es : List Ev) (run unt fails locks : Int) : Prop :=
  ∃ (s : (Int → Ln) × Bool) (f : Int), wAll (Cm m) (lnStep (Cm m)) (ln0, false) es = some (s, S3 f unt) ∧ s.1 2 = ⟨2, 0, 0, fails, locks, 0, 0⟩ ∧ 0 ≤ f ∧ ((run = f ∧ f < m) ∨ (run = 0 ∧ f = m))
end Go.AI

/- Audits: what holds of states behind events. -/
set_option linter.all false
namespace Go.AI
/-- What holds of all states behind events. -/
theorem wAll_ind {σ : Type} {C : Cfg} {step : σ → Ev → Sta → Sta → σ} {s0 : σ} (P : List Ev → σ → Sta → Prop) (h0 : ∀ S, sNew C.addresses = some S → P [] s0 S)
    (h1 : ∀ pre s S E T, wAll C step s0 pre = some (s, S) → P pre s S → sDoes C S E = some T → evMay E = true → P (pre ++ [E]) (step s E S T) T) : ∀ (n : Nat) (es : List Ev), es.length = n → ∀ s S, wAll C step s0 es = some (s, S) → P es s S
  | 0, es, hn, s, S, h => by
    obtain rfl := List.length_eq_zero_iff.1 hn
    unfold wAll at h
    cases hs : sNew C.addresses with
    | none => rw [hs] at h; simp at h
    | some S0 =>
      rw [hs] at h
      simp [wRun] at h
      obtain ⟨rfl, rfl⟩ := h
      exact h0 _ hs
  | n + 1, es, hn, s, S, h => by
    obtain ⟨pre, E, rfl⟩ : ∃ pre E, es = pre ++ [E] := ⟨es.dropLast, es.getLast (by intro h; simp [h] at hn), (List.dropLast_concat_getLast _).symm⟩
    rw [wAll_snoc] at h
    cases hw : wAll C step s0 pre with
    | none => rw [hw] at h; simp at h
    | some p =>
      rw [hw] at h
      simp only [Option.bind_some] at h
      split at h
      · rename_i he
        simp at h
        obtain ⟨rfl, rfl⟩ := h
        obtain ⟨h2, h3, _⟩ := sApply_ok he
        exact h1 pre p.1 p.2 E _ hw (wAll_ind P h0 h1 n pre (by simp at hn; omega) p.1 p.2 hw) h2 h3
      · simp at h
/-- A seer's image. -/
theorem wAll_hom {σ τ : Type} (C : Cfg) (step : σ → Ev → Sta → Sta → σ) (step' : τ → Ev → Sta → Sta → τ) (φ : σ → τ) (hφ : ∀ s E S T, φ (step s E S T) = step' (φ s) E S T) (s : σ) (es : List Ev) : wAll C step' (φ s) es = (wAll C step s es).map fun p => (φ p.1, p.2) := by
  have h : ∀ (es : List Ev) (s : σ) (S : Sta), wRun C step' (φ s) S es = (wRun C step s S es).map fun p => (φ p.1, p.2) := by
    intro es
    induction es with
    | nil => intro s S; rfl
    | cons E r ih =>
      intro s S
      unfold wRun
      split
      · rw [← hφ]; exact ih _ _
      · rfl
  unfold wAll
  cases sNew C.addresses with
  | none => rfl
  | some S => exact h es s S
def uids (S : Sta) : List Int := S.users.map Usr.user
theorem uAt_none {us : List Usr} {u : Int} (h : uAt us u = none) : u ∉ us.map Usr.user := by
  intro h2
  obtain ⟨v, hv, rfl⟩ := List.mem_map.1 h2
  have := List.findIdx?_eq_none_iff.1 h v hv
  simp at this
theorem uAt_some {us : List Usr} {u : Int} {j : Nat} (h : uAt us u = some j) : ∃ hj : j < us.length, (us[j]).user = u := by
  obtain ⟨hj, h1, _⟩ := List.findIdx?_eq_some_iff_getElem.1 h
  exact ⟨hj, by simpa using h1⟩
theorem uAt_in {us : List Usr} {u : Int} {j : Nat} (h : uAt us u = some j) : u ∈ us.map Usr.user := by
  obtain ⟨hj, rfl⟩ := uAt_some h
  exact List.mem_map.2 ⟨_, List.getElem_mem hj, rfl⟩
theorem uPut_perm (u : Usr) : ∀ l : List Usr, (uPut u l).Perm (u :: l)
  | [] => List.Perm.refl _
  | v :: r => by
    unfold uPut
    split
    · exact List.Perm.refl _
    · exact ((uPut_perm u r).cons v).trans (List.Perm.swap u v r)
theorem map_set_same {α β : Type} (f : α → β) (l : List α) (j : Nat) (v : α) (h : ∀ hj : j < l.length, f v = f l[j]) : (l.set j v).map f = l.map f := by
  refine List.ext_getElem? fun k => ?_
  rw [List.map_set, List.getElem?_set]
  by_cases hk : j = k
  · subst hk
    by_cases hj : j < l.length
    · simp [hj, h hj]
    · simp [hj]
  · simp [hk]
theorem xAt_some {xs : List Ses} {x : Int} {j : Nat} (h : xAt xs x = some j) : ∃ hj : j < xs.length, (xs[j]).session = x := by
  obtain ⟨hj, h1, _⟩ := List.findIdx?_eq_some_iff_getElem.1 h
  exact ⟨hj, by simpa using h1⟩
/-- How a state turns. -/
inductive Turn (S : Sta) (E : Ev) (T : Sta) : Prop
  | boot (k : E.kind = 0) (u : T.users = S.users) (x : T.sess = []) (a : T.addrs.length = S.addrs.length) (n : T.next = S.next)
  | user (k : E.kind = 1) (h : uAt S.users E.user = none) (u : T = { S with users := uPut ⟨E.user, E.a, E.b, E.c, 0, 0, 0, 0, 0⟩ S.users })
  | lease (k : E.kind = 5) (ps : List Adr) (p : pTake S.addrs E.address E.user = some ps) (i : E.session = S.next) (h : (uAt S.users E.user).isSome = true) (u : T = { S with addrs := ps, sess := S.sess ++ [⟨E.session, E.user, E.address, E.tick⟩], next := S.next + 1 })
  | close (k : E.kind = 6) (i : Nat) (hi : xAt S.sess E.session = some i) (ps : List Adr) (p : pFree S.addrs (S.sess.getD i ses0).address E.tick = some ps) (x : T.sess = S.sess.eraseIdx i) (a : T.addrs = ps) (n : T.next = S.next)
      (u : T.users = S.users ∨ ∃ j, uAt S.users (S.sess.getD i ses0).user = some j ∧ T.users = S.users.set j { S.users.getD j usr0 with used := sum (S.users.getD j usr0).used E.a })
  | turn (k : E.kind = 2 ∨ E.kind = 3 ∨ E.kind = 4 ∨ E.kind = 7) (j : Nat) (hj : uAt S.users E.user = some j) (v : Usr) (hv : v.user = (S.users.getD j usr0).user ∧ v.used = (S.users.getD j usr0).used) (u : T = { S with users := S.users.set j v })
  | other (k : E.kind = 8 ∨ E.kind = 9) (u : T.users = S.users) (x : T.sess = S.sess) (a : T.addrs = S.addrs) (n : T.next = S.next)
theorem turn_cases {C : Cfg} {S T : Sta} {E : Ev} (h : sDoes C S E = some T) (hm : evMay E = true) : Turn S E T := by
  have hk : 0 ≤ E.kind ∧ E.kind ≤ 9 := by simp [evMay] at hm; omega
  unfold sDoes at h
  by_cases k0 : E.kind = 0
  · rw [if_pos k0] at h
    cases hf : freeAll (E.tick + C.quarantine) S.sess S.addrs with
    | none => rw [hf] at h; simp at h
    | some ps =>
      rw [hf] at h
      dsimp only at h
      split at h
      · simp at h; subst h; exact .boot k0 rfl rfl (freeAll_len _ hf) rfl
      · simp at h
  rw [if_neg k0] at h
  by_cases k1 : E.kind = 1
  · rw [if_pos k1] at h
    split at h
    · simp at h
    · rename_i h2
      simp at h; exact .user k1 (by simpa using h2) h.symm
  rw [if_neg k1] at h
  by_cases k5 : E.kind = 5
  · rw [if_pos k5] at h
    cases hp : pTake S.addrs E.address E.user with
    | none => rw [hp] at h; simp at h
    | some ps =>
      rw [hp] at h
      dsimp only at h
      split at h
      · rename_i h2
        simp only [Option.some.injEq] at h; exact .lease k5 ps hp h2.1 h2.2.1 h.symm
      · simp at h
  rw [if_neg k5] at h
  by_cases k6 : E.kind = 6
  · rw [if_pos k6] at h
    cases hx : xAt S.sess E.session with
    | none => rw [hx] at h; simp at h
    | some i =>
      rw [hx] at h
      dsimp only at h
      cases hp : pFree S.addrs (S.sess.getD i ses0).address E.tick with
      | none => rw [hp] at h; simp at h
      | some ps =>
        rw [hp] at h
        dsimp only at h
        cases hu : uAt S.users (S.sess.getD i ses0).user with
        | none => rw [hu] at h; simp only [Option.some.injEq] at h; subst h; exact .close k6 i hx ps hp rfl rfl rfl (.inl rfl)
        | some j => rw [hu] at h; simp only [Option.some.injEq] at h; subst h; exact .close k6 i hx ps hp rfl rfl rfl (.inr ⟨j, hu, rfl⟩)
  rw [if_neg k6] at h
  by_cases k8 : E.kind = 8
  · rw [if_pos k8] at h
    split at h
    · simp at h; subst h; exact .other (.inl k8) rfl rfl rfl rfl
    · simp at h
  rw [if_neg k8] at h
  by_cases k9 : E.kind = 9
  · rw [if_pos k9] at h
    split at h
    · simp at h
    · simp at h; subst h; exact .other (.inr k9) rfl rfl rfl rfl
  rw [if_neg k9] at h
  cases hu : uAt S.users E.user with
  | none => rw [hu] at h; simp at h
  | some j =>
    rw [hu] at h
    dsimp only at h
    simp only [Option.map_eq_some_iff] at h
    obtain ⟨v, hv, rfl⟩ := h
    have := uTurn_used hv
    exact .turn (by omega) j hu v ⟨this.2, this.1⟩ rfl
end Go.AI

/- Audits: one user's line, plainly. -/
set_option linter.all false
namespace Go.AI
/-- A user's line behind an event. -/
def uStep (C : Cfg) (u : Int) (n : Ln) (sp : Bool) (E : Ev) (T : Sta) : Ln := lnCount C (fun _ => n) sp E T u
def cStep (C : Cfg) (u : Int) (s : Ln × Bool) (E : Ev) (_ T : Sta) : Ln × Bool := (uStep C u s.1 s.2 E T, E.kind == 9)
theorem lnCount_at (C : Cfg) (f : Int → Ln) (sp : Bool) (E : Ev) (T : Sta) (u : Int) : lnCount C f sp E T u = uStep C u (f u) sp E T := by
  have key : ∀ b : Bool, (if b = true then lnLock (lnFail f E.user) E.user else lnFail f E.user) u = (if b = true then lnLock (lnFail (fun _ => f u) E.user) E.user else lnFail (fun _ => f u) E.user) u := fun b => by
    by_cases hu : u = E.user
    · subst hu; cases b <;> simp [lnLock, lnFail, lnUp]
    · cases b <;> simp [lnLock, lnFail, lnUp, hu]
  unfold uStep lnCount
  by_cases h3 : E.kind = 3
  · rw [if_pos h3, if_pos h3]
    by_cases hu : u = E.user
    · subst hu; simp [lnLogin, lnUp]
    · simp [lnLogin, lnUp, hu]
  rw [if_neg h3, if_neg h3]
  by_cases h2 : E.kind = 2
  · rw [if_pos h2, if_pos h2]
    exact key _
  rw [if_neg h2, if_neg h2]
  by_cases h5 : E.kind = 5
  · rw [if_pos h5, if_pos h5]
    by_cases hu : u = E.user
    · subst hu; cases sp <;> simp [lnResume, lnUp]
    · cases sp <;> simp [lnResume, lnUp, hu]
  · rw [if_neg h5, if_neg h5]
theorem uStep_ob (C : Cfg) (u : Int) (n : Ln) (sp : Bool) (E : Ev) (T : Sta) (o b : Int) : uStep C u { n with opn := o, bytes := b } sp E T = { uStep C u n sp E T with opn := o, bytes := b } := by
  have key : ∀ c : Bool, (if c = true then lnLock (lnFail (fun _ => { n with opn := o, bytes := b }) E.user) E.user else lnFail (fun _ => { n with opn := o, bytes := b }) E.user) u = { (if c = true then lnLock (lnFail (fun _ => n) E.user) E.user else lnFail (fun _ => n) E.user) u with opn := o, bytes := b } := fun c => by
    by_cases hu : u = E.user
    · subst hu; cases c <;> simp [lnLock, lnFail, lnUp]
    · cases c <;> simp [lnLock, lnFail, lnUp, hu]
  unfold uStep lnCount
  by_cases h3 : E.kind = 3
  · rw [if_pos h3, if_pos h3]
    by_cases hu : u = E.user
    · subst hu; simp [lnLogin, lnUp]
    · simp [lnLogin, lnUp, hu]
  rw [if_neg h3, if_neg h3]
  by_cases h2 : E.kind = 2
  · rw [if_pos h2, if_pos h2]
    exact key _
  rw [if_neg h2, if_neg h2]
  by_cases h5 : E.kind = 5
  · rw [if_pos h5, if_pos h5]
    by_cases hu : u = E.user
    · subst hu; cases sp <;> simp [lnResume, lnUp]
    · cases sp <;> simp [lnResume, lnUp, hu]
  · rw [if_neg h5, if_neg h5]
/-- A user's count alone, begun at any line, with its other parts. -/
theorem count_alone (C : Cfg) (u : Int) (o b : Int) (es : List Ev) : wAll C (cStep C u) ({ ln0 u with opn := o, bytes := b }, false) es = (wAll C (lnStep C) (ln0, false) es).map fun p => (({ p.1.1 u with opn := o, bytes := b }, p.1.2), p.2) := by
  refine wAll_hom C (lnStep C) (cStep C u) (fun s => ({ s.1 u with opn := o, bytes := b }, s.2)) (fun s E S T => ?_) (ln0, false) es
  unfold lnStep cStep
  dsimp only
  rw [lnCount_at]
  exact congrArg (fun z => (z, E.kind == 9)) (uStep_ob C u (s.1 u) s.2 E T o b).symm
def opnOf (u : Int) (xs : List Ses) (o : Int) : Int := xs.foldl (fun o x => if x.user = u then inc o else o) o
theorem opens_at (u : Int) : ∀ (xs : List Ses) (f : Int → Ln), lnOpens f xs u = { f u with opn := opnOf u xs (f u).opn }
  | [], f => rfl
  | x :: r, f => by
    unfold lnOpens opnOf
    rw [List.foldl_cons, List.foldl_cons]
    have ih := opens_at u r (lnOpen f x.user)
    unfold lnOpens opnOf at ih
    rw [ih]
    by_cases hx : x.user = u
    · subst hx; simp [lnOpen, lnUp]
    · have hx' : ¬ u = x.user := fun h => hx h.symm
      simp [lnOpen, lnUp, hx, hx']
end Go.AI

/- Audits: the document's answers: a user's line. -/
set_option linter.all false
namespace Go.AI
variable {A : Type} {R : Adts A}
def zLn : List AVal := [.int .i64 0, .int .i64 0, .int .i64 0, .int .i64 0, .int .i64 0, .int .i64 0, .int .i64 0]
structure CtI (C : Cfg) (es : List Ev) (h : AHeap A) (u : Int) (F : (Ln × Bool) × Sta) (i : Nat) (n : Ln) (sp : Bool) (S : Sta) (sv : List AVal) (g : AHeap A) : Prop where
  il : i ≤ es.length
  f : ∀ k, k < h.length → g[k]? = h[k]?
  c0 : g[h.length]? = some (.cells t_api_Config C.row)
  c1 : g[h.length + 1]? = some (.cells t_api_Line n.row)
  c2 : g[h.length + 2]? = some (.cells t_api_Line zLn)
  c3 : g[h.length + 3]? = some (.cells t_api_State sv)
  st : IsSta (.agg sv) S
  le : StaLe S (16 + i)
  ok : StaIn S
  us : n.user = u
  spk : sp = true ↔ ∃ j, ∃ hj : j < es.length, i = j + 1 ∧ (es[j]).kind = 9
  run : wRun C (cStep C u) (n, sp) S (es.drop i) = some F
  len : h.length + 4 ≤ g.length
def CtJ (C : Cfg) (es : List Ev) (h : AHeap A) (u : Int) (F : (Ln × Bool) × Sta) (mm : Nat) (y : List AVal) (g : AHeap A) : Prop :=
  ∃ (i : Nat) (n : Ln) (sp : Bool) (S : Sta) (sv : List AVal), y = [.int .i64 i] ∧ CtI C es h u F i n sp S sv g ∧ mm = es.length - i
def CtK (h g : AHeap A) (m : Ln) (l : List AVal) (vs : List AVal) (g2 : AHeap A) : Prop :=
  vs = [] ∧ g2[h.length + 1]? = some (.cells t_api_Line m.row) ∧ g2[h.length + 3]? = some (.cells t_api_State l) ∧ (∀ k, k < g.length → k ≠ h.length + 1 → k ≠ h.length + 3 → g2[k]? = g[k]?) ∧ g.length ≤ g2.length
def CtL (C : Cfg) (u : Int) (n : Ln) (sp : Bool) (E : Ev) (T : Sta) (h g : AHeap A) (vs : List AVal) (g2 : AHeap A) : Prop :=
  ∃ l2, IsSta (.agg l2) T ∧ CtK h g (uStep C u n sp E T) l2 vs g2
theorem uStep_ne (C : Cfg) {u : Int} (n : Ln) (sp : Bool) {E : Ev} (T : Sta) (hu : ¬ u = E.user) : uStep C u n sp E T = n := by
  have key : ∀ c : Bool, (if c = true then lnLock (lnFail (fun _ => n) E.user) E.user else lnFail (fun _ => n) E.user) u = n := fun c => by
    cases c <;> simp [lnLock, lnFail, lnUp, hu]
  unfold uStep lnCount
  by_cases h3 : E.kind = 3
  · rw [if_pos h3]; simp [lnLogin, lnUp, hu]
  rw [if_neg h3]
  by_cases h2 : E.kind = 2
  · rw [if_pos h2]
    exact key _
  rw [if_neg h2]
  by_cases h5 : E.kind = 5
  · rw [if_pos h5]; cases sp <;> simp [lnResume, lnUp, hu]
  · rw [if_neg h5]
theorem uStep_user (C : Cfg) (u : Int) (n : Ln) (sp : Bool) (E : Ev) (T : Sta) : (uStep C u n sp E T).user = n.user := by
  have key : ∀ c : Bool, ((if c = true then lnLock (lnFail (fun _ => n) E.user) E.user else lnFail (fun _ => n) E.user) u).user = n.user := fun c => by
    by_cases hu : u = E.user
    · subst hu; cases c <;> simp [lnLock, lnFail, lnUp]
    · cases c <;> simp [lnLock, lnFail, lnUp, hu]
  unfold uStep lnCount
  by_cases h3 : E.kind = 3
  · rw [if_pos h3]
    by_cases hu : u = E.user
    · subst hu; simp [lnLogin, lnUp]
    · simp [lnLogin, lnUp, hu]
  rw [if_neg h3]
  by_cases h2 : E.kind = 2
  · rw [if_pos h2]
    exact key _
  rw [if_neg h2]
  by_cases h5 : E.kind = 5
  · rw [if_pos h5]
    by_cases hu : u = E.user
    · subst hu; cases sp <;> simp [lnResume, lnUp]
    · cases sp <;> simp [lnResume, lnUp, hu]
  · rw [if_neg h5]
theorem ref20_counted_ok (hR : R.Ok) (C : Cfg) {a : AVal} {es : List Ev} {h : AHeap A} (ha : Rg Ev.row 8 a es h) (hn : es.length ≤ 1048576) (x : Ln) {F : (Ln × Bool) × Sta} (hw : wAll C (cStep C x.user) (x, false) es = some F) {K : AVal → AHeap A → Prop} (hk : ∀ g, Gr h g → K (.agg F.1.1.row) g) : Tri Pr R n_ref20_counted [.agg C.row, .agg x.row, a] h K := by
  have rc : Cfg.row C = [.int .i64 C.sectors, .int .i64 C.halves, .int .i64 C.sessions, .int .i64 C.addresses, .int .i64 C.fails, .int .i64 C.lockout, .int .i64 C.halfLife, .int .i64 C.idle, .int .i64 C.absolute, .int .i64 C.quarantine, .int .i64 C.ticketLife, .int .i64 C.keep] := rfl
  have rx : ∀ n : Ln, n.row = [.int .i64 n.user, .int .i64 n.logins, .int .i64 n.resumes, .int .i64 n.fails, .int .i64 n.locks, .int .i64 n.opn, .int .i64 n.bytes] := fun _ => rfl
  apply c_ref20_counted
  unfold p_ref20_counted
  simp -implicitDefEqProofs [rc, rx, AObj.read]
  refine ref20_NewState_ok hR _ (fun hnew => ?_) (fun S0 sv0 hnew hsv0 => ?_)
  · unfold wAll at hw; rw [hnew] at hw; simp at hw
  obtain ⟨l0, rfl, ll0, ls0, li0⟩ := hsv0.list
  have n0 := sNew_in hnew
  have la : ∀ g, Gr h g → ∀ K, lenP a K = K (.int .i64 es.length) := fun g G => (ha g G).len
  have la0 := la h (Gr.refl h)
  have hw0 : wRun C (cStep C x.user) (x, false) S0 es = some F := by unfold wAll at hw; rw [hnew] at hw; exact hw
  simp -implicitDefEqProofs [ll0, ls0]
  refine loopP_go (CtJ C es h x.user F) es.length (Gives.done (Nat.le_refl _) ⟨0, x, false, S0, l0, rfl, ⟨by omega, fun k hk => List.getElem?_append_left hk, ?_, ?_, ?_, ?_, hsv0, n0.1, n0.2, rfl, by simp, by rw [List.drop_zero]; exact hw0, by simp⟩, by omega⟩) ?_
  · rw [List.getElem?_append_right (Nat.le_refl _), rc]; simp
  · rw [List.getElem?_append_right (by omega)]; simp [rx]
  · rw [List.getElem?_append_right (by omega)]; simp [zLn]
  · rw [List.getElem?_append_right (by omega)]; simp
  rintro mm y g ⟨i, n, sp, S, sv, rfl, W, rfl⟩
  have hil := W.il
  have hlen := W.len
  have G : Gr h g := ⟨W.f, by omega⟩
  obtain ⟨lv, hlv, ll, lsc, lix⟩ := W.st.list
  obtain rfl : sv = lv := by simpa using hlv
  have c0 := W.c0
  have c1 := W.c1
  have c2 := W.c2
  have c3 := W.c3
  rw [rc] at c0
  rw [rx] at c1
  unfold zLn at c2
  have le1 : StaLe S 2000000 := W.le.mono (by omega)
  have tk : sv.take 7 = sv := List.take_of_length_le (by omega)
  have hrun := W.run
  by_cases h1 : i < es.length
  · have h1' : (i : Int) < es.length := by omega
    have hdr : es.drop i = es[i] :: es.drop (i + 1) := List.drop_eq_getElem_cons h1
    rw [hdr, wRun] at hrun
    have he : (sApply C S es[i]).2 = 0 := by
      by_cases h9 : (sApply C S es[i]).2 = 0
      · exact h9
      · rw [if_neg h9] at hrun; simp at hrun
    rw [if_pos he] at hrun
    have ok1 := sApply_ok he
    have T1 := sDoes_keeps ok1.1 W.le W.ok (evIn ok1.2.1)
    have wi := w64 (n := (i : Int) + 1) (by omega)
    have ev : ∀ g, Gr h g → ∃ pe, (∀ K, idxP 8 a (.int .i64 i) K = K pe) ∧ At pe es[i].row g := fun g G => (ha g G).get i h1
    obtain ⟨pe, hpe, hat⟩ := ev g G
    have hall : ldV 8 true pe g = some (.agg es[i].row) := hat.all
    simp -implicitDefEqProofs [la0, h1']
    obtain ⟨T, hT⟩ : ∃ T, T = (sApply C S es[i]).1 := ⟨_, rfl⟩
    refine joinP_all (CtL C x.user n sp es[i] T h g) ?_ ?_
    · refine joinP_all (RtW C S es[i] g) ?_ ?_
      · have c0a : ∀ o : AObj A, (g ++ [o] : AHeap A)[h.length]? = _ := fun o => get_app c0
        have c3a : ∀ o : AObj A, (g ++ [o] : AHeap A)[h.length + 3]? = _ := fun o => get_app c3
        have hall3 : ∀ o : AObj A, ldV 8 true pe (g ++ [o]) = some (.agg es[i].row) := fun o => by
          obtain ⟨p', hp', ha'⟩ := ev (g ++ [o]) (G.trans (Gr.app g _))
          obtain rfl := idx_uniq hp' hpe
          exact ha'.all
        simp -implicitDefEqProofs [hpe, c0, c3, hall, AObj.read, c0a, c3a, hall3, ll, tk]
        refine ⟨?_, ?_⟩
        · refine ref20_Apply_ok hR C W.st le1 W.ok es[i] fun sv' hsv' => ?_
          obtain ⟨l', rfl, q1, q2, q3⟩ := hsv'.list
          simp -implicitDefEqProofs [q1, q2]
          exact ⟨l', rfl, rfl, hsv'⟩
        · refine ref20_Apply_ok hR C W.st le1 W.ok es[i] fun sv' hsv' => ?_
          obtain ⟨l', rfl, q1, q2, q3⟩ := hsv'.list
          simp -implicitDefEqProofs [q1, q2]
          exact ⟨l', rfl, rfl, hsv'⟩
      · rintro _ _ ⟨l2, rfl, rfl, hsv'⟩
        refine ⟨by simp, ?_⟩
        rw [← hT] at hsv'
        obtain ⟨l3, hl3, q1, q2, q3⟩ := hsv'.list
        obtain rfl : l2 = l3 := by simpa using hl3
        have tk' : l2.take 7 = l2 := List.take_of_length_le (by omega)
        have c3a : ∀ o : AObj A, (g ++ [o] : AHeap A)[h.length + 3]? = _ := fun o => get_app c3
        obtain ⟨gS, hgS⟩ : ∃ gS, gS = (g ++ [AObj.cells t_api_State l2]).set (h.length + 3) (.cells t_api_State (l2 ++ sv.drop 7)) := ⟨_, rfl⟩
        have hd7 : l2 ++ sv.drop 7 = l2 := by rw [List.drop_of_length_le (by omega), List.append_nil]
        have c1a : ∀ o : AObj A, (g ++ [o] : AHeap A)[h.length + 1]? = _ := fun o => get_app c1
        have c0a : ∀ o : AObj A, (g ++ [o] : AHeap A)[h.length]? = _ := fun o => get_app c0
        have sl : gS.length = g.length + 1 := by rw [hgS]; simp
        have sk : ∀ k, k < g.length → k ≠ h.length + 3 → gS[k]? = g[k]? := fun k hk hne => by rw [hgS, List.getElem?_set_ne (Ne.symm hne), List.getElem?_append_left hk]
        have s3 : gS[h.length + 3]? = some (.cells t_api_State l2) := by rw [hgS, hd7]; exact List.getElem?_set_self (by simp; omega)
        have s0 := (sk h.length (by omega) (by omega)).trans c0
        have s1 := (sk (h.length + 1) (by omega) (by omega)).trans c1
        have GS : Gr h gS := ⟨fun k hk => (sk k (by omega) (by omega)).trans (W.f k hk), by omega⟩
        obtain ⟨pe3, hpe3, hat3⟩ := ev gS GS
        obtain rfl := idx_uniq hpe hpe3
        have v0 : ldV 1 false (pe.fad 0) gS = some (.int .i64 es[i].kind) := hat3.cell 0 (by simp [Ev.row])
        have v1 : ldV 1 false (pe.fad 1) gS = some (.int .i64 es[i].user) := hat3.cell 1 (by simp [Ev.row])
        have us := W.us
        have fin : ∀ (m : Ln) (g' : AHeap A), uStep C x.user n sp es[i] T = m → g'[h.length + 1]? = some (.cells t_api_Line m.row) → (∀ k, k < gS.length → k ≠ h.length + 1 → g'[k]? = gS[k]?) → gS.length ≤ g'.length → CtL C x.user n sp es[i] T h g [] g' := fun m g' hm d1 fr ln => ⟨l2, hsv', rfl, by rw [hm]; exact d1, (fr (h.length + 3) (by omega) (by omega)).trans s3, fun k hk h5 h6 => (fr k (by omega) h5).trans (sk k hk h6), by omega⟩
        simp -implicitDefEqProofs [AObj.read, q1, tk', c3a, q2, ll]
        rw [← hgS]
        have gl1 : g.length ≤ gS.length := by omega
        by_cases hu : es[i].user = n.user
        · have hu' : (es[i].user != n.user) = false := by simpa using hu
          have hxu : es[i].user = x.user := by rw [hu, us]
          have setk : ∀ o k, k < gS.length → k ≠ h.length + 1 → (gS.set (h.length + 1) o)[k]? = gS[k]? := fun o k _ hk => List.getElem?_set_ne (Ne.symm hk)
          have set1 : ∀ o, (gS.set (h.length + 1) o)[h.length + 1]? = some o := fun o => List.getElem?_set_self (by omega)
          by_cases k3 : es[i].kind = 3
          · have k3' : (es[i].kind == 3) = true := by simpa using k3
            simp -implicitDefEqProofs [hpe, hat3.nn, hat3.fad, v0, v1, s1, c1a, AObj.read, hu', k3']
            have hm : uStep C x.user n sp es[i] T = { n with logins := inc n.logins } := by
              unfold uStep lnCount; rw [if_pos k3]; simp [lnLogin, lnUp, hxu]
            exact fin _ _ hm (set1 _) (setk _) (by rw [List.length_set]; exact Nat.le_refl _)
          have k3' : (es[i].kind == 3) = false := by simpa using k3
          by_cases k2 : es[i].kind = 2
          · have k2' : (es[i].kind == 2) = true := by simpa using k2
            obtain ⟨j, hj⟩ := fail_user he k2
            rw [← hT] at hj
            have hjl := uAt_lt hj
            have hjn : uAt T.users n.user = some j := by rw [← hu]; exact hj
            obtain ⟨u2, x2, a2, p2, hl2, hu2, hx2, ha2, hp2⟩ := hsv'
            have hl2' : l2 = [.int .i64 T.boots, .int .i64 T.epoch, .int .i64 T.next, u2, x2, a2, p2] := by simpa using hl2
            have rs3 : ∀ o, (gS.set (h.length + 1) o)[h.length + 3]? = some (.cells t_api_State [.int .i64 T.boots, .int .i64 T.epoch, .int .i64 T.next, u2, x2, a2, p2]) := fun o => by rw [List.getElem?_set_ne (by omega), s3, hl2']
            have rs0 : ∀ o, (gS.set (h.length + 1) o)[h.length]? = _ := fun o => (List.getElem?_set_ne (by omega)).trans s0
            have hTle : T.users.length ≤ 2000000 := by rw [hT]; have := T1.1.u; omega
            simp -implicitDefEqProofs [hpe, hat3.nn, hat3.fad, v0, v1, s1, c1a, AObj.read, hu', k3', k2', rs3, rs0, set1]
            obtain ⟨m1, hm1⟩ : ∃ m1 : Ln, m1 = { n with fails := inc n.fails } := ⟨_, rfl⟩
            have hm : uStep C x.user n sp es[i] T = if (T.users[j]).fails = C.fails then { m1 with locks := inc n.locks } else m1 := by
              unfold uStep lnCount
              rw [if_neg k3, if_pos k2, hj]
              simp only [usr_get hjl]
              by_cases hf : (T.users[j]).fails = C.fails
              · simp [hf, lnLock, lnFail, lnUp, hxu, hm1]
              · simp [hf, lnFail, lnUp, hxu, hm1]
            obtain ⟨gF, hgF⟩ : ∃ gF, gF = gS.set (h.length + 1) (.cells t_api_Line m1.row) := ⟨_, rfl⟩
            have GF : Gr h gF := ⟨fun k hk => by rw [hgF, List.getElem?_set_ne (by omega)]; exact GS.k k hk, by rw [hgF]; have := GS.l; simpa using this⟩
            have lF : gF.length = gS.length := by rw [hgF]; simp
            have eF : gS.set (h.length + 1) (AObj.cells t_api_Line [.int .i64 n.user, .int .i64 n.logins, .int .i64 n.resumes, .int .i64 (IntKind.i64.wrap (n.fails + 1)), .int .i64 n.locks, .int .i64 n.opn, .int .i64 n.bytes]) = gF := by rw [hgF, hm1]; rfl
            rw [eF]
            have w0 : gF[h.length]? = some (.cells t_api_Config [.int .i64 C.sectors, .int .i64 C.halves, .int .i64 C.sessions, .int .i64 C.addresses, .int .i64 C.fails, .int .i64 C.lockout, .int .i64 C.halfLife, .int .i64 C.idle, .int .i64 C.absolute, .int .i64 C.quarantine, .int .i64 C.ticketLife, .int .i64 C.keep]) := by rw [hgF]; exact rs0 _
            have w3 : gF[h.length + 3]? = some (.cells t_api_State [.int .i64 T.boots, .int .i64 T.epoch, .int .i64 T.next, u2, x2, a2, p2]) := by rw [hgF]; exact rs3 _
            have w1 : gF[h.length + 1]? = some (.cells t_api_Line m1.row) := by rw [hgF]; exact set1 _
            have wk : ∀ k, k < gS.length → k ≠ h.length + 1 → gF[k]? = gS[k]? := fun k _ hk => by rw [hgF]; exact List.getElem?_set_ne (Ne.symm hk)
            refine ref20_UserAt_ok hR hu2.sc hx2.sc ha2.sc hp2.sc (Rg.fz usrR hu2 _) hTle n.user fun g4 G4 => ?_
            rw [hjn]
            have l4 := G4.l
            have y0 := G4.get w0
            have y1 := G4.get w1
            have y3 := G4.get w3
            obtain ⟨pp, hpp, hatp⟩ := (hu2.rd usrR g4).get j hjl
            have pf : ldV 1 false (pp.fad 5) g4 = some (.int .i64 (T.users[j]).fails) := hatp.cell 5 (by simp [Usr.row])
            have ij : idx1 (some j) = (j : Int) := rfl
            have kk : ∀ k, k < gS.length → k ≠ h.length + 1 → g4[k]? = gS[k]? := fun k hk hne => (G4.k k (by omega)).trans (wk k hk hne)
            by_cases hf : (T.users[j]).fails = C.fails
            · have hf' : ((T.users[j]).fails == C.fails) = true := by simpa using hf
              rw [if_pos hf] at hm
              have y1' := y1
              rw [rx] at y1'
              simp -implicitDefEqProofs [ij, y0, y3, y1', AObj.read, hpp, hatp.fad, hatp.fad2, pf, hf']
              have lk : m1.locks = n.locks := by rw [hm1]
              rw [← lk] at hm
              exact fin _ (g4.set (h.length + 1) (.cells t_api_Line ({ m1 with locks := inc m1.locks } : Ln).row)) hm (List.getElem?_set_self (by omega)) (fun k hk hne => by rw [List.getElem?_set_ne (Ne.symm hne)]; exact kk k hk hne) (by rw [List.length_set]; omega)
            · have hf' : ((T.users[j]).fails == C.fails) = false := by simpa using hf
              rw [if_neg hf] at hm
              simp -implicitDefEqProofs [ij, y0, y3, AObj.read, hpp, hatp.fad, hatp.fad2, pf, hf']
              exact fin m1 g4 hm y1 kk (by omega)
          have k2' : (es[i].kind == 2) = false := by simpa using k2
          by_cases k5 : es[i].kind = 5
          · have k5' : (es[i].kind == 5) = true := by simpa using k5
            have hm : uStep C x.user n sp es[i] T = if sp = true then { n with resumes := inc n.resumes } else n := by
              unfold uStep lnCount; rw [if_neg k3, if_neg k2, if_pos k5]
              cases sp <;> simp [lnResume, lnUp, hxu]
            by_cases i0 : i = 0
            · have hsp : sp = false := by
                cases hb : sp with
                | false => rfl
                | true => obtain ⟨j, _, hj, _⟩ := W.spk.1 hb; omega
              have i0' : ¬ 0 < i := by omega
              rw [hsp] at hm
              simp -implicitDefEqProofs [hpe, hat3.nn, hat3.fad, v0, v1, s1, c1a, AObj.read, hu', k3', k2', k5', i0']
              exact fin n gS (by rw [hsp]; simpa using hm) s1 (fun _ _ _ => rfl) (Nat.le_refl _)
            · have i0' : 0 < i := by omega
              obtain ⟨m, hm0⟩ : ∃ m, i = m + 1 := ⟨i - 1, by omega⟩
              have hml : m < es.length := by omega
              have wm : IntKind.i64.wrap ((i : Int) - 1) = (m : Int) := by rw [w64 (by omega)]; omega
              obtain ⟨pm, hpm, hatm⟩ := (ha gS GS).get m hml
              have vm : ldV 1 false (pm.fad 0) gS = some (.int .i64 (es[m]).kind) := hatm.cell 0 (by simp [Ev.row])
              by_cases k9 : (es[m]).kind = 9
              · have k9' : ((es[m]).kind == 9) = true := by simpa using k9
                have hsp : sp = true := W.spk.2 ⟨m, hml, hm0, k9⟩
                rw [hsp, if_pos rfl] at hm
                simp -implicitDefEqProofs [hpe, hat3.nn, hat3.fad, v0, v1, s1, c1a, AObj.read, hu', k3', k2', k5', i0', wm, hpm, hatm.fad, vm, k9']
                exact fin { n with resumes := inc n.resumes } _ (by rw [hsp]; exact hm) (set1 _) (setk _) (by rw [List.length_set]; exact Nat.le_refl _)
              · have k9' : ((es[m]).kind == 9) = false := by simpa using k9
                have hsp : sp = false := by
                  cases hb : sp with
                  | false => rfl
                  | true =>
                    obtain ⟨j, hj1, hj, hj9⟩ := W.spk.1 hb
                    obtain rfl : m = j := by omega
                    exact absurd hj9 k9
                rw [hsp] at hm
                simp -implicitDefEqProofs [hpe, hat3.nn, hat3.fad, v0, v1, s1, c1a, AObj.read, hu', k3', k2', k5', i0', wm, hpm, hatm.fad, vm, k9']
                exact fin n gS (by rw [hsp]; simpa using hm) s1 (fun _ _ _ => rfl) (Nat.le_refl _)
          have k5' : (es[i].kind == 5) = false := by simpa using k5
          have hm : uStep C x.user n sp es[i] T = n := by
            unfold uStep lnCount; rw [if_neg k3, if_neg k2, if_neg k5]
          simp -implicitDefEqProofs [hpe, hat3.nn, hat3.fad, v0, v1, s1, c1a, AObj.read, hu', k3', k2', k5']
          exact fin n gS hm s1 (fun _ _ _ => rfl) (Nat.le_refl _)
        · have hu' : (es[i].user != n.user) = true := by simpa using hu
          have hxu : ¬ x.user = es[i].user := by rw [← us]; exact fun h9 => hu h9.symm
          simp -implicitDefEqProofs [hpe, hat3.nn, hat3.fad, v1, s1, c1a, AObj.read, hu']
          have := fin n gS (uStep_ne C n sp T hxu) s1 (fun _ _ _ => rfl) (Nat.le_refl _)
          exact this
    · rintro _ g2 ⟨l2, hst, rfl, e1, e3, fr, ln⟩
      refine ⟨ln, ?_⟩
      simp -implicitDefEqProofs [wi]
      refine Gives.done (by omega) ⟨es.length - (i + 1), by omega, i + 1, uStep C x.user n sp es[i] T, es[i].kind == 9, T, l2, by simp, ⟨by omega, fun k hk => ?_, ?_, e1, ?_, e3, hst, ?_, ?_, ?_, ?_, ?_, by omega⟩, rfl⟩
      · rw [fr k (by omega) (by omega) (by omega)]; exact W.f k hk
      · rw [fr _ (by omega) (by omega) (by omega)]; exact W.c0
      · rw [fr _ (by omega) (by omega) (by omega)]; exact W.c2
      · rw [hT]; exact T1.1.mono (by omega)
      · rw [hT]; exact T1.2
      · rw [uStep_user]; exact W.us
      · constructor
        · intro h9
          exact ⟨i, h1, rfl, by simpa using h9⟩
        · rintro ⟨j, hj, hji, h9⟩
          obtain rfl : i = j := by omega
          simpa using h9
      · rw [hT]; exact hrun
  · have h1' : ¬ (i : Int) < es.length := by omega
    have hie : i = es.length := by omega
    rw [hie, List.drop_length, wRun] at hrun
    have r2 : ∀ o, (g.set (h.length + 2) o)[h.length + 2]? = some o := fun o => List.getElem?_set_self (by omega)
    simp -implicitDefEqProofs [la0, h1', c1, c2, AObj.read, r2]
    have := hk (g.set (h.length + 2) (.cells t_api_Line n.row)) ⟨fun k hk => by rw [List.getElem?_set_ne (by omega)]; exact W.f k hk, by simp; omega⟩
    rw [← Option.some.inj hrun] at this
    exact this
end Go.AI

/- Audits: a user's line, alone and among all. -/
set_option linter.all false
namespace Go.AI
theorem count_plain (C : Cfg) (u : Int) (es : List Ev) : wAll C (cStep C u) (ln0 u, false) es = (wAll C (lnStep C) (ln0, false) es).map fun p => ((p.1.1 u, p.1.2), p.2) := by
  refine wAll_hom C (lnStep C) (cStep C u) (fun s => (s.1 u, s.2)) (fun s E S T => ?_) (ln0, false) es
  unfold lnStep cStep
  dsimp only
  rw [lnCount_at]
theorem count_zero {C : Cfg} {es : List Ev} {s : (Int → Ln) × Bool} {S : Sta} (h : wAll C (lnStep C) (ln0, false) es = some (s, S)) (u : Int) : (s.1 u).opn = 0 := by
  have h1 := count_plain C u es
  have h2 := count_alone C u 0 0 es
  rw [show ({ ln0 u with opn := 0, bytes := 0 } : Ln) = ln0 u from rfl, h1, h] at h2
  simp at h2
  have := congrArg Ln.opn h2
  simpa using this
theorem line_alone {C : Cfg} {es : List Ev} {s : (Int → Ln) × Bool} {S : Sta} (h : wAll C (lnStep C) (ln0, false) es = some (s, S)) (u b : Int) : wAll C (cStep C u) ({ ln0 u with opn := opnOf u S.sess 0, bytes := b }, false) es = some (({ lnOpens s.1 S.sess u with bytes := b }, s.2), S) := by
  rw [count_alone, h, opens_at, count_zero h u]
  rfl
end Go.AI

/- Audits: the document's answers: Lines. -/
set_option linter.all false
namespace Go.AI
variable {A : Type} {R : Adts A}
theorem opnOf_succ (u : Int) (xs : List Ses) {j : Nat} (hj : j < xs.length) : opnOf u (xs.take (j + 1)) 0 = if (xs[j]).user = u then inc (opnOf u (xs.take j) 0) else opnOf u (xs.take j) 0 := by
  rw [List.take_succ_eq_append_getElem hj]
  unfold opnOf
  rw [List.foldl_append]
  rfl
theorem lnOut_succ (f : Int → Ln) (us : List Usr) {i : Nat} (hi : i < us.length) : lnOut f (us.take (i + 1)) = lnOut f (us.take i) ++ [{ f (us[i]).user with bytes := (us[i]).used }] := by
  rw [List.take_succ_eq_append_getElem hi, lnOut, lnOut, List.map_append]; rfl
def LiI (f : Int → Ln) (us : List Usr) (b : AHeap A) (mm : Nat) (y : List AVal) (g : AHeap A) : Prop :=
  ∃ (i : Nat) (av : AVal), y = [av, .int .i64 i] ∧ i ≤ us.length ∧ Own Ln.row 7 t_api_Line av (lnOut f (us.take i)) g ∧ (∀ k, av.blk = some k → b.length ≤ k) ∧ (∀ k, k < b.length → g[k]? = b[k]?) ∧ b.length ≤ g.length ∧ mm = us.length - i
def LiJ (u : Usr) (xs : List Ses) (H : AHeap A) (mm : Nat) (y : List AVal) (g : AHeap A) : Prop :=
  ∃ j : Nat, y = [.int .i64 j] ∧ j ≤ xs.length ∧ g = H ++ [.cells t_api_User u.row, .cells t_api_Line (Ln.row { ln0 u.user with opn := opnOf u.user (xs.take j) 0, bytes := u.used })] ∧ mm = xs.length - j
theorem ref20_Lines_ok (hR : R.Ok) (C : Cfg) {a : AVal} {es : List Ev} {h : AHeap A} (ha : Rg Ev.row 8 a es h) (hn : es.length ≤ 1048576) {K : AVal → AHeap A → Prop}
    (hk0 : aLines C es = none → ∀ g, Gr h g → K (.tup [.nils, .int .i64 2500]) g)
    (hk1 : ∀ o, aLines C es = some o → ∀ x g, Own Ln.row 7 t_api_Line x o g → (∀ b, x.blk = some b → h.length ≤ b) → Gr h g → K (.tup [x, .int .i64 0]) g) : Tri Pr R n_ref20_Lines [.agg C.row, a] h K := by
  have rc : Cfg.row C = [.int .i64 C.sectors, .int .i64 C.halves, .int .i64 C.sessions, .int .i64 C.addresses, .int .i64 C.fails, .int .i64 C.lockout, .int .i64 C.halfLife, .int .i64 C.idle, .int .i64 C.absolute, .int .i64 C.quarantine, .int .i64 C.ticketLife, .int .i64 C.keep] := rfl
  have hsnd := wAll_snd C (lnStep C) (ln0, false) es
  apply c_ref20_Lines
  unfold p_ref20_Lines
  simp -implicitDefEqProofs [rc, AObj.read]
  rw [← rc]
  refine ref20_All_ok hR C (ha.gr (Gr.app h _)) hn (fun S sv g hS hsv hle G => ?_) (fun hS er g her G => ?_)
  case refine_2 =>
    rw [hS] at hsnd
    have e : aLines C es = none := by
      unfold aLines
      cases hw : wAll C (lnStep C) (ln0, false) es with
      | none => rfl
      | some p => rw [hw] at hsnd; simp at hsnd
    have her' : (er != 0) = true := by simpa using her
    unfold zSta
    simp -implicitDefEqProofs [AObj.read, her']
    exact hk0 e _ (((Gr.app h _).trans G).trans (Gr.app g _))
  rw [hS] at hsnd
  cases hw : wAll C (lnStep C) (ln0, false) es with
  | none => rw [hw] at hsnd; simp at hsnd
  | some pr =>
  obtain ⟨s, SE⟩ := pr
  rw [hw] at hsnd
  simp at hsnd
  subst hsnd
  have e : aLines C es = some (lnOut (lnOpens s.1 SE.sess) SE.users) := by unfold aLines; rw [hw]; rfl
  have Gh := (Gr.app h _).trans G
  have c0 : g[h.length]? = some (.cells t_api_Config C.row) := G.get (by rw [List.getElem?_append_right (Nat.le_refl _)]; simp)
  obtain ⟨u, x, ad', p, rfl, hu, hx, had, hp⟩ := hsv
  have s1 := hu.sc
  have s2 := hx.sc
  have s3 := had.sc
  have s4 := hp.sc
  simp -implicitDefEqProofs [s1, s2, s3, s4, AObj.read]
  obtain ⟨b, hb⟩ : ∃ b, b = g ++ [AObj.cells t_api_State [.int .i64 SE.boots, .int .i64 SE.epoch, .int .i64 SE.next, u, x, ad', p]] := ⟨_, rfl⟩
  have bl : b.length = g.length + 1 := by rw [hb]; simp
  have Gb : Gr h b := Gh.trans (by rw [hb]; exact Gr.app _ _)
  have gl := G.l
  rw [List.length_append, List.length_singleton] at gl
  have cb : b[h.length]? = some (.cells t_api_Config C.row) := by rw [hb]; exact get_app c0
  have cq : b[g.length]? = some (.cells t_api_State [.int .i64 SE.boots, .int .i64 SE.epoch, .int .i64 SE.next, u, x, ad', p]) := by rw [hb]; simp
  rw [← hb]
  refine loopP_go (LiI (lnOpens s.1 SE.sess) SE.users b) SE.users.length (Gives.done (Nat.le_refl _) ⟨0, .nils, rfl, by omega, Own.nil, fun k hk => by simp [AVal.blk] at hk, fun _ _ => rfl, Nat.le_refl _, by omega⟩) ?_
  rintro mm y H ⟨i, av, rfl, hi, ov, ovb, kH, lH, rfl⟩
  have GH : Gr h H := ⟨fun k hk => (kH k (by omega)).trans (Gb.k k hk), by omega⟩
  have q1 := (kH g.length (by omega)).trans cq
  have lu := (hu.rd usrR H).len
  have wi := w64 (n := (i : Int) + 1) (by have := hle.u; omega)
  by_cases h1 : i < SE.users.length
  · have h1' : (i : Int) < SE.users.length := by omega
    obtain ⟨pp, hpp, hat⟩ := (hu.rd usrR H).get i h1
    have hall : ldV 9 true pp H = some (.agg (SE.users[i]).row) := hat.all
    unfold Usr.row at hall
    simp -implicitDefEqProofs [q1, AObj.read, lu, h1', hpp, hall, rp9]
    refine loopP_go (LiJ SE.users[i] SE.sess H) SE.sess.length (Gives.done (Nat.le_refl _) ⟨0, rfl, by omega, rfl, by omega⟩) ?_
    rintro mm y gj ⟨j, rfl, hj, rfl, rfl⟩
    have wj := w64 (n := (j : Int) + 1) (by have := hle.x; omega)
    have q1' : ∀ g' : AHeap A, (H ++ g')[g.length]? = some (.cells t_api_State [.int .i64 SE.boots, .int .i64 SE.epoch, .int .i64 SE.next, u, x, ad', p]) := fun g' => get_app q1
    have lx := (hx.rd sesR H).len
    have u0 : ∀ o : AObj A, (H ++ [AObj.cells t_api_User (SE.users[i]).row, o] : AHeap A)[H.length]? = some (.cells t_api_User (SE.users[i]).row) := fun o => by simp
    have u1 : ∀ o : AObj A, (H ++ [AObj.cells t_api_User (SE.users[i]).row, o] : AHeap A)[H.length + 1]? = some o := fun o => by rw [List.getElem?_append_right (by omega)]; simp
    by_cases h2 : j < SE.sess.length
    · have h2' : (j : Int) < SE.sess.length := by omega
      obtain ⟨ps, hps, hats⟩ := (hx.rd sesR (H ++ [AObj.cells t_api_User (SE.users[i]).row, .cells t_api_Line (Ln.row { ln0 (SE.users[i]).user with opn := opnOf (SE.users[i]).user (SE.sess.take j) 0, bytes := (SE.users[i]).used })])).get j h2
      have v1 : ldV 1 false (ps.fad 1) (H ++ [AObj.cells t_api_User (SE.users[i]).row, .cells t_api_Line (Ln.row { ln0 (SE.users[i]).user with opn := opnOf (SE.users[i]).user (SE.sess.take j) 0, bytes := (SE.users[i]).used })]) = some (.int .i64 (SE.sess[j]).user) := hats.cell 1 (by simp [Ses.row])
      have os := opnOf_succ (SE.users[i]).user SE.sess h2
      simp -implicitDefEqProofs [q1', AObj.read, lx, h2']
      refine joinP_go ?_
      by_cases h3 : (SE.sess[j]).user = (SE.users[i]).user
      · have h3' : ((SE.sess[j]).user == (SE.users[i]).user) = true := by simpa using h3
        rw [if_pos h3] at os
        simp only [Usr.row, Ln.row, ln0] at v1
        simp -implicitDefEqProofs [q1', AObj.read, hps, hats.fad, v1, h3', wj, Usr.row, Ln.row, ln0]
        exact Gives.done (by simp) ⟨SE.sess.length - (j + 1), by omega, j + 1, by simp, by omega, by rw [os]; rfl, rfl⟩
      · have h3' : ((SE.sess[j]).user == (SE.users[i]).user) = false := by simpa using h3
        rw [if_neg h3] at os
        simp only [Usr.row, Ln.row, ln0] at v1
        simp -implicitDefEqProofs [q1', AObj.read, hps, hats.fad, v1, h3', wj, Usr.row, Ln.row, ln0]
        exact Gives.done (by simp) ⟨SE.sess.length - (j + 1), by omega, j + 1, by simp, by omega, by rw [os]; rfl, rfl⟩
    · have h2' : ¬ (j : Int) < SE.sess.length := by omega
      have hje : SE.sess.take j = SE.sess := List.take_of_length_le (by omega)
      rw [hje]
      obtain ⟨nx, hnx⟩ : ∃ nx : Ln, nx = { ln0 (SE.users[i]).user with opn := opnOf (SE.users[i]).user SE.sess 0, bytes := (SE.users[i]).used } := ⟨_, rfl⟩
      rw [← hnx]
      obtain ⟨H2, hH2⟩ : ∃ H2, H2 = H ++ [AObj.cells t_api_User (SE.users[i]).row, .cells t_api_Line nx.row] := ⟨_, rfl⟩
      have G2 : Gr H H2 := by rw [hH2]; exact Gr.app H _
      have e1 := G2.get q1
      have e0 : H2[h.length]? = some (.cells t_api_Config C.row) := G2.get ((kH h.length (by omega)).trans cb)
      have e2 : H2[H.length + 1]? = some (.cells t_api_Line nx.row) := by rw [hH2]; exact u1 _
      have rx : ∀ n : Ln, n.row = [.int .i64 n.user, .int .i64 n.logins, .int .i64 n.resumes, .int .i64 n.fails, .int .i64 n.locks, .int .i64 n.opn, .int .i64 n.bytes] := fun _ => rfl
      have al := line_alone hw (SE.users[i]).user (SE.users[i]).used
      rw [← hnx] at al
      have nu : nx.user = (SE.users[i]).user := by rw [hnx]; rfl
      rw [← nu] at al
      rw [← hH2]
      rw [rc] at e0
      rw [rx] at e2
      simp -implicitDefEqProofs [e0, e1, e2, AObj.read, lx, h2']
      rw [← rc, ← rx]
      refine ref20_counted_ok hR C (ha.gr (GH.trans G2)) hn nx al fun g5 G5 => ?_
      obtain ⟨ny, hny⟩ : ∃ ny : Ln, ny = { lnOpens s.1 SE.sess nx.user with bytes := (SE.users[i]).used } := ⟨_, rfl⟩
      rw [show ((({ lnOpens s.1 SE.sess nx.user with bytes := (SE.users[i]).used } : Ln), s.2), SE).1.1 = ny from hny.symm, rx]
      simp -implicitDefEqProofs [wi]
      rw [← rx]
      have GG := G2.trans G5
      have gg := GG.l
      refine app_one lnR (ov.gr GG) (by decide) ny (by simp [lnOut]; have := hle.u; omega) fun a' h' p1 p2 p3 p4 => ?_
      refine Gives.done (by omega) ⟨SE.users.length - (i + 1), by omega, i + 1, a', by simp, by omega, by rw [lnOut_succ _ _ h1, ← nu, ← hny]; exact p1, fun k hk => ?_, fun k hk => ?_, by omega, rfl⟩
      · rcases p4 k hk with h9 | h9
        · exact ovb k h9
        · omega
      · rw [p2 k (by omega) (fun h9 => by have := ovb k h9; omega), GG.k k (by omega)]; exact kH k hk
  · have h1' : ¬ (i : Int) < SE.users.length := by omega
    have hie : SE.users.take i = SE.users := List.take_of_length_le (by omega)
    rw [hie] at ov
    simp -implicitDefEqProofs [q1, AObj.read, lu, h1']
    exact hk1 _ e av H ov (fun k hk => by have := ovb k hk; omega) GH
end Go.AI

/- Audits: lines that are written over. -/
set_option linter.all false
namespace Go.AI
variable {A : Type} {R : Adts A}
def SplI (x : AVal) (n : Nat) (h : AHeap A) (mm : Nat) (y : List AVal) (g : AHeap A) : Prop :=
  ∃ (i : Nat) (l : List Ln), y = [.int .i64 i] ∧ i ≤ n ∧ l.length = n ∧ Own Ln.row 7 t_api_Line x l g ∧ (∀ k, x.blk ≠ some k → g[k]? = h[k]?) ∧ g.length = h.length ∧ mm = n - i
theorem law0_SpoilLines_ok {x : AVal} {l : List Ln} {h : AHeap A} (ov : Own Ln.row 7 t_api_Line x l h) (hn : l.length ≤ 2000000) {K : AVal → AHeap A → Prop} (hk : ∀ g, (∀ k, x.blk ≠ some k → g[k]? = h[k]?) → g.length = h.length → K (.tup []) g) : Tri Pr R n_law0_SpoilLines [x] h K := by
  apply c_law0_SpoilLines
  unfold p_law0_SpoilLines
  refine loopP_go (SplI x l.length h) l.length (Gives.done (Nat.le_refl _) ⟨0, l, rfl, by omega, rfl, ov, fun _ _ => rfl, rfl, by omega⟩) ?_
  rintro mm y g ⟨i, l2, rfl, hi, hl2, o2, fr, ln, rfl⟩
  have rd := o2.rd lnR
  have lx := rd.len
  have wi := w64 (n := (i : Int) + 1) (by omega)
  by_cases h1 : i < l2.length
  · have h1' : (i : Int) < l2.length := by omega
    obtain ⟨b, hb, hix, hat⟩ := o2.el lnR h1
    have v6 : ldV 1 false (.ptr b (i * 7 + 6)) g = some (.int .i64 (l2[i]).bytes) := hat.cell 6 (by simp [Ln.row])
    have v6' : (g[b]?.bind AObj.read).bind (fun cs => cs[i * 7 + 6]?) = some (.int .i64 (l2[i]).bytes) := by simpa using v6
    simp -implicitDefEqProofs [lx, h1', hix, AObj.read, v6']
    refine o2.sth lnR h1 hb (off := 6) (o := i * 7 + 6) (c := [.int .i64 (bits .i64 (fun x1 x2 => x1 ^^^ x2) (l2[i]).bytes 90)]) { l2[i] with bytes := bits .i64 (fun x1 x2 => x1 ^^^ x2) (l2[i]).bytes 90 } rfl (by simp) rfl rfl fun h2 own2 f2 n2 => ?_
    simp -implicitDefEqProofs [wi]
    exact Gives.done (by omega) ⟨l.length - (i + 1), by omega, i + 1, _, by simp, by omega, by simp [hl2], own2, fun k hk => (f2 k fun h9 => hk (h9 ▸ hb)).trans (fr k hk), by omega, rfl⟩
  · have h1' : ¬ (i : Int) < l2.length := by omega
    simp -implicitDefEqProofs [lx, h1']
    exact hk g fr ln
end Go.AI

/- A disk: its lists as one object. -/
set_option linter.all false
namespace Go.AI
variable {A : Type} {R : Adts A}
/-- Writes that wait: sector, bytes. -/
abbrev Ws := List (Int × Bs)
def wCells (ws : Ws) : List AVal := ws.flatMap fun w => [.int .i64 w.1, .str w.2]
/-- What holds of a disk. -/
structure dOk (kept : List Bs) (ws : Ws) : Prop where
  size : 1 ≤ kept.length ∧ kept.length ≤ 256
  full : ∀ s ∈ kept, s.length = 64
  wait : ∀ w ∈ ws, 0 ≤ w.1 ∧ w.1 < kept.length ∧ w.2.length = 64
/-- What the methods do, plainly: the disk behind it, the answer. -/
def dWrite (kept : List Bs) (ws : Ws) (down : Bool) (x : Int) (s : Bs) : Ws × Int :=
  if down then (ws, 801) else if x < 0 ∨ (kept.length : Int) ≤ x ∨ s.length ≠ 64 then (ws, 800) else (ws ++ [(x, s)], 0)
def dPut (kept : List Bs) (ws : Ws) : List Bs := ws.foldl (fun k w => k.set w.1.toNat w.2) kept
def dRead (kept : List Bs) (ws : Ws) (down : Bool) (x : Int) : Bs × Int :=
  if down then ([], 801) else if x < 0 ∨ (kept.length : Int) ≤ x then ([], 800) else ((dPut kept ws).getD x.toNat [], 0)
section disk
variable {mk : List Bs → Ws → Bool → A}
/-- A crash: whether a write was lost already, the sectors behind it. -/
def dLose (mask torn : Int) : Nat → List Bs → Bool → Ws → List Bs
  | _, k, _, [] => k
  | i, k, whole, a :: r =>
    if i < 30 ∧ mask / 2 ^ i % 2 = 1 then dLose mask torn (i + 1) (k.set a.1.toNat a.2) whole r
    else if whole = true then dLose mask torn (i + 1) (k.set a.1.toNat (a.2.take (min torn.toNat 64) ++ (k.getD a.1.toNat []).drop (min torn.toNat 64))) false r
    else dLose mask torn (i + 1) k whole r
end disk
end Go.AI

/- The document's disk. -/
set_option linter.all false
namespace Go.AI
variable {A : Type} {R : Adts A}
section disk
variable {mk : List Bs → Ws → Bool → A}
end disk
end Go.AI

/- New disks. -/
set_option linter.all false
namespace Go.AI
variable {A : Type} {R : Adts A}
/-- A sector of zeros. -/
def zSec : Bs := List.replicate 64 0
section disk
variable {mk : List Bs → Ws → Bool → A}
end disk
end Go.AI

/- A disk crashes. -/
set_option linter.all false
namespace Go.AI
variable {A : Type} {R : Adts A}
/-- Is a write kept? -/
def dKeep (mask : Int) (i : Nat) : Bool := decide (i < 30) && decide (mask / 2 ^ i % 2 = 1)
/-- A write that is torn. -/
def dPiece (torn : Int) (s old : Bs) : Bs := s.take (min torn.toNat 64) ++ old.drop (min torn.toNat 64)
/-- What is kept behind the first writes; was none lost yet? -/
def dCr (mask torn : Int) (k : List Bs) (w : Ws) : Nat → List Bs × Bool
  | 0 => (k, true)
  | i + 1 =>
    let s := dCr mask torn k w i
    let a := w.getD i (0, [])
    if dKeep mask i = true then (s.1.set a.1.toNat a.2, s.2) else if s.2 = true then (s.1.set a.1.toNat (dPiece torn a.2 (s.1.getD a.1.toNat [])), false) else s
def dLost (mask torn : Int) (k : List Bs) (w : Ws) : List Bs := (dCr mask torn k w w.length).1
section disk
variable {mk : List Bs → Ws → Bool → A}
end disk
end Go.AI

/- The document's disk crashes; its new disks. -/
set_option linter.all false
namespace Go.AI
variable {A : Type} {R : Adts A}
section disk
variable {mk : List Bs → Ws → Bool → A}
end disk
end Go.AI

/- The data types of this seat. -/
set_option linter.all false
namespace Go.AI
inductive D where
  | book (m : Int) (ts : List Bs)
  | rbook (m : Int) (ts : List Bs)
end Go.AI

/- The data types of the disks' statements. -/
set_option linter.all false
namespace Go.AI
inductive DD where
  | disk (k : List Bs) (w : Ws) (d : Bool)
  | rdisk (k : List Bs) (w : Ws) (d : Bool)
end Go.AI

/- What a disk's calls do, told by equations. -/
set_option linter.all false
namespace Go.AI
variable {A : Type} {R : Adts A}
section disk
variable {mk : List Bs → Ws → Bool → A}
end disk
end Go.AI

/- Journals, plainly. -/
set_option linter.all false
namespace Go.AI
variable {A : Type} {R : Adts A}
/-- A journal: the boot's number, the last one's name, the events, is it over. -/
structure JS where
  boot : Int
  prev : Int
  es : List Ev
  over : Bool
deriving DecidableEq
/-- Records one behind the other: the terms, the sectors, the last one's name, were all made? -/
def jRecs (m boot : Int) : List Bs → Int → Int → List Ev → List Bs × List Bs × Int × Bool
  | ts, _, p, [] => (ts, [], p, true)
  | ts, q, p, e :: r =>
    match recPut m ts ⟨q + 1, boot, p, e⟩ with
    | (t, s, n, f) => if f = 0 then (match jRecs m boot t (q + 1) n r with | (t2, ss, p2, ok) => if ok = true then (t2, s :: ss, p2, true) else (t2, [], 0, false)) else (t, [], 0, false)
/-- Sectors one behind the other. -/
def jWs : Int → List Bs → Ws
  | _, [] => []
  | q, s :: r => (q, s) :: jWs (q + 1) r
/-- What a call of Append or Write lets wait. -/
def jPut (m : Int) (ts : List Bs) (J : JS) (size : Nat) (down : Bool) (es : List Ev) : List Bs × List Bs × Int × Int :=
  if J.over = true ∨ down = true then (ts, [], 0, 1102)
  else if es.all evMay = true then
    (if (size : Int) - 2 - J.es.length < es.length then (ts, [], 0, 1101)
     else match jRecs m J.boot ts J.es.length J.prev es with | (t, ss, p, ok) => if ok = true then (t, ss, p, 0) else (t, [], 0, 1101))
  else (ts, [], 0, 1100)
/-- What is found behind the last record. -/
def jLoad (ts : List Bs) (k : List Bs) : Nat → Int → List Ev → Int × List Ev
  | 0, p, es => (p, es)
  | n + 1, p, es =>
    if (2 + es.length : Nat) < k.length then
      (match recGet ts (k.getD (2 + es.length) []) (es.length + 1) p with | (r, name, e) => if e = 0 then jLoad ts k n name (es ++ [r.ev]) else (p, es))
    else (p, es)
/-- A journal is opened: the terms, the sectors, the journal or the error. -/
def jOpen (m : Int) (ts : List Bs) (k : List Bs) (w : Ws) (down : Bool) : List Bs × List Bs × Ws × (Int ⊕ JS) :=
  if down = true then (ts, k, w, .inl 1102)
  else if (k.length : Int) ≤ 2 then (ts, k, w, .inl 1100)
  else match sPick ts ((dPut k w).getD 0 []) ((dPut k w).getD 1 []) with
    | (boot, at_, _) => match sPut m ts (boot + 1) with
      | (t, s, e) => if e = 0 then
          (match jLoad t ((dPut k w).set at_.toNat s) k.length 0 [] with | (p, es) => (t, (dPut k w).set at_.toNat s, [], .inr ⟨boot + 1, p, es, false⟩))
        else (t, k, w, .inl 1101)
/-! The journal's object. -/
theorem evs_ix (n : Nat) (l : List Ev) : ixs n (l.flatMap Ev.row) = true := by
  rw [ixs_all]
  simp only [List.all_flatMap, List.all_eq_true]
  intro x _
  simp [Ev.row, AVal.ix]
theorem evs_len (l : List Ev) : (l.flatMap Ev.row).length = l.length * 8 := by
  induction l with
  | nil => rfl
  | cons x r ih => simp only [List.flatMap_cons, List.length_append, ih, List.length_cons, Ev.row]; simp; omega
end Go.AI

/- The boot's sectors. -/
set_option linter.all false
namespace Go.AI
variable {A : Type} {R : Adts A}
def BoolJ (c : Bool) (o : AObj A) (vs : List AVal) (g : AHeap A) : Prop := vs = [.bool c] ∧ ∃ r, g = o :: r
section
variable {mk : Int → List Bs → A}
end
end Go.AI

/- The boot's sectors: which one counts; the document's. -/
set_option linter.all false
namespace Go.AI
variable {A : Type} {R : Adts A}
section
variable {mk : Int → List Bs → A}
end
section
variable {mk : Int → List Bs → A}
end
end Go.AI

/- The document's events are written, are read (printed by gen/event_gen4.py). -/
set_option linter.all false
namespace Go.AI
variable {A : Type} {R : Adts A}
end Go.AI

/- Texts; readers behind two objects. -/
set_option linter.all false
namespace Go.AI
variable {A : Type} {R : Adts A}
end Go.AI

/- Records. -/
set_option linter.all false
namespace Go.AI
variable {A : Type} {R : Adts A}
section
variable {mk : Int → List Bs → A}
end
end Go.AI

/- Records are read. -/
set_option linter.all false
namespace Go.AI
variable {A : Type} {R : Adts A}
def recTup (o : Option (Rec × Int)) : AVal := match o with | some (r, n) => .tup [.agg r.row, .int .i64 n, .bool true] | none => .tup [.agg rec0.row, .int .i64 0, .bool false]
section
variable {mk : Int → List Bs → A}
def recGTup (x : Rec × Int × Int) : AVal := .tup [.agg x.1.row, .int .i64 x.2.1, .int .i64 x.2.2]
end
end Go.AI

/- The document's records. -/
set_option linter.all false
namespace Go.AI
variable {A : Type} {R : Adts A}
section
variable {mk : Int → List Bs → A}
end
end Go.AI

/- Records: the statements. -/
set_option linter.all false
namespace Go.AI
variable {A : Type} {R : Adts A}
section
variable {mk : Int → List Bs → A}
end
section
variable {bk rbk : Int → List Bs → A}
end
end Go.AI

/- Journals: small calls. -/
set_option linter.all false
namespace Go.AI
variable {A : Type} {R : Adts A}
section
variable {mk : List Bs → Ws → Bool → A}
end
/-- Events that are handed in: by themselves, or in an object behind the first n. -/
structure EvArg (a : AVal) (l : List Ev) (n : Nat) (t : AHeap A) : Prop where
  len : ∀ K : AVal → Prop, lenP a K = K (.int .i64 l.length)
  get : ∀ h : AHeap A, (∀ k o, t[k]? = some o → h[n + k]? = some o) → ∀ (i : Nat) (hi : i < l.length), ∃ p, (∀ K, idxP 8 a (.int .i64 i) K = K p) ∧ ldV 8 true p h = some (.agg l[i].row)
  src : ∀ h : AHeap A, (∀ k o, t[k]? = some o → h[n + k]? = some o) → srcOf 8 h a = some (l.length, l.flatMap Ev.row)
theorem EvArg.nil (n : Nat) (t : AHeap A) : EvArg .nils [] n t := ⟨fun K => by simp, fun h _ i hi => by simp at hi, fun h _ => rfl⟩
theorem EvArg.rows {a : AVal} {l : List Ev} (ha : IsRows Ev.row a l) (n : Nat) (t : AHeap A) : EvArg a l n t := by
  refine ⟨fun K => ha.len K, fun h _ i hi => ?_, fun h _ => ?_⟩
  · obtain ⟨x, b, o, cs, hx, hg⟩ := ha.get (w := 8) (fun x => rfl) (n := (i : Int)) (by omega) (by omega)
    rw [Int.toNat_natCast, List.getElem?_eq_getElem hi] at hx
    obtain rfl := Option.some.inj hx
    exact ⟨_, hg, by simp [ldV, Ev.row]⟩
  · rcases ha with ⟨rfl, rfl⟩ | ⟨b, o, cap, rfl⟩
    · rfl
    · have hl := evs_len l
      show srcOf 8 h (.lst b o l.length cap (l.flatMap Ev.row)) = _
      generalize l.flatMap Ev.row = C at *
      simp [srcOf, hl]
theorem EvArg.sl (l : List Ev) (n cap : Nat) (ex : Bool) (e : TypeId) : EvArg (A := A) (.sl n 0 l.length cap ex) l n [.cells e (l.flatMap Ev.row)] := by
  refine ⟨fun K => by simp, fun h ht i hi => ?_, fun h ht => ?_⟩
  · have h0 := ht 0 _ rfl
    have h1 : ((0 : Int) ≤ (i : Int) ∧ (i : Int) < (l.length : Int)) := by omega
    refine ⟨.ptr n (i * 8), fun K => by simp [idxP, hi], ?_⟩
    have h2 := rows_drop (f := Ev.row) (n := 8) (fun x => rfl) l i hi
    have hl := evs_len l
    have h3 : i * 8 + 8 ≤ (l.flatMap Ev.row).length := by omega
    have h4 : ((l.flatMap Ev.row).drop (i * 8)).take 8 = l[i].row := by rw [h2]; simp [Ev.row]
    rw [Nat.add_zero] at h0
    simp only [ldV, cellsAt, h0, AObj.read, Option.bind_some, h3, if_true, h4]
  · have h0 := ht 0 _ rfl
    rw [Nat.add_zero] at h0
    have hl := evs_len l
    generalize l.flatMap Ev.row = C at *
    have t1 : C.take (l.length * 8) = C := List.take_of_length_le (by omega)
    simp [srcOf, cellsAt, h0, AObj.read, hl, t1]
def IxI (g : AHeap A) (l : List Ev) (m : Nat) (y : List AVal) (h : AHeap A) : Prop := ∃ i : Nat, y = [.int .i64 i] ∧ h = g ∧ i ≤ l.length ∧ (∀ (j : Nat) (hj : j < l.length), j < i → evMay l[j] = true) ∧ m = l.length - i
end Go.AI
