/- The document's journal: Append, Write. -/
import Derived.Test.YtjnnihaofffkfaaGreatMdJournals
set_option linter.all false
namespace Go.AI
variable {A : Type} {R : Adts A}
theorem WrX_len (N : Nat) (ss : List Bs) (K : AVal → Prop) : lenP (WrX N ss) K = K (.int .i64 ss.length) := by
  unfold WrX
  by_cases h : ss = []
  · subst h; simp
  · rw [if_neg h]; simp
theorem WrX_idx (N : Nat) (ss : List Bs) {j : Nat} (hj : j < ss.length) (K : AVal → Prop) : idxP 1 (WrX N ss) (.int .i64 j) K = K (.ptr N j) := by
  have h : ss ≠ [] := by rintro rfl; simp at hj
  unfold WrX
  rw [if_neg h]
  simp [idxP, hj]
theorem WrX_get {N j : Nat} {ss : List Bs} {s : Bs} {h : AHeap A} (hs : ss[j]? = some s) (hN : ss ≠ [] → h[N]? = some (.cells t_string (ss.map .str))) : ldV 1 false (.ptr N j) h = some (.str s) := by
  have h0 : ss ≠ [] := by rintro rfl; simp at hs
  simp only [ldV, cellsAt, hN h0, Option.bind_some, AObj.read]
  simp [hs]
theorem jPut_64 {m : Int} {ts t : List Bs} {J : JS} {n : Nat} {dn : Bool} {l : List Ev} {ss : List Bs} {p : Int} (he : jPut m ts J n dn l = (t, ss, p, 0)) : ∀ s ∈ ss, s.length = 64 := by
  unfold jPut at he
  split at he
  · simp at he
  · split at he
    · split at he
      · simp at he
      · obtain ⟨⟨t2, s2, p2, ok⟩, hz⟩ : ∃ z, jRecs m J.boot ts J.es.length J.prev l = z := ⟨_, rfl⟩
        rw [hz] at he
        dsimp only at he
        cases ok with
        | false => simp at he
        | true =>
          rw [if_pos rfl] at he
          simp only [Prod.mk.injEq] at he
          obtain ⟨_, rfl, _⟩ := he
          exact (jRecs_len l hz).2
    · simp at he
section
variable {bk : Int → List Bs → A} {dk : List Bs → Ws → Bool → A} {jm : Nat → Nat → JS → A}
def RdI (dk : List Bs → Ws → Bool → A) (A0 C : AObj A) (V : AHeap A) (k : List Bs) (w : Ws) (q : Int) (ss : List Bs) (mm : Nat) (y : List AVal) (g : AHeap A) : Prop :=
  ∃ i : Nat, y = [.int .i64 i] ∧ g = A0 :: .adt (dk k (w ++ jWs q (ss.take i)) false) :: C :: V ∧ dOk k (w ++ jWs q (ss.take i)) ∧ i ≤ ss.length ∧ mm = ss.length - i
theorem RAppend_can (hR : R.Ok) (hB : HasRBook R bk) (hD : HasRDisk R dk) (hJ : HasRJrn R jm) {m : Int} {ts t : List Bs} {k : List Bs} {w : Ws} {dn : Bool} {J : JS} {a : AVal} {l : List Ev} {u : AHeap A} {ss : List Bs} {p e : Int} (hok : bOk m ts) (hdk : dOk k w) (hw : w.length ≤ 600) (hn : J.es.length ≤ 300)
    (ha : EvArg a l 3 u) (hl : l.length < 1000000000) (hu : ∀ o ∈ u, o.closed R) (he : jPut m ts J k.length dn l = (t, ss, p, e)) {K : AVal → AHeap A → Prop}
    (hk : K (.int .i64 e) (if e = 0 then .adt (bk m t) :: .adt (dk (dPut k (w ++ jWs (2 + J.es.length) ss)) [] dn) :: .adt (jm 0 1 ⟨J.boot, p, J.es ++ l, J.over⟩) :: u else .adt (bk m t) :: .adt (dk k w dn) :: .adt (jm 0 1 J) :: u)) :
    Tri Pr R n_ref1_Journal_Append [.ptr 2 0, a] (.adt (bk m ts) :: .adt (dk k w dn) :: .adt (jm 0 1 J) :: u) K := by
  have hd := hdk.size
  obtain ⟨f1, f2⟩ := jPut_facts he hdk
  refine Tri.post (Tri.pre (rjrn_open hJ (by simp; omega) fun x hx => Gives.done (by simp) ?_))
  apply c_ref1_Journal_Append
  unfold p_ref1_Journal_Append
  have hxi : x.ix (3 + (u ++ jEvs J.es : AHeap A).length) = true := by
    have := hx.ix
    have e1 : (.adt (bk m ts) :: .adt (dk k w dn) :: rjCells 0 1 J.boot J.prev x J.over :: (u ++ jEvs J.es) : AHeap A).length = 3 + (u ++ jEvs J.es : AHeap A).length := by simp; omega
    rw [e1] at this; exact this
  refine rput_core hR hB hD (u := u ++ jEvs J.es) hok hdk hx.len hn hxi (ha.mono _) hl (fun o ho => ?_) he fun r => ?_
  · rcases List.mem_append.1 ho with h | h
    · exact hu o h
    · exact jEvs_cl _ o h
  have hlen := hx.len
  by_cases h0 : e = 0
  · subst h0
    rw [if_pos rfl] at hk
    obtain ⟨rfl, hov, hal, hsl, hlen2, hd2⟩ := f2 rfl
    have h64 := jPut_64 he
    have hwl : (w ++ jWs (2 + J.es.length) ss).length ≤ 1000 := by rw [List.length_append, jWs_len]; omega
    obtain ⟨N, hN⟩ : ∃ N, 3 + (u ++ jEvs J.es : AHeap A).length + r.length = N := ⟨_, rfl⟩
    rw [hN]
    obtain ⟨V, hV⟩ : ∃ V, (u ++ (jEvs J.es ++ (r ++ WrS ss)) : AHeap A) = V := ⟨_, rfl⟩
    have hV2 : (u ++ jEvs J.es ++ (r ++ WrS ss) : AHeap A) = V := by rw [← hV]; simp
    rw [hV2]
    have hNV : ∀ a b c : AObj A, ss ≠ [] → (a :: b :: c :: V : AHeap A)[N]? = some (.cells t_string (ss.map .str)) := by
      intro a b c h
      have := up_at (u := u ++ (jEvs J.es ++ (r ++ WrS ss))) (r := []) (a := a) (b := b) (c := c) (u.length + (jEvs J.es : AHeap A).length + r.length) (.cells t_string (ss.map .str)) (by
        rw [List.getElem?_append_right (by omega), List.getElem?_append_right (by omega), List.getElem?_append_right (by omega)]
        have e9 : u.length + (jEvs J.es : AHeap A).length + r.length - u.length - (jEvs J.es : AHeap A).length - r.length = 0 := by omega
        rw [e9]; simp [WrS, h])
      rw [hV, List.append_nil] at this
      rw [← hN]
      have e9 : 3 + (u ++ jEvs J.es : AHeap A).length + r.length = 3 + (u.length + (jEvs J.es : AHeap A).length + r.length) := by simp; omega
      rw [e9]; exact this
    unfold rjCells at *
    simp -implicitDefEqProofs
    refine loopP_go (RdI dk (.adt (bk m t)) (.cells t_bastionref1_Journal [.ptr 0 0, .ptr 1 0, .bool J.over, .int .i64 J.prev, .int .i64 J.boot, x]) V k w (2 + J.es.length) ss) ss.length (Gives.done (by simp) ⟨0, rfl, by simp [jWs], by simpa [jWs] using hdk, by omega, rfl⟩) ?_
    rintro mm y g ⟨j, rfl, rfl, hdj, hj, rfl⟩
    by_cases hjl : j < ss.length
    · have hjl' : (j : Int) < (ss.length : Int) := by omega
      obtain ⟨s, hs⟩ : ∃ s, ss[j]? = some s := ⟨_, List.getElem?_eq_getElem hjl⟩
      have hv := fun b => WrX_get (h := .adt (bk m t) :: b :: .cells t_bastionref1_Journal [.ptr 0 0, .ptr 1 0, .bool J.over, .int .i64 J.prev, .int .i64 J.boot, x] :: V) hs (hNV _ _ _)
      have hxx := fun K => WrX_idx N ss hjl K
      have hs64 := h64 s (List.mem_of_getElem? hs)
      have w1 := w64 (n := 2 + (J.es.length : Int)) (by omega)
      have w2 := w64 (n := 2 + (J.es.length : Int) + j) (by omega)
      have w3 := w64 (n := (j : Int) + 1) (by omega)
      have hbnd : 0 ≤ 2 + (J.es.length : Int) + j ∧ 2 + (J.es.length : Int) + j < k.length ∧ s.length = 64 := by omega
      have hwr := dWrite_good (k := k) (w := w ++ jWs (2 + J.es.length) (ss.take j)) hbnd
      have hd3 := dOk_write hdj hbnd
      have htk := jWs_take (2 + J.es.length) ss hs
      have hwl : (w ++ jWs (2 + J.es.length) (ss.take j)).length ≤ 1000 := by rw [List.length_append, jWs_len, List.length_take]; omega
      simp -implicitDefEqProofs [WrX_len, hjl, hjl', hxx, hv, hlen, w1, w2]
      refine rdisk_Write_at hR hD hdj hwl hwr rfl ?_
      simp -implicitDefEqProofs [w3]
      refine Gives.done (by simp) ⟨ss.length - (j + 1), by omega, j + 1, rfl, ?_, ?_, by omega, rfl⟩
      · rw [htk]; try simp
      · rw [htk, ← List.append_assoc]; exact hd3
    · have hjl' : ¬ (j : Int) < (ss.length : Int) := by omega
      obtain rfl : j = ss.length := by omega
      rw [List.take_length]
      simp -implicitDefEqProofs [WrX_len, hjl, hjl']
      refine rdisk_Flush_at hR hD hd2 hwl rfl rfl ?_
      generalize dPut k (w ++ jWs (2 + J.es.length) ss) = k2 at *
      simp -implicitDefEqProofs
      have hx2 : EvAt x J.es (3 + u.length) (.adt (bk m t) :: .adt (dk k2 [] false) :: .cells t_bastionref1_Journal [.ptr 0 0, .ptr 1 0, .bool J.over, .int .i64 p, .int .i64 J.boot, x] :: V) := by
        have := (hx.move (h' := .adt (bk m t) :: .adt (dk k2 [] false) :: .cells t_bastionref1_Journal [.ptr 0 0, .ptr 1 0, .bool J.over, .int .i64 p, .int .i64 J.boot, x] :: (u ++ jEvs J.es)) fun _ => by rw [Nat.add_comm]; rfl).app (r ++ WrS ss)
        rw [← hV]
        simpa using this
      refine app_evs hx2 (ha.src _ fun k o h => by rw [← hV]; exact up_at k o h) (by omega) fun x' e' h' hev hsame hl' he' => ?_
      have hne : ∀ k, k < 3 + u.length → h'[k]? = (.adt (bk m t) :: .adt (dk k2 [] false) :: .cells t_bastionref1_Journal [.ptr 0 0, .ptr 1 0, .bool J.over, .int .i64 p, .int .i64 J.boot, x] :: V : AHeap A)[k]? := fun k hk => hsame k (.inr (by omega)) (by rw [← hV]; simp; omega)
      have q0 : h'[0]? = some (.adt (bk m t)) := hne 0 (by omega)
      have q1 : h'[1]? = some (.adt (dk k2 [] false)) := hne 1 (by omega)
      have q2 : h'[2]? = some (.cells t_bastionref1_Journal [.ptr 0 0, .ptr 1 0, .bool J.over, .int .i64 p, .int .i64 J.boot, x]) := hne 2 (by omega)
      obtain ⟨h'', rfl⟩ := three q0 q1 q2
      have hut : h''.take u.length = u := take_eq fun k hk => by
        have := hne (k + 3) (by omega)
        simp only [List.getElem?_cons_succ] at this
        rw [this, ← hV, List.getElem?_append_left hk]
      have hsp : h'' = u ++ h''.drop u.length := by conv => lhs; rw [← List.take_append_drop u.length h'', hut]
      have hge : 3 + u.length ≤ e' := by
        rcases he' with ⟨_, rfl⟩ | h
        · exact Nat.le_refl _
        · rw [← hV] at h; simp at h; omega
      rw [st_rev hev]
      have hev2 : EvAt x' (J.es ++ l) e' (.adt (bk m t) :: .adt (dk k2 [] false) :: rjCells 0 1 J.boot p x' J.over :: (u ++ h''.drop u.length)) := by
        rw [← hsp]
        refine hev.move fun _ => ?_
        obtain ⟨j, rfl⟩ : ∃ j, e' = j + 3 := ⟨e' - 3, by omega⟩
        rfl
      rw [hsp]
      exact rjrn_shut hR hJ (J := ⟨J.boot, p, J.es ++ l, J.over⟩) (t := u) hev2 (fun _ => hge) (rbook_cl hB _ _) (rdisk_cl hD _ _ _) hu (by omega) (by simp [ixs, AVal.ix]) ⟨_, rfl, hk⟩
  · rw [if_neg h0] at hk
    obtain rfl := f1 h0
    have h0' : (e != 0) = true := by simpa using h0
    simp -implicitDefEqProofs [h0']
    have hx2 : EvAt x J.es (3 + u.length) (.adt (bk m t) :: .adt (dk k w dn) :: rjCells 0 1 J.boot J.prev x J.over :: (u ++ (jEvs J.es ++ (r ++ WrS [])))) := by
      have := (hx.move (h' := .adt (bk m t) :: .adt (dk k w dn) :: rjCells 0 1 J.boot J.prev x J.over :: (u ++ jEvs J.es)) fun _ => by rw [Nat.add_comm]; rfl).app (r ++ WrS [])
      simpa using this
    exact rjrn_shut hR hJ (J := J) (t := u) hx2 (fun _ => Nat.le_refl _) (rbook_cl hB _ _) (rdisk_cl hD _ _ _) hu (by omega) (by simp [ixs, AVal.ix]) ⟨_, rfl, hk⟩
theorem RWrite_can (hR : R.Ok) (hB : HasRBook R bk) (hD : HasRDisk R dk) (hJ : HasRJrn R jm) {m : Int} {ts t : List Bs} {k : List Bs} {w : Ws} {dn : Bool} {J : JS} {a : AVal} {l : List Ev} {u : AHeap A} {ss : List Bs} {p e : Int} (hok : bOk m ts) (hdk : dOk k w) (hw : w.length ≤ 600) (hn : J.es.length ≤ 300)
    (ha : EvArg a l 3 u) (hl : l.length < 1000000000) (hu : ∀ o ∈ u, o.closed R) (he : jPut m ts J k.length dn l = (t, ss, p, e)) {K : AVal → AHeap A → Prop}
    (hk : K (.int .i64 e) (if e = 0 then .adt (bk m t) :: .adt (dk k (w ++ jWs (2 + J.es.length) ss) dn) :: .adt (jm 0 1 ⟨J.boot, J.prev, J.es, true⟩) :: u else .adt (bk m t) :: .adt (dk k w dn) :: .adt (jm 0 1 J) :: u)) :
    Tri Pr R n_ref1_Journal_Write [.ptr 2 0, a] (.adt (bk m ts) :: .adt (dk k w dn) :: .adt (jm 0 1 J) :: u) K := by
  have hd := hdk.size
  obtain ⟨f1, f2⟩ := jPut_facts he hdk
  refine Tri.post (Tri.pre (rjrn_open hJ (by simp; omega) fun x hx => Gives.done (by simp) ?_))
  apply c_ref1_Journal_Write
  unfold p_ref1_Journal_Write
  have hxi : x.ix (3 + (u ++ jEvs J.es : AHeap A).length) = true := by
    have := hx.ix
    have e1 : (.adt (bk m ts) :: .adt (dk k w dn) :: rjCells 0 1 J.boot J.prev x J.over :: (u ++ jEvs J.es) : AHeap A).length = 3 + (u ++ jEvs J.es : AHeap A).length := by simp; omega
    rw [e1] at this; exact this
  refine rput_core hR hB hD (u := u ++ jEvs J.es) hok hdk hx.len hn hxi (ha.mono _) hl (fun o ho => ?_) he fun r => ?_
  · rcases List.mem_append.1 ho with h | h
    · exact hu o h
    · exact jEvs_cl _ o h
  have hlen := hx.len
  by_cases h0 : e = 0
  · subst h0
    rw [if_pos rfl] at hk
    obtain ⟨rfl, hov, hal, hsl, hlen2, hd2⟩ := f2 rfl
    have h64 := jPut_64 he
    have hwl : (w ++ jWs (2 + J.es.length) ss).length ≤ 1000 := by rw [List.length_append, jWs_len]; omega
    obtain ⟨N, hN⟩ : ∃ N, 3 + (u ++ jEvs J.es : AHeap A).length + r.length = N := ⟨_, rfl⟩
    rw [hN]
    obtain ⟨V, hV⟩ : ∃ V, (u ++ (jEvs J.es ++ (r ++ WrS ss)) : AHeap A) = V := ⟨_, rfl⟩
    have hV2 : (u ++ jEvs J.es ++ (r ++ WrS ss) : AHeap A) = V := by rw [← hV]; simp
    rw [hV2]
    have hNV : ∀ a b c : AObj A, ss ≠ [] → (a :: b :: c :: V : AHeap A)[N]? = some (.cells t_string (ss.map .str)) := by
      intro a b c h
      have := up_at (u := u ++ (jEvs J.es ++ (r ++ WrS ss))) (r := []) (a := a) (b := b) (c := c) (u.length + (jEvs J.es : AHeap A).length + r.length) (.cells t_string (ss.map .str)) (by
        rw [List.getElem?_append_right (by omega), List.getElem?_append_right (by omega), List.getElem?_append_right (by omega)]
        have e9 : u.length + (jEvs J.es : AHeap A).length + r.length - u.length - (jEvs J.es : AHeap A).length - r.length = 0 := by omega
        rw [e9]; simp [WrS, h])
      rw [hV, List.append_nil] at this
      rw [← hN]
      have e9 : 3 + (u ++ jEvs J.es : AHeap A).length + r.length = 3 + (u.length + (jEvs J.es : AHeap A).length + r.length) := by simp; omega
      rw [e9]; exact this
    unfold rjCells at *
    simp -implicitDefEqProofs
    refine loopP_go (RdI dk (.adt (bk m t)) (.cells t_bastionref1_Journal [.ptr 0 0, .ptr 1 0, .bool J.over, .int .i64 J.prev, .int .i64 J.boot, x]) V k w (2 + J.es.length) ss) ss.length (Gives.done (by simp) ⟨0, rfl, by simp [jWs], by simpa [jWs] using hdk, by omega, rfl⟩) ?_
    rintro mm y g ⟨j, rfl, rfl, hdj, hj, rfl⟩
    by_cases hjl : j < ss.length
    · have hjl' : (j : Int) < (ss.length : Int) := by omega
      obtain ⟨s, hs⟩ : ∃ s, ss[j]? = some s := ⟨_, List.getElem?_eq_getElem hjl⟩
      have hv := fun b => WrX_get (h := .adt (bk m t) :: b :: .cells t_bastionref1_Journal [.ptr 0 0, .ptr 1 0, .bool J.over, .int .i64 J.prev, .int .i64 J.boot, x] :: V) hs (hNV _ _ _)
      have hxx := fun K => WrX_idx N ss hjl K
      have hs64 := h64 s (List.mem_of_getElem? hs)
      have w1 := w64 (n := 2 + (J.es.length : Int)) (by omega)
      have w2 := w64 (n := 2 + (J.es.length : Int) + j) (by omega)
      have w3 := w64 (n := (j : Int) + 1) (by omega)
      have hbnd : 0 ≤ 2 + (J.es.length : Int) + j ∧ 2 + (J.es.length : Int) + j < k.length ∧ s.length = 64 := by omega
      have hwr := dWrite_good (k := k) (w := w ++ jWs (2 + J.es.length) (ss.take j)) hbnd
      have hd3 := dOk_write hdj hbnd
      have htk := jWs_take (2 + J.es.length) ss hs
      have hwl : (w ++ jWs (2 + J.es.length) (ss.take j)).length ≤ 1000 := by rw [List.length_append, jWs_len, List.length_take]; omega
      simp -implicitDefEqProofs [WrX_len, hjl, hjl', hxx, hv, hlen, w1, w2]
      refine rdisk_Write_at hR hD hdj hwl hwr rfl ?_
      simp -implicitDefEqProofs [w3]
      refine Gives.done (by simp) ⟨ss.length - (j + 1), by omega, j + 1, rfl, ?_, ?_, by omega, rfl⟩
      · rw [htk]; try simp
      · rw [htk, ← List.append_assoc]; exact hd3
    · have hjl' : ¬ (j : Int) < (ss.length : Int) := by omega
      obtain rfl : j = ss.length := by omega
      rw [List.take_length]
      simp -implicitDefEqProofs [WrX_len, hjl, hjl']
      have hx2 : EvAt x J.es (3 + u.length) (.adt (bk m t) :: .adt (dk k (w ++ jWs (2 + J.es.length) ss) false) :: rjCells 0 1 J.boot J.prev x true :: (u ++ (jEvs J.es ++ (r ++ WrS ss)))) := by
        have := (hx.move (h' := .adt (bk m t) :: .adt (dk k (w ++ jWs (2 + J.es.length) ss) false) :: rjCells 0 1 J.boot J.prev x true :: (u ++ jEvs J.es)) fun _ => by rw [Nat.add_comm]; rfl).app (r ++ WrS ss)
        simpa using this
      rw [← hV]
      exact rjrn_shut hR hJ (J := ⟨J.boot, J.prev, J.es, true⟩) (t := u) hx2 (fun _ => Nat.le_refl _) (rbook_cl hB _ _) (rdisk_cl hD _ _ _) hu (by omega) (by simp [ixs, AVal.ix]) ⟨_, rfl, hk⟩
  · rw [if_neg h0] at hk
    obtain rfl := f1 h0
    have h0' : (e != 0) = true := by simpa using h0
    simp -implicitDefEqProofs [h0']
    have hx2 : EvAt x J.es (3 + u.length) (.adt (bk m t) :: .adt (dk k w dn) :: rjCells 0 1 J.boot J.prev x J.over :: (u ++ (jEvs J.es ++ (r ++ WrS [])))) := by
      have := (hx.move (h' := .adt (bk m t) :: .adt (dk k w dn) :: rjCells 0 1 J.boot J.prev x J.over :: (u ++ jEvs J.es)) fun _ => by rw [Nat.add_comm]; rfl).app (r ++ WrS [])
      simpa using this
    exact rjrn_shut hR hJ (J := J) (t := u) hx2 (fun _ => Nat.le_refl _) (rbook_cl hB _ _) (rdisk_cl hD _ _ _) hu (by omega) (by simp [ixs, AVal.ix]) ⟨_, rfl, hk⟩
end
end Go.AI

/- The document's journal, wherever it stands (printed by gen/rjrn5.py). -/
set_option linter.all false
namespace Go.AI
variable {A : Type} {R : Adts A}
section
variable {bk : Int → List Bs → A} {dk : List Bs → Ws → Bool → A} {jm : Nat → Nat → JS → A}
theorem ROpen_ok (hR : R.Ok) (hB : HasRBook R bk) (hD : HasRDisk R dk) (hJ : HasRJrn R jm) {m : Int} {ts t k k' : List Bs} {w w' : Ws} {dn : Bool} {res : Int ⊕ JS} (hok : bOk m ts) (hdk : dOk k w) (hw : w.length ≤ 900) (he : jOpen m ts k w dn = (t, k', w', res)) {h : AHeap A} {b d : Nat} (hb : h[b]? = some (.adt (bk m ts))) (hd : h[d]? = some (.adt (dk k w dn))) (hbd : b ≠ d) {K : AVal → AHeap A → Prop}
    (hk : match res with
      | .inl e => K (.tup [.nilp, .int .i64 e]) ((h.set b (.adt (bk m t))).set d (.adt (dk k' w' dn)))
      | .inr J => K (.tup [.ptr h.length 0, .int .i64 0]) ((h.set b (.adt (bk m t))).set d (.adt (dk k' w' dn)) ++ [.adt (jm b d J)])) : Tri Pr R n_ref1_OpenJournal [.ptr b 0, .ptr d 0] h K := by
  have s : Sel R [b, d] h [.adt (bk m ts), .adt (dk k w dn)] := by
    refine ⟨rfl, by simpa using hbd, fun k o hk => ?_, fun o ho => ?_⟩
    · match k, hk with
      | 0, hk => simp at hk; subst hk; exact ⟨b, rfl, by rw [rbook_ren hB]; exact hb⟩
      | 1, hk => simp at hk; subst hk; exact ⟨d, rfl, by rw [rdisk_ren hD]; exact hd⟩
      | k + 2, hk => simp at hk
    · simp only [List.mem_cons, List.not_mem_nil, or_false] at ho
      rcases ho with rfl | rfl
      · exact rbook_ix hB _ _ _
      · exact rdisk_ix hD _ _ _ _
  cases res with
  | inl e =>
    have t0 := ROpen_can (K := fun v g => v = .tup [.nilp, .int .i64 e] ∧ g = [.adt (bk m t), .adt (dk k' w' dn)]) hR hB hD hJ hok hdk hw he ⟨rfl, rfl⟩
    refine (Tri.frame hR s (as2 := [.ptr 0 0, .ptr 1 0]) rfl t0).mono ?_
    rintro v H ⟨v0, h0, ⟨rfl, rfl⟩, _, rfl, rfl⟩
    simpa [splice, setAll, rbook_ren hB, rdisk_ren hD, AVal.ren, rens] using hk
  | inr J =>
    have t0 := ROpen_can (K := fun v g => v = .tup [.ptr 2 0, .int .i64 0] ∧ g = [.adt (bk m t), .adt (dk k' w' dn), .adt (jm 0 1 J)]) hR hB hD hJ hok hdk hw he ⟨rfl, rfl⟩
    refine (Tri.frame hR s (as2 := [.ptr 0 0, .ptr 1 0]) rfl t0).mono ?_
    rintro v H ⟨v0, h0, ⟨rfl, rfl⟩, _, rfl, rfl⟩
    simpa [splice, setAll, rbook_ren hB, rdisk_ren hD, rjrn_ren hJ, AVal.ren, rens, at_] using hk
theorem RRoom_ok (hR : R.Ok) (hB : HasRBook R bk) (hD : HasRDisk R dk) (hJ : HasRJrn R jm) {m : Int} {ts k : List Bs} {w : Ws} {dn : Bool} {J : JS} (hkl : k.length ≤ 256) (hn : J.es.length ≤ 300) {h : AHeap A} {b d j : Nat} (hb : h[b]? = some (.adt (bk m ts))) (hd : h[d]? = some (.adt (dk k w dn))) (hj : h[j]? = some (.adt (jm b d J))) (hne : b ≠ d ∧ b ≠ j ∧ d ≠ j) {K : AVal → AHeap A → Prop}
    (hk : K (.int .i64 ((k.length : Int) - 2 - J.es.length)) h) : Tri Pr R n_ref1_Journal_Room [.ptr j 0] h K := by
  refine rjrn_frame0 hR hB hD hJ (ts' := ts) (k' := k) (w' := w) (dn' := dn) (J' := J) (us := []) (v := .int .i64 ((k.length : Int) - 2 - J.es.length)) rfl rfl ?_ hb hd hj hne (by rw [set_same hb, set_same hd, set_same hj]; exact hk)
  refine Tri.post (Tri.pre (rjrn_open hJ (t := []) (by simp) fun x hx => rdisk_open1 (u := [] ++ jEvs J.es) hD (by simp) (Gives.done (by simp) ?_)))
  refine rRoom_raw hR (j := 2) (b := 0) (d := 1) (k := k) (w := w) (dn := dn) (n := J.es.length) rfl rfl hx.len (by omega) hkl ?_
  have := rdisk_shut1 (R := R) hD (a := .adt (bk m ts)) (c := rjCells 0 1 J.boot J.prev x J.over) (k := k) (w := w) (d := dn) (u := [] ++ jEvs J.es) (s := []) (n := 3) (vs := [.int .i64 ((k.length : Int) - 2 - J.es.length)]) (K := fun vs h2 => ∃ v, vs = [v] ∧ v = .int .i64 ((k.length : Int) - 2 - J.es.length) ∧ h2 = [.adt (bk m ts), .adt (dk k w dn), .adt (jm 0 1 J)]) ?_
  · simpa using this
  have hx2 := hx.app (rdX w ++ [])
  have := rjrn_shut hR hJ (J := J) (t := []) (r := jEvs J.es ++ (rdX w ++ [])) (n := 3) (vs := [.int .i64 ((k.length : Int) - 2 - J.es.length)]) (K := fun vs h2 => ∃ v, vs = [v] ∧ v = .int .i64 ((k.length : Int) - 2 - J.es.length) ∧ h2 = [.adt (bk m ts), .adt (dk k w dn), .adt (jm 0 1 J)]) (by simpa using hx2) (fun _ => Nat.le_refl _) (rbook_cl hB _ _) (rdisk_cl hD _ _ _) (by simp) (by simp) (by simp [ixs, AVal.ix]) ⟨_, rfl, rfl, rfl⟩
  simpa using this
end
end Go.AI

/- Journals: events that are lent, kept, spoiled; journals that are opened. -/
set_option linter.all false
namespace Go.AI
variable {A : Type} {R : Adts A}
theorem room_647 {n : Nat} (h : n ≤ 10000000) : (2 * n + 1000) * 64 ≤ 140737488355328 := by omega
theorem app_evs7 {x a : AVal} {es l : List Ev} {e : Nat} {h : AHeap A} (he : EvAt x es e h) (hs : srcOf 8 h a = some (l.length, l.flatMap Ev.row)) (hn : es.length + l.length ≤ 10000000) {K : AVal → AHeap A → Prop}
    (hk : ∀ x' e' h', EvAt x' (es ++ l) e' h' → (∀ k, (es = [] ∨ k ≠ e) → k < h.length → h'[k]? = h[k]?) → h.length ≤ h'.length → ((es ≠ [] ∧ e' = e) ∨ h.length ≤ e') → K x' h') : appP t_api_Event 8 64 x a h K := by
  have r1 := room_647 (n := es.length + l.length) (by omega)
  have hl1 := evs_len es
  have hl2 := evs_len l
  unfold appP appV
  rw [hs]
  dsimp only
  rcases he with ⟨rfl, rfl⟩ | ⟨h0, rfl, h1⟩
  · dsimp only
    by_cases hl : l = []
    · subst hl
      simp only [List.length_nil, if_true, optH]
      exact hk _ h.length _ (.inl ⟨rfl, rfl⟩) (fun _ _ _ => rfl) (Nat.le_refl _) (.inr (Nat.le_refl _))
    · have h3 : ¬ l.length = 0 := fun h => hl (List.length_eq_zero_iff.1 h)
      have h4 : 0 < 64 ∧ l.length * 64 ≤ 140737488355328 := by omega
      rw [if_neg h3, if_pos h4]
      simp only [optH]
      refine hk _ h.length _ (.inr ⟨by simpa using hl, by simp, by simp⟩) (fun k _ hk' => by rw [List.getElem?_append_left hk']) (by simp) (.inr (Nat.le_refl _))
  · have hlt := (List.getElem?_eq_some_iff.1 h1).1
    dsimp only
    by_cases hl : l = []
    · subst hl
      rw [if_pos (by simp)]
      simp only [List.length_nil, List.flatMap_nil]
      have hset : setAt h e (0 + es.length * 8) [] = some h := by
        unfold setAt
        rw [h1]
        dsimp only
        rw [if_pos ⟨by simp only [List.length_nil]; omega, rfl⟩]
        have : over (es.flatMap Ev.row) (0 + es.length * 8) [] = es.flatMap Ev.row := by
          unfold over
          simp
        rw [this, set_same h1]
      rw [hset]
      simp only [Option.map_some, optH]
      exact hk _ e _ (.inr ⟨by simpa using h0, by simp, by simpa using h1⟩) (fun _ _ _ => rfl) (Nat.le_refl _) (.inl ⟨h0, rfl⟩)
    · have h3 : ¬ es.length + l.length ≤ es.length := by have := List.length_pos_iff.2 hl; omega
      rw [if_neg h3, h1]
      dsimp only
      have hsc : (l.flatMap Ev.row).all AVal.scalar = true := by
        rw [List.all_flatMap, List.all_eq_true]
        intro y _
        rfl
      rw [if_pos ⟨by omega, by omega, .inr r1⟩, if_neg (by simp), if_pos ⟨rfl, by omega, hsc⟩]
      simp only [optH]
      have t1 : (es.flatMap Ev.row).take (es.length * 8) = es.flatMap Ev.row := List.take_of_length_le (by omega)
      refine hk _ h.length _ (.inr ⟨by simp [h0], by simp, ?_⟩) (fun k hk1 hk' => ?_) (by simp) (.inr (Nat.le_refl _))
      · rw [List.getElem?_append_right (by simp)]
        simp [t1]
      · have hke : k ≠ e := by rcases hk1 with h | h; exact absurd h h0; exact h
        rw [List.getElem?_append_left (by simpa using hk'), List.getElem?_set_ne (Ne.symm hke)]
theorem rslP_hi {q n c len : Nat} {ex : Bool} {x : Int} (hx : x = (n : Int)) (h : n ≤ c) (hc : 0 < c) (K : AVal → Prop) : rslP 8 (.sl q 0 len c ex) none (some (.int .i64 x)) none K = K (.sl q 0 n c ex) := by
  subst hx
  have h1 : (n : Int) ≤ c := by omega
  simp [rslP, bnd, h1, h]
/-- Events that are handed in within an act. -/
def IsEvs (a : AVal) (l : List Ev) : Prop := IsRows Ev.row a l ∨ (l = [] ∧ ∃ x, a = .odd x)
theorem EvArg.odd (x : Addr) (n : Nat) (t : AHeap A) : EvArg (.odd x) [] n t := ⟨fun K => by simp, fun h _ i hi => by simp at hi, fun h _ => rfl⟩
theorem IsEvs.arg {a : AVal} {l : List Ev} (h : IsEvs a l) (n : Nat) (t : AHeap A) : EvArg a l n t := by
  rcases h with h | ⟨rfl, x, rfl⟩
  · exact EvArg.rows h n t
  · exact EvArg.odd x n t
theorem IsEvs.rd {a : AVal} {l : List Ev} (ha : IsEvs a l) (h : AHeap A) : Rd a l h := Rd.of (ha.arg 0 []) (by simp)
theorem IsEvs.ix {a : AVal} {l : List Ev} (h : IsEvs a l) : ixs 0 [a] = true := by
  rcases h with (⟨rfl, _⟩ | ⟨b, o, cap, rfl⟩) | ⟨_, x, rfl⟩ <;> rfl
theorem IsEvs.scalar {a : AVal} {l : List Ev} (h : IsEvs a l) : a.scalar = true := by
  rcases h with (⟨rfl, _⟩ | ⟨b, o, cap, rfl⟩) | ⟨_, x, rfl⟩ <;> rfl
def evMk : Ev := ⟨0, 0, 0, 0, 0, 0, 0, 77777⟩
theorem LendEvents_ok (hR : R.Ok) {a : AVal} {l : List Ev} (ha : IsEvs a l) (hn : l.length ≤ 1048576) {h : AHeap A} {K : AVal → AHeap A → Prop}
    (hk : K (.sl h.length 0 l.length (l.length + 2) false) (h ++ [.cells t_api_Event ((l ++ [evMk, evMk]).flatMap Ev.row)])) : Tri Pr R n_law0_LendEvents [a] h K := by
  have hx : ixs 0 [a] = true := ha.ix
  have hcl : AObj.closed R (.cells t_api_Event ((l ++ [evMk, evMk]).flatMap Ev.row) : AObj A) := closed_cells (evs_ix 0 _)
  refine Tri.make hR hx (v0 := .sl 0 0 l.length (l.length + 2) false) (h0 := [.cells t_api_Event ((l ++ [evMk, evMk]).flatMap Ev.row)]) (Tri.post ?_) (by simp only [AVal.ren, List.map_cons, List.map_nil, hcl.2, Nat.add_zero]; exact hk)
  apply c_law0_LendEvents
  unfold p_law0_LendEvents
  refine CopyEvents_ok hR (ha.rd _) ((ha.arg 0 []).src _ (by simp)) (by omega) ?_
  have hl := fun K => (ha.rd (A := A) []).len K
  have src : ∀ (h : AHeap A) (q : Nat), h[q]? = some (.cells t_api_Event (evMk.row ++ evMk.row)) → srcOf 8 h (.sl q 0 2 2 true) = some (([evMk, evMk] : List Ev).length, ([evMk, evMk] : List Ev).flatMap Ev.row) := by
    intro h q hq
    simp only [srcOf, cellsAt, hq, Option.bind_some, AObj.read]
    rfl
  have fin : ∀ (e : Nat) (g : AHeap A), g[e]? = some (.cells t_api_Event ((l ++ [evMk, evMk]).flatMap Ev.row)) → Gives Pr R 0 g [.sl e 0 l.length (l.length + 2) false] fun vs h2 => ∃ v, vs = [v] ∧ v = .sl 0 0 l.length (l.length + 2) false ∧ h2 = [.cells t_api_Event ((l ++ [evMk, evMk]).flatMap Ev.row)] := by
    intro e g hg
    refine Gives.selc hR [e] [.cells t_api_Event ((l ++ [evMk, evMk]).flatMap Ev.row)] [.sl 0 0 l.length (l.length + 2) false] (by simp) rfl (by simp) (fun k j hk => ?_) (by simpa using hcl) ?_ (by simp [ixs, AVal.ix]) (by simp) ⟨_, rfl, rfl, rfl⟩
    · match k, hk with
      | 0, hk => simp at hk; subst hk; simpa using hg
      | k + 1, hk => simp at hk
    · simp [rens, AVal.ren]
  by_cases h0 : l = []
  · rw [if_pos h0]
    subst h0
    simp -implicitDefEqProofs
    refine app_new (l := [evMk, evMk]) rfl (src _ _ rfl) (by simp) ?_
    rw [if_neg (by simp)]
    simp -implicitDefEqProofs [hl]
    rw [rslP_hi (n := 0) (x := 0) rfl (by omega) (by omega)]
    exact fin 2 _ rfl
  · rw [if_neg h0]
    simp -implicitDefEqProofs
    refine app_evs7 (es := l) (l := [evMk, evMk]) (e := 1) (.inr ⟨h0, rfl, rfl⟩) (src _ _ rfl) (by simp; omega) fun x' e' h' hev hsame hl' he' => ?_
    simp -implicitDefEqProofs [hl]
    rcases hev with ⟨h, _⟩ | ⟨_, rfl, hg⟩
    · simp at h
    · rw [rslP_hi (n := l.length) rfl (by simp) (by simp)]
      have := fin e' h' hg
      simpa using this
theorem KeptEvents_ok (hR : R.Ok) {a : AVal} {l : List Ev} (ha : IsEvs a l) (hn : l.length ≤ 1048576) {h : AHeap A} {q : Nat} (hq : h[q]? = some (.cells t_api_Event ((l ++ [evMk, evMk]).flatMap Ev.row))) {K : AVal → AHeap A → Prop}
    (hk : K (.bool true) h) : Tri Pr R n_law0_KeptEvents [.sl q 0 l.length (l.length + 2) false, a] h K := by
  apply c_law0_KeptEvents
  unfold p_law0_KeptEvents
  have e1 := w64 (n := (l.length : Int) + 2) (by omega)
  have e2 := w64 (n := (l.length : Int) + 1) (by omega)
  have hl := fun K => (ha.rd h).len K
  have hp1 : Rd (.sl q 0 l.length (l.length + 2) false) l h := by
    have := Rd.part (l ++ [evMk, evMk]) 0 l.length q 0 (l.length + 2) false hq (by simp) rfl
    simpa using this
  have hp2 : Rd (.sl q 0 (l.length + 2) (l.length + 2) false) (l ++ [evMk, evMk]) h := by
    have := Rd.part (l ++ [evMk, evMk]) 0 (l.length + 2) q 0 (l.length + 2) false hq (by simp) rfl
    have e9 : List.take (l.length + 2) (l ++ [evMk, evMk]) = l ++ [evMk, evMk] := List.take_of_length_le (by simp)
    simpa [e9] using this
  obtain ⟨x1, hx1, hv1⟩ := hp2.get l.length (by simp)
  obtain ⟨x2, hx2, hv2⟩ := hp2.get (l.length + 1) (by simp)
  have g1 : (l ++ [evMk, evMk])[l.length]'(by simp) = evMk := by simp
  have g2 : (l ++ [evMk, evMk])[l.length + 1]'(by simp) = evMk := by simp
  rw [g1] at hv1
  rw [g2] at hv2
  have c2 : ((l.length + 1 : Nat) : Int) = (l.length : Int) + 1 := by omega
  rw [c2] at hx2
  simp -implicitDefEqProofs [e1]
  rw [rslP_hi (n := l.length + 2) (by omega) (by omega) (by omega)]
  refine SameEvents_ok hR (l := l) (r := l) hp1 (ha.rd h) (by omega) ?_
  simp -implicitDefEqProofs [hl, hx1, hv1, hx2, hv2, e2, evMk, Ev.row]
  exact hk
theorem over_one (cs : List AVal) (p : Nat) (v : AVal) (hp : p < cs.length) : over cs p [v] = cs.set p v := by
  unfold over
  rw [List.set_eq_take_append_cons_drop, if_pos hp]
  simp
theorem setO_int {h : AHeap A} {q p : Nat} {cs : List AVal} {v : Int} {k : IntKind} {t : TypeId} (hp : p < cs.length) : setO (h.set q (.cells t cs)) q p [.int k v] (.cells t cs) = some (h.set q (.cells t (cs.set p (.int k v)))) := by
  unfold setO
  simp only
  rw [if_pos ⟨by simp; omega, rfl⟩, over_one _ _ _ hp, List.set_set]
def SpI (h : AHeap A) (q n : Nat) (mm : Nat) (y : List AVal) (g : AHeap A) : Prop :=
  ∃ (i : Nat) (cs : List AVal), y = [.int .i64 i] ∧ g = h.set q (.cells t_api_Event cs) ∧ cs.length = n * 8 ∧ (∀ j, j < n → ∃ x, cs[j * 8 + 7]? = some (.int .i64 x)) ∧ i ≤ n ∧ mm = n - i
theorem SpoilEvents_ok (hR : R.Ok) {es : List Ev} (hn : es.length ≤ 1048576) {h : AHeap A} {q : Nat} (hq : es ≠ [] → h[q]? = some (.cells t_api_Event (es.flatMap Ev.row))) {K : AVal → AHeap A → Prop}
    (hk : ∀ g : AHeap A, g.length = h.length → (∀ i, i ≠ q → g[i]? = h[i]?) → K (.tup []) g) : Tri Pr R n_law0_SpoilEvents [NewEvs es q] h K := by
  apply c_law0_SpoilEvents
  unfold p_law0_SpoilEvents
  by_cases h0 : es = []
  · subst h0
    have hN : NewEvs [] q = .nils := rfl
    rw [hN]
    refine loopP_unr 1 ?_
    rw [unr]
    simp -implicitDefEqProofs
    exact hk _ rfl fun _ _ => rfl
  have hq := hq h0
  have hN : NewEvs es q = .sl q 0 es.length es.length false := by unfold NewEvs; rw [if_neg h0]
  rw [hN]
  have hql := (List.getElem?_eq_some_iff.1 hq).1
  refine loopP_go (SpI h q es.length) es.length (Gives.done (by simp) ⟨0, es.flatMap Ev.row, rfl, (set_same hq).symm, evs_len es, ?_, by omega, rfl⟩) ?_
  · intro j hj
    obtain ⟨p, hp, hv⟩ := (Rd.sl es q es.length false hq).get j hj
    refine ⟨es[j].tick, ?_⟩
    have := rows_drop (f := Ev.row) (n := 8) (fun _ => rfl) es j hj
    have h2 := congrArg (fun l : List AVal => l[7]?) this
    simp only [List.getElem?_drop] at h2
    rw [h2]
    rfl
  rintro mm y g ⟨i, cs, rfl, rfl, hcl, hint, hi, rfl⟩
  by_cases h1 : i < es.length
  · have h1' : (i : Int) < (es.length : Int) := by omega
    obtain ⟨x, hx⟩ := hint i h1
    have e3 := w64 (n := (i : Int) + 1) (by omega)
    have hg : (h.set q (.cells t_api_Event cs) : AHeap A)[q]? = some (.cells t_api_Event cs) := by simp [hql]
    have e7 : i * 8 + 7 < cs.length := by omega
    simp -implicitDefEqProofs [h1, h1', e3]
    simp -implicitDefEqProofs [hg, AObj.read, hx]
    rw [setO_int e7]
    simp -implicitDefEqProofs [hP]
    refine Gives.done (by simp) ⟨es.length - (i + 1), by omega, i + 1, cs.set (i * 8 + 7) _, rfl, rfl, by simpa using hcl, fun j hj => ?_, by omega, rfl⟩
    by_cases hji : i * 8 + 7 = j * 8 + 7
    · rw [← hji, List.getElem?_set_self e7]; exact ⟨_, rfl⟩
    · rw [List.getElem?_set_ne hji]; exact hint j hj
  · have h1' : ¬ (i : Int) < (es.length : Int) := by omega
    simp -implicitDefEqProofs [h1, h1']
    exact hk _ (by simp) fun j hj => by rw [List.getElem?_set_ne (Ne.symm hj)]
end Go.AI

/- Journals: what is lent, and both journals that are opened. -/
set_option linter.all false
namespace Go.AI
variable {A : Type} {R : Adts A}
theorem EvArg.ofRd {a : AVal} {l : List Ev} {n : Nat} {t : AHeap A} (hr : ∀ h : AHeap A, (∀ k o, t[k]? = some o → h[n + k]? = some o) → Rd a l h) (h0 : AHeap A) (hh : ∀ k o, t[k]? = some o → h0[n + k]? = some o) : EvArg a l n t :=
  ⟨(hr h0 hh).len, fun h hg => (hr h hg).get, fun h hg => (hr h hg).src⟩
theorem EvArg.pre (l r : List Ev) (cap : Nat) (ex : Bool) : EvArg (.sl 3 0 l.length cap ex) l 3 ([.cells t_api_Event ((l ++ r).flatMap Ev.row)] : AHeap A) := by
  refine EvArg.ofRd (fun h hg => ?_) [.dead, .dead, .dead, .cells t_api_Event ((l ++ r).flatMap Ev.row)] ?_
  · have := Rd.part (l ++ r) 0 l.length 3 0 cap ex (hg 0 _ rfl) (by simp) rfl
    simpa using this
  · intro k o hk
    match k, hk with
    | 0, hk => exact hk
    | k + 1, hk => simp at hk
section
variable {bk rbk : Int → List Bs → A} {dk rdk : List Bs → Ws → Bool → A} {jm rjm : Nat → Nat → JS → A}
theorem jrn_callP (hR : R.Ok) (hB : HasBook R bk) (hD : HasDisk R dk) (hJ : HasJrn R jm) {m : Int} {ts ts' k k' : List Bs} {w w' : Ws} {dn dn' : Bool} {J J' : JS} {f : FuncId} {l r : List Ev} {v : AVal} (hv : v.ix 0 = true)
    (t : ∀ (a : AVal) (u : AHeap A), EvArg a l 3 u → (∀ o ∈ u, o.closed R) → Tri Pr R f [.ptr 2 0, a] (.adt (bk m ts) :: .adt (dk k w dn) :: .adt (jm 0 1 J) :: u) fun x g => x = v ∧ g = .adt (bk m ts') :: .adt (dk k' w' dn') :: .adt (jm 0 1 J') :: u)
    {h : AHeap A} {b d j q cap : Nat} {ex : Bool} (hb : h[b]? = some (.adt (bk m ts))) (hd : h[d]? = some (.adt (dk k w dn))) (hj : h[j]? = some (.adt (jm b d J))) (hne : b ≠ d ∧ b ≠ j ∧ d ≠ j) (hq : h[q]? = some (.cells t_api_Event ((l ++ r).flatMap Ev.row))) (hnq : b ≠ q ∧ d ≠ q ∧ j ≠ q) {K : AVal → AHeap A → Prop}
    (hk : K v (((h.set b (.adt (bk m ts'))).set d (.adt (dk k' w' dn'))).set j (.adt (jm b d J')))) : Tri Pr R f [.ptr j 0, .sl q 0 l.length cap ex] h K :=
  jrn_frame1 hR hB hD hJ (o := .cells t_api_Event ((l ++ r).flatMap Ev.row)) (closed_cells (evs_ix 0 _)) hv (t _ _ (EvArg.pre l r cap ex) (by simp only [List.mem_singleton, forall_eq]; exact closed_cells (evs_ix 0 _))) hb hd hj hq hne hnq hk
theorem AppendP (hR : R.Ok) (hB : HasBook R bk) (hD : HasDisk R dk) (hJ : HasJrn R jm) {m : Int} {ts t : List Bs} {k : List Bs} {w : Ws} {dn : Bool} {J : JS} {l r : List Ev} {ss : List Bs} {p e : Int} (hok : bOk m ts) (hdk : dOk k w) (hw : w.length ≤ 600) (hn : J.es.length ≤ 300) (hl : l.length < 1000000000)
    (he : jPut m ts J k.length dn l = (t, ss, p, e)) {h : AHeap A} {b d j q cap : Nat} {ex : Bool} (hb : h[b]? = some (.adt (bk m ts))) (hd : h[d]? = some (.adt (dk k w dn))) (hj : h[j]? = some (.adt (jm b d J))) (hne : b ≠ d ∧ b ≠ j ∧ d ≠ j) (hq : h[q]? = some (.cells t_api_Event ((l ++ r).flatMap Ev.row))) (hnq : b ≠ q ∧ d ≠ q ∧ j ≠ q) {K : AVal → AHeap A → Prop}
    (hk : ∀ k' w' J', (k', w', J') = (if e = 0 then (dPut k (w ++ jWs (2 + J.es.length) ss), [], ⟨J.boot, p, J.es ++ l, J.over⟩) else (k, w, J)) → K (.int .i64 e) (((h.set b (.adt (bk m t))).set d (.adt (dk k' w' dn))).set j (.adt (jm b d J')))) : Tri Pr R n_journal_Journal_Append [.ptr j 0, .sl q 0 l.length cap ex] h K := by
  by_cases h0 : e = 0
  · exact jrn_callP hR hB hD hJ rfl (fun a u ha hu => Append_can hR hB hD hJ hok hdk hw hn ha hl hu he ⟨rfl, by rw [if_pos h0]⟩) hb hd hj hne hq hnq (hk _ _ _ (by rw [if_pos h0]))
  · exact jrn_callP hR hB hD hJ rfl (fun a u ha hu => Append_can hR hB hD hJ hok hdk hw hn ha hl hu he ⟨rfl, by rw [if_neg h0]⟩) hb hd hj hne hq hnq (hk _ _ _ (by rw [if_neg h0]))
theorem WriteP (hR : R.Ok) (hB : HasBook R bk) (hD : HasDisk R dk) (hJ : HasJrn R jm) {m : Int} {ts t : List Bs} {k : List Bs} {w : Ws} {dn : Bool} {J : JS} {l r : List Ev} {ss : List Bs} {p e : Int} (hok : bOk m ts) (hdk : dOk k w) (hw : w.length ≤ 600) (hn : J.es.length ≤ 300) (hl : l.length < 1000000000)
    (he : jPut m ts J k.length dn l = (t, ss, p, e)) {h : AHeap A} {b d j q cap : Nat} {ex : Bool} (hb : h[b]? = some (.adt (bk m ts))) (hd : h[d]? = some (.adt (dk k w dn))) (hj : h[j]? = some (.adt (jm b d J))) (hne : b ≠ d ∧ b ≠ j ∧ d ≠ j) (hq : h[q]? = some (.cells t_api_Event ((l ++ r).flatMap Ev.row))) (hnq : b ≠ q ∧ d ≠ q ∧ j ≠ q) {K : AVal → AHeap A → Prop}
    (hk : ∀ k' w' J', (k', w', J') = (if e = 0 then (k, w ++ jWs (2 + J.es.length) ss, ⟨J.boot, J.prev, J.es, true⟩) else (k, w, J)) → K (.int .i64 e) (((h.set b (.adt (bk m t))).set d (.adt (dk k' w' dn))).set j (.adt (jm b d J')))) : Tri Pr R n_journal_Journal_Write [.ptr j 0, .sl q 0 l.length cap ex] h K := by
  by_cases h0 : e = 0
  · exact jrn_callP hR hB hD hJ rfl (fun a u ha hu => Write_can hR hB hD hJ hok hdk hw hn ha hl hu he ⟨rfl, by rw [if_pos h0]⟩) hb hd hj hne hq hnq (hk _ _ _ (by rw [if_pos h0]))
  · exact jrn_callP hR hB hD hJ rfl (fun a u ha hu => Write_can hR hB hD hJ hok hdk hw hn ha hl hu he ⟨rfl, by rw [if_neg h0]⟩) hb hd hj hne hq hnq (hk _ _ _ (by rw [if_neg h0]))
theorem rjrn_callE (hR : R.Ok) (hB : HasRBook R rbk) (hD : HasRDisk R rdk) (hJ : HasRJrn R rjm) {m : Int} {ts ts' k k' : List Bs} {w w' : Ws} {dn dn' : Bool} {J J' : JS} {f : FuncId} {a : AVal} {l : List Ev} {v : AVal} (hv : v.ix 0 = true)
    (t : ∀ (a : AVal) (u : AHeap A), EvArg a l 3 u → (∀ o ∈ u, o.closed R) → Tri Pr R f [.ptr 2 0, a] (.adt (rbk m ts) :: .adt (rdk k w dn) :: .adt (rjm 0 1 J) :: u) fun x g => x = v ∧ g = .adt (rbk m ts') :: .adt (rdk k' w' dn') :: .adt (rjm 0 1 J') :: u)
    {h : AHeap A} {b d j : Nat} (hb : h[b]? = some (.adt (rbk m ts))) (hd : h[d]? = some (.adt (rdk k w dn))) (hj : h[j]? = some (.adt (rjm b d J))) (hne : b ≠ d ∧ b ≠ j ∧ d ≠ j) (ha : IsEvs a l) {K : AVal → AHeap A → Prop}
    (hk : K v (((h.set b (.adt (rbk m ts'))).set d (.adt (rdk k' w' dn'))).set j (.adt (rjm b d J')))) : Tri Pr R f [.ptr j 0, a] h K :=
  rjrn_frame0 hR hB hD hJ (us := [a]) ha.ix hv (t _ [] (ha.arg _ _) (by simp)) hb hd hj hne hk
theorem RAppendP (hR : R.Ok) (hB : HasRBook R rbk) (hD : HasRDisk R rdk) (hJ : HasRJrn R rjm) {m : Int} {ts t : List Bs} {k : List Bs} {w : Ws} {dn : Bool} {J : JS} {a : AVal} {l : List Ev} {ss : List Bs} {p e : Int} (hok : bOk m ts) (hdk : dOk k w) (hw : w.length ≤ 600) (hn : J.es.length ≤ 300) (hl : l.length < 1000000000) (ha : IsEvs a l)
    (he : jPut m ts J k.length dn l = (t, ss, p, e)) {h : AHeap A} {b d j : Nat} (hb : h[b]? = some (.adt (rbk m ts))) (hd : h[d]? = some (.adt (rdk k w dn))) (hj : h[j]? = some (.adt (rjm b d J))) (hne : b ≠ d ∧ b ≠ j ∧ d ≠ j) {K : AVal → AHeap A → Prop}
    (hk : ∀ k' w' J', (k', w', J') = (if e = 0 then (dPut k (w ++ jWs (2 + J.es.length) ss), [], ⟨J.boot, p, J.es ++ l, J.over⟩) else (k, w, J)) → K (.int .i64 e) (((h.set b (.adt (rbk m t))).set d (.adt (rdk k' w' dn))).set j (.adt (rjm b d J')))) : Tri Pr R n_ref1_Journal_Append [.ptr j 0, a] h K := by
  by_cases h0 : e = 0
  · exact rjrn_callE hR hB hD hJ rfl (fun a u ha hu => RAppend_can hR hB hD hJ hok hdk hw hn ha hl hu he ⟨rfl, by rw [if_pos h0]⟩) hb hd hj hne ha (hk _ _ _ (by rw [if_pos h0]))
  · exact rjrn_callE hR hB hD hJ rfl (fun a u ha hu => RAppend_can hR hB hD hJ hok hdk hw hn ha hl hu he ⟨rfl, by rw [if_neg h0]⟩) hb hd hj hne ha (hk _ _ _ (by rw [if_neg h0]))
theorem RWriteP (hR : R.Ok) (hB : HasRBook R rbk) (hD : HasRDisk R rdk) (hJ : HasRJrn R rjm) {m : Int} {ts t : List Bs} {k : List Bs} {w : Ws} {dn : Bool} {J : JS} {a : AVal} {l : List Ev} {ss : List Bs} {p e : Int} (hok : bOk m ts) (hdk : dOk k w) (hw : w.length ≤ 600) (hn : J.es.length ≤ 300) (hl : l.length < 1000000000) (ha : IsEvs a l)
    (he : jPut m ts J k.length dn l = (t, ss, p, e)) {h : AHeap A} {b d j : Nat} (hb : h[b]? = some (.adt (rbk m ts))) (hd : h[d]? = some (.adt (rdk k w dn))) (hj : h[j]? = some (.adt (rjm b d J))) (hne : b ≠ d ∧ b ≠ j ∧ d ≠ j) {K : AVal → AHeap A → Prop}
    (hk : ∀ k' w' J', (k', w', J') = (if e = 0 then (k, w ++ jWs (2 + J.es.length) ss, ⟨J.boot, J.prev, J.es, true⟩) else (k, w, J)) → K (.int .i64 e) (((h.set b (.adt (rbk m t))).set d (.adt (rdk k' w' dn))).set j (.adt (rjm b d J')))) : Tri Pr R n_ref1_Journal_Write [.ptr j 0, a] h K := by
  by_cases h0 : e = 0
  · exact rjrn_callE hR hB hD hJ rfl (fun a u ha hu => RWrite_can hR hB hD hJ hok hdk hw hn ha hl hu he ⟨rfl, by rw [if_pos h0]⟩) hb hd hj hne ha (hk _ _ _ (by rw [if_pos h0]))
  · exact rjrn_callE hR hB hD hJ rfl (fun a u ha hu => RWrite_can hR hB hD hJ hok hdk hw hn ha hl hu he ⟨rfl, by rw [if_neg h0]⟩) hb hd hj hne ha (hk _ _ _ (by rw [if_neg h0]))
/-- The four objects that stay. -/
structure St (bk rbk : Int → List Bs → A) (dk rdk : List Bs → Ws → Bool → A) (m : Int) (h : AHeap A) (t1 t2 k1 k2 : List Bs) (w1 w2 : Ws) (d1 d2 : Bool) : Prop where
  b : h[0]? = some (.adt (bk m t1))
  r : h[1]? = some (.adt (rbk m t2))
  d : h[2]? = some (.adt (dk k1 w1 d1))
  s : h[3]? = some (.adt (rdk k2 w2 d2))
theorem get_set {h : AHeap A} {i : Nat} {o o' : AObj A} (hi : h[i]? = some o) : (h.set i o')[i]? = some o' := List.getElem?_set_self (List.getElem?_eq_some_iff.1 hi).1
theorem St.lt {m : Int} {h : AHeap A} {t1 t2 k1 k2 : List Bs} {w1 w2 : Ws} {d1 d2 : Bool} (s : St bk rbk dk rdk m h t1 t2 k1 k2 w1 w2 d1 d2) : 4 ≤ h.length := (List.getElem?_eq_some_iff.1 s.s).1
theorem St.set0 {m : Int} {h : AHeap A} {t1 t2 k1 k2 : List Bs} {w1 w2 : Ws} {d1 d2 : Bool} (s : St bk rbk dk rdk m h t1 t2 k1 k2 w1 w2 d1 d2) (t : List Bs) : St bk rbk dk rdk m (h.set 0 (.adt (bk m t))) t t2 k1 k2 w1 w2 d1 d2 :=
  ⟨get_set s.b, by rw [List.getElem?_set_ne (by omega)]; exact s.r, by rw [List.getElem?_set_ne (by omega)]; exact s.d, by rw [List.getElem?_set_ne (by omega)]; exact s.s⟩
theorem St.set1 {m : Int} {h : AHeap A} {t1 t2 k1 k2 : List Bs} {w1 w2 : Ws} {d1 d2 : Bool} (s : St bk rbk dk rdk m h t1 t2 k1 k2 w1 w2 d1 d2) (t : List Bs) : St bk rbk dk rdk m (h.set 1 (.adt (rbk m t))) t1 t k1 k2 w1 w2 d1 d2 :=
  ⟨by rw [List.getElem?_set_ne (by omega)]; exact s.b, get_set s.r, by rw [List.getElem?_set_ne (by omega)]; exact s.d, by rw [List.getElem?_set_ne (by omega)]; exact s.s⟩
theorem St.set2 {m : Int} {h : AHeap A} {t1 t2 k1 k2 : List Bs} {w1 w2 : Ws} {d1 d2 : Bool} (s : St bk rbk dk rdk m h t1 t2 k1 k2 w1 w2 d1 d2) (k : List Bs) (w : Ws) (d : Bool) : St bk rbk dk rdk m (h.set 2 (.adt (dk k w d))) t1 t2 k k2 w w2 d d2 :=
  ⟨by rw [List.getElem?_set_ne (by omega)]; exact s.b, by rw [List.getElem?_set_ne (by omega)]; exact s.r, get_set s.d, by rw [List.getElem?_set_ne (by omega)]; exact s.s⟩
theorem St.set3 {m : Int} {h : AHeap A} {t1 t2 k1 k2 : List Bs} {w1 w2 : Ws} {d1 d2 : Bool} (s : St bk rbk dk rdk m h t1 t2 k1 k2 w1 w2 d1 d2) (k : List Bs) (w : Ws) (d : Bool) : St bk rbk dk rdk m (h.set 3 (.adt (rdk k w d))) t1 t2 k1 k w1 w d1 d :=
  ⟨by rw [List.getElem?_set_ne (by omega)]; exact s.b, by rw [List.getElem?_set_ne (by omega)]; exact s.r, by rw [List.getElem?_set_ne (by omega)]; exact s.d, get_set s.s⟩
theorem St.move {m : Int} {h g : AHeap A} {t1 t2 k1 k2 : List Bs} {w1 w2 : Ws} {d1 d2 : Bool} (s : St bk rbk dk rdk m h t1 t2 k1 k2 w1 w2 d1 d2) (hg : ∀ i, i < 4 → g[i]? = h[i]?) : St bk rbk dk rdk m g t1 t2 k1 k2 w1 w2 d1 d2 :=
  ⟨(hg 0 (by omega)).trans s.b, (hg 1 (by omega)).trans s.r, (hg 2 (by omega)).trans s.d, (hg 3 (by omega)).trans s.s⟩
theorem jOpen_err {m : Int} {ts t k k' : List Bs} {w w' : Ws} {dn : Bool} {e : Int} (he : jOpen m ts k w dn = (t, k', w', .inl e)) : e ≠ 0 := by
  unfold jOpen at he
  split at he
  · simp at he; omega
  · split at he
    · simp at he; omega
    · split at he
      split at he
      split at he
      · simp at he
      · simp at he; omega
theorem opened11_ok (hR : R.Ok) (hB : HasBook R bk) (hB' : HasRBook R rbk) (hD : HasDisk R dk) (hD' : HasRDisk R rdk) (hJ : HasJrn R jm) (hJ' : HasRJrn R rjm) {m : Int} {ts t k k' : List Bs} {w w' : Ws} {dn : Bool} {res : Int ⊕ JS} (hok : bOk m ts) (hdk : dOk k w) (hw : w.length ≤ 900) (he : jOpen m ts k w dn = (t, k', w', res))
    {h : AHeap A} (s : St bk rbk dk rdk m h ts ts k k w w dn dn) {K : AVal → AHeap A → Prop}
    (hk1 : ∀ e g, res = .inl e → g.length = h.length → (∀ i, 4 ≤ i → g[i]? = h[i]?) → St bk rbk dk rdk m g t t k' k' w' w' dn dn → K (.tup [.nilp, .nilp, .bool true]) g)
    (hk2 : ∀ J g, res = .inr J → g.length = h.length + 2 → (∀ i, 4 ≤ i → i < h.length → g[i]? = h[i]?) → St bk rbk dk rdk m g t t k' k' w' w' dn dn → g[h.length]? = some (.adt (jm 0 2 J)) → g[h.length + 1]? = some (.adt (rjm 1 3 J)) → K (.tup [.ptr h.length 0, .ptr (h.length + 1) 0, .bool true]) g) :
    Tri Pr R n_law11_opened [.ptr 0 0, .ptr 1 0, .ptr 2 0, .ptr 3 0] h K := by
  have hl := s.lt
  apply c_law11_opened
  unfold p_law11_opened
  refine Open_ok hR hB hD hJ hok hdk hw he s.b s.d (by omega) ?_
  cases res with
  | inl e =>
    have h0 := jOpen_err he
    have s1 := (s.set0 t).set2 k' w' dn
    simp -implicitDefEqProofs
    refine ROpen_ok hR hB' hD' hJ' hok hdk hw he s1.r s1.s (by omega) ?_
    have s2 := (s1.set1 t).set3 k' w' dn
    have h0' : (e != 0) = true := by simpa using h0
    simp -implicitDefEqProofs [h0']
    refine num14_ok ?_
    simp -implicitDefEqProofs
    refine hk1 _ _ rfl (by simp) (fun i hi => ?_) s2
    rw [List.getElem?_set_ne (by omega), List.getElem?_set_ne (by omega), List.getElem?_set_ne (by omega), List.getElem?_set_ne (by omega)]
  | inr J =>
    have s1 := ((s.set0 t).set2 k' w' dn).move (g := ((h.set 0 (.adt (bk m t))).set 2 (.adt (dk k' w' dn))) ++ [.adt (jm 0 2 J)]) fun i hi => by rw [List.getElem?_append_left (by simp; omega)]
    have q1 : (((h.set 0 (.adt (bk m t))).set 2 (.adt (dk k' w' dn))) ++ [.adt (jm 0 2 J)] : AHeap A)[h.length]? = some (.adt (jm 0 2 J)) := by
      rw [List.getElem?_append_right (by simp)]; simp
    have q2 : ∀ i, 4 ≤ i → i < h.length → (((h.set 0 (.adt (bk m t))).set 2 (.adt (dk k' w' dn))) ++ [.adt (jm 0 2 J)] : AHeap A)[i]? = h[i]? := fun i hi hi2 => by
      rw [List.getElem?_append_left (by simp; omega), List.getElem?_set_ne (by omega), List.getElem?_set_ne (by omega)]
    have q3 : (((h.set 0 (.adt (bk m t))).set 2 (.adt (dk k' w' dn))) ++ [.adt (jm 0 2 J)] : AHeap A).length = h.length + 1 := by simp
    simp only
    generalize (((h.set 0 (.adt (bk m t))).set 2 (.adt (dk k' w' dn))) ++ [.adt (jm 0 2 J)] : AHeap A) = g1 at *
    simp -implicitDefEqProofs
    refine ROpen_ok hR hB' hD' hJ' hok hdk hw he s1.r s1.s (by omega) ?_
    have s2 := ((s1.set1 t).set3 k' w' dn).move (g := ((g1.set 1 (.adt (rbk m t))).set 3 (.adt (rdk k' w' dn))) ++ [.adt (rjm 1 3 J)]) fun i hi => by rw [List.getElem?_append_left (by simp; omega)]
    simp -implicitDefEqProofs
    refine num14_ok ?_
    simp -implicitDefEqProofs
    rw [q3]
    refine hk2 J _ rfl (by simp [q3]) (fun i hi hi2 => ?_) s2 ?_ ?_
    · rw [List.getElem?_append_left (by simp; omega), List.getElem?_set_ne (by omega), List.getElem?_set_ne (by omega)]; exact q2 i hi hi2
    · rw [List.getElem?_append_left (by simp; omega), List.getElem?_set_ne (by omega), List.getElem?_set_ne (by omega)]; exact q1
    · rw [List.getElem?_append_right (by simp [q3])]; simp [q3]
end
end Go.AI

/- Journals: what a round keeps. -/
set_option linter.all false
namespace Go.AI
variable {A : Type} {R : Adts A}
/-- An act. -/
structure Act11 where
  kind : Int
  a : AVal
  l : List Ev
  ha : IsEvs a l
  mask : Int
  torn : Int
  sector : Int
  s : Bs
def Act11.row (x : Act11) : List AVal := [.int .i64 x.kind, x.a, .int .i64 x.mask, .int .i64 x.torn, .int .i64 x.sector, .str x.s]
theorem jLoad_len (ts k : List Bs) : ∀ (n : Nat) (p : Int) (es : List Ev), es.length ≤ k.length → (jLoad ts k n p es).2.length ≤ k.length
  | 0, _, _, h => h
  | n + 1, p, es, h => by
    unfold jLoad
    split
    · rename_i h1
      split
      split
      · exact jLoad_len ts k n _ _ (by simp; omega)
      · exact h
    · exact h
theorem jOpen_inr {m : Int} {ts t k k' : List Bs} {w w' : Ws} {dn : Bool} {J : JS} (he : jOpen m ts k w dn = (t, k', w', .inr J)) : w' = [] ∧ J.over = false ∧ J.es.length ≤ k.length := by
  unfold jOpen at he
  split at he
  · simp at he
  · split at he
    · simp at he
    · split at he
      split at he
      split at he
      · rename_i t1 s e0 _ _
        have hl : ∀ kk : List Bs, kk.length = k.length → (jLoad t1 kk k.length 0 []).2.length ≤ k.length := fun kk hkk => by
          have := jLoad_len t1 kk k.length 0 [] (by simp)
          omega
        generalize hq : List.set (dPut k w) _ s = kk at he
        have hl2 := hl kk (by rw [← hq, List.length_set, dPut_len])
        generalize jLoad t1 kk k.length 0 [] = z at he hl2
        obtain ⟨p9, es9⟩ := z
        simp only [Prod.mk.injEq, Sum.inr.injEq] at he
        obtain ⟨_, _, rfl, rfl⟩ := he
        exact ⟨rfl, rfl, hl2⟩
      · simp at he
structure WI (m : Int) (i : Nat) (ts k : List Bs) (w : Ws) (J : JS) : Prop where
  ok : bOk m ts
  dk : dOk k w
  w : w.length ≤ i + (if J.over = true then 256 else 0)
  es : J.es.length ≤ 256
theorem WI.w600 {m : Int} {i : Nat} {ts k : List Bs} {w : Ws} {J : JS} (h : WI m i ts k w J) (hi : i ≤ 60) : w.length ≤ 600 := by
  have := h.w
  split at this <;> omega
theorem WI.up {m : Int} {i : Nat} {ts k : List Bs} {w : Ws} {J : JS} (h : WI m i ts k w J) : WI m (i + 1) ts k w J := ⟨h.ok, h.dk, by have := h.w; omega, h.es⟩
theorem WI.app {m : Int} {i : Nat} {ts t k k' : List Bs} {w w' : Ws} {J J' : JS} {dn : Bool} {l : List Ev} {ss : List Bs} {p e : Int} (h : WI m i ts k w J) (he : jPut m ts J k.length dn l = (t, ss, p, e))
    (hk : (k', w', J') = (if e = 0 then (dPut k (w ++ jWs (2 + J.es.length) ss), [], ⟨J.boot, p, J.es ++ l, J.over⟩) else (k, w, J))) : WI m (i + 1) t k' w' J' := by
  have hb := jPut_bok h.ok he
  have hd := h.dk.size
  obtain ⟨f1, f2⟩ := jPut_facts he h.dk
  by_cases h0 : e = 0
  · rw [if_pos h0] at hk
    obtain ⟨rfl, hov, hal, hsl, hlen, hd2⟩ := f2 h0
    simp only [Prod.mk.injEq] at hk
    obtain ⟨rfl, rfl, rfl⟩ := hk
    exact ⟨hb, dOk_put hd2, by simp, by simp; omega⟩
  · rw [if_neg h0] at hk
    simp only [Prod.mk.injEq] at hk
    obtain ⟨rfl, rfl, rfl⟩ := hk
    exact ⟨hb, h.dk, h.up.w, h.es⟩
theorem WI.wr {m : Int} {i : Nat} {ts t k k' : List Bs} {w w' : Ws} {J J' : JS} {dn : Bool} {l : List Ev} {ss : List Bs} {p e : Int} (h : WI m i ts k w J) (he : jPut m ts J k.length dn l = (t, ss, p, e))
    (hk : (k', w', J') = (if e = 0 then (k, w ++ jWs (2 + J.es.length) ss, ⟨J.boot, J.prev, J.es, true⟩) else (k, w, J))) : WI m (i + 1) t k' w' J' := by
  have hb := jPut_bok h.ok he
  have hd := h.dk.size
  obtain ⟨f1, f2⟩ := jPut_facts he h.dk
  by_cases h0 : e = 0
  · rw [if_pos h0] at hk
    obtain ⟨rfl, hov, hal, hsl, hlen, hd2⟩ := f2 h0
    simp only [Prod.mk.injEq] at hk
    obtain ⟨rfl, rfl, rfl⟩ := hk
    have hw := h.w
    rw [hov] at hw
    refine ⟨hb, hd2, ?_, h.es⟩
    simp only [List.length_append, jWs_len, if_true]
    simp at hw
    omega
  · rw [if_neg h0] at hk
    simp only [Prod.mk.injEq] at hk
    obtain ⟨rfl, rfl, rfl⟩ := hk
    exact ⟨hb, h.dk, h.up.w, h.es⟩
theorem WI.sec {m : Int} {i : Nat} {ts k : List Bs} {w : Ws} {J : JS} {d : Bool} {x : Int} {s : Bs} (h : WI m i ts k w J) : WI m (i + 1) ts k (dWrite k w d x s).1 J := by
  have := dOk_any (d := d) (x := x) (s := s) h.dk
  have hw := h.w
  exact ⟨h.ok, this.1, by omega, h.es⟩
theorem WI.lost {m : Int} {i : Nat} {ts k : List Bs} {w : Ws} {J : JS} {mask torn : Int} (h : WI m i ts k w J) (ht : 0 ≤ torn) : WI m i ts (dLost mask torn k w) [] J :=
  ⟨h.ok, dOk_lost h.dk ht, by simp, h.es⟩
theorem WI.op {m : Int} {i : Nat} {ts t k k' : List Bs} {w w' : Ws} {J J' : JS} {dn : Bool} (h : WI m i ts k w J) (he : jOpen m ts k w dn = (t, k', w', .inr J')) : WI m (i + 1) t k' w' J' := by
  have hd := h.dk.size
  obtain ⟨rfl, h1, h2⟩ := jOpen_inr he
  exact ⟨jOpen_ok h.ok he, (jOpen_dok h.dk he).1, by simp, by omega⟩
theorem WI.no {m : Int} {i : Nat} {ts t k k' : List Bs} {w w' : Ws} {J : JS} {dn : Bool} {e : Int} (h : WI m i ts k w J) (he : jOpen m ts k w dn = (t, k', w', .inl e)) : WI m (i + 1) t k' w' J := by
  obtain ⟨h1, h2, h3⟩ := jOpen_dok h.dk he
  refine ⟨jOpen_ok h.ok he, h1, ?_, h.es⟩
  have := h.up.w
  rcases h3 with rfl | rfl
  · simp
  · exact this
section
variable {bk rbk : Int → List Bs → A} {dk rdk : List Bs → Ws → Bool → A} {jm rjm : Nat → Nat → JS → A}
theorem rjrn_openP (hJ : HasRJrn R rjm) {h : AHeap A} {b d p n : Nat} {J : JS} (hp : h[p]? = some (.adt (rjm b d J))) (hn : n ≤ h.length) {vs : List AVal} {K : List AVal → AHeap A → Prop}
    (hk : ∀ x, EvAt x J.es h.length (h.set p (rjCells b d J.boot J.prev x J.over) ++ jEvs J.es) → Gives Pr R n (h.set p (rjCells b d J.boot J.prev x J.over) ++ jEvs J.es) vs K) : Gives Pr R n h vs K := by
  refine Gives.opened p hp hn fun g hg => ?_
  obtain rfl := (hJ.lay _ _ _ _).1 hg
  by_cases h0 : J.es = []
  · have := hk .nils (.inl ⟨h0, rfl⟩)
    simpa [rjG, h0, rjCells, GC.at, jEvs] using this
  · have := hk (.sl h.length 0 J.es.length J.es.length false) (.inr ⟨h0, rfl, by simp [jEvs, h0]⟩)
    simpa [rjG, h0, rjCells, GC.at, jEvs] using this
theorem rjrn_shutP (hJ : HasRJrn R rjm) {g : AHeap A} {b d p e n : Nat} {x : AVal} {J : JS} (he : EvAt x J.es e g) (hp : g[p]? = some (rjCells b d J.boot J.prev x J.over)) (hne : p ≠ e) {vs : List AVal} {K : List AVal → AHeap A → Prop}
    (hk : ∀ g' : AHeap A, g'.length = g.length → (∀ i, i ≠ p → i ≠ e → g'[i]? = g[i]?) → g'[p]? = some (.adt (rjm b d J)) → Gives Pr R n g' vs K) : Gives Pr R n g vs K := by
  have hpl := (List.getElem?_eq_some_iff.1 hp).1
  rcases he with ⟨h0, rfl⟩ | ⟨h0, rfl, h1⟩
  · refine Gives.shut p [] (rjm b d J) (rjG b d J) ((hJ.lay _ _ _ _).2 rfl) ?_ ?_ ?_ (by simp) ?_ ?_ ?_
    · simpa [rjG, h0, rjCells, GC.on] using hp
    · simp [rjG, h0]
    · intro i s hs; simp [rjG, h0] at hs
    · simp [rjG, h0]
    · simp [rjG, h0]
    · refine hk _ (by simp [kills]) (fun i hi _ => ?_) ?_
      · simp only [kills]; rw [List.getElem?_set_ne (Ne.symm hi)]
      · simp only [kills]; exact get_set hp
  · refine Gives.shut p [e] (rjm b d J) (rjG b d J) ((hJ.lay _ _ _ _).2 rfl) ?_ ?_ ?_ (by simp [hne]) ?_ ?_ ?_
    · simpa [rjG, h0, rjCells, GC.on] using hp
    · simp [rjG, h0]
    · intro i s hs
      match i, hs with
      | 0, hs => simp [rjG, h0] at hs; subst hs; exact ⟨by simpa using h1, rfl⟩
      | i + 1, hs => simp [rjG, h0] at hs
    · intro i o len cap ex hm
      simp [rjG, h0] at hm ⊢
      omega
    · simp [rjG, h0]
    · refine hk _ (by simp [kills]) (fun i hi hi2 => ?_) ?_
      · simp only [kills]; rw [List.getElem?_set_ne (Ne.symm hi), List.getElem?_set_ne (Ne.symm hi2)]
      · simp only [kills]
        exact List.getElem?_set_self (by simpa using hpl)
theorem EvAt.rd {x : AVal} {es : List Ev} {e : Nat} {h : AHeap A} (he : EvAt x es e h) : Rd x es h := by
  rcases he with ⟨rfl, rfl⟩ | ⟨_, rfl, h1⟩
  · exact Rd.nil _
  · exact Rd.sl es e es.length false h1
theorem Rd.new7 {es : List Ev} {p : Nat} {h : AHeap A} (hq : es ≠ [] → h[p]? = some (.cells t_api_Event (es.flatMap Ev.row))) : Rd (NewEvs es p) es h := by
  unfold NewEvs
  by_cases h0 : es = []
  · subst h0; exact Rd.nil _
  · rw [if_neg h0]; exact Rd.sl es p es.length false (hq h0)
theorem Events_new7 (hR : R.Ok) (hB : HasBook R bk) (hD : HasDisk R dk) (hJ : HasJrn R jm) {m : Int} {ts k : List Bs} {w : Ws} {dn : Bool} {J : JS} (hn : J.es.length ≤ 300) {h : AHeap A} {b d j : Nat} (hb : h[b]? = some (.adt (bk m ts))) (hd : h[d]? = some (.adt (dk k w dn))) (hj : h[j]? = some (.adt (jm b d J))) (hne : b ≠ d ∧ b ≠ j ∧ d ≠ j) {K : AVal → AHeap A → Prop}
    (hk : K (NewEvs J.es h.length) (h ++ jEvs J.es)) : Tri Pr R n_journal_Journal_Events [.ptr j 0] h K := by
  refine Events_ok hR hB hD hJ hn hb hd hj hne ?_
  unfold NewEvs jEvs at hk
  by_cases h0 : J.es = []
  · rw [if_pos h0] at hk ⊢; rw [if_pos h0, List.append_nil] at hk; exact hk
  · rw [if_neg h0] at hk ⊢; rw [if_neg h0] at hk; exact hk
theorem pair11_bad (hR : R.Ok) (hD : HasDisk R dk) (hD' : HasRDisk R rdk) {n : Int} (hn : ¬ (1 ≤ n ∧ n ≤ 256)) {h : AHeap A} {K : AVal → AHeap A → Prop}
    (hk : K (.tup [.nilp, .nilp]) h) : Tri Pr R n_law11_pair [.int .i64 n] h K := by
  apply c_law11_pair
  unfold p_law11_pair
  refine disk_New_ok hR hD n ?_
  rw [if_neg hn]
  simp -implicitDefEqProofs
  refine rdisk_New_ok hR hD' n ?_
  rw [if_neg hn]
  simp -implicitDefEqProofs
  refine num14_ok ?_
  simp -implicitDefEqProofs
  exact hk
theorem same11_any (hR : R.Ok) (hB : HasBook R bk) (hB' : HasRBook R rbk) {m : Int} {ts : List Bs} (hok : bOk m ts) {h : AHeap A} (h0 : h[0]? = some (.adt (bk m ts))) (h1 : h[1]? = some (.adt (rbk m ts))) {K : AVal → AHeap A → Prop} (hk : K (.bool true) h) :
    Tri Pr R n_law11_sameBooks [.ptr 0 0, .ptr 1 0] h K := by
  have s : Sel R [0, 1] h [.adt (bk m ts), .adt (rbk m ts)] := by
    refine ⟨rfl, by simp, fun k o hk => ?_, fun o ho => ?_⟩
    · match k, hk with
      | 0, hk => simp at hk; subst hk; exact ⟨0, rfl, by rw [book_ren hB]; exact h0⟩
      | 1, hk => simp at hk; subst hk; exact ⟨1, rfl, by rw [rbook_ren hB']; exact h1⟩
      | k + 2, hk => simp at hk
    · simp only [List.mem_cons, List.not_mem_nil, or_false] at ho
      rcases ho with rfl | rfl
      · exact book_ix hB _ _ _
      · exact rbook_ix hB' _ _ _
  have t0 := same11_ok (K := fun v g => v = .bool true ∧ g = [.adt (bk m ts), .adt (rbk m ts)]) hR hB hB' hok ⟨rfl, rfl⟩
  have := Tri.frame hR s (as2 := [.ptr 0 0, .ptr 1 0]) (by simp [ixs, AVal.ix]) t0
  have e1 : rens (at_ [0, 1] h.length) [.ptr 0 0, .ptr 1 0] = [.ptr 0 0, .ptr 1 0] := by simp [rens, AVal.ren, at_]
  rw [e1] at this
  refine this.mono ?_
  rintro v H ⟨v0, g0, ⟨rfl, rfl⟩, _, rfl, rfl⟩
  simpa [splice, setAll, book_ren hB, rbook_ren hB', AVal.ren, set_same h0, set_same h1] using hk
end
/-- The data types of this law. -/
inductive KD where
  | book (m : Int) (ts : List Bs)
  | rbook (m : Int) (ts : List Bs)
  | disk (k : List Bs) (w : Ws) (d : Bool)
  | rdisk (k : List Bs) (w : Ws) (d : Bool)
  | jrn (b d : Nat) (J : JS)
  | rjrn (b d : Nat) (J : JS)
def KD.lay : KD → Grp KD → Prop
  | .book m ts, g => g = bookG m ts
  | .rbook m ts, g => g = rbookG m ts
  | .disk k w d, g => g = diskG k w d
  | .rdisk k w d, g => g = rdiskG k w d
  | .jrn b d J, g => g = jG b d J
  | .rjrn b d J, g => g = rjG b d J
def KD.ren (τ : Nat → Nat) : KD → KD
  | .jrn b d J => .jrn (τ b) (τ d) J
  | .rjrn b d J => .rjrn (τ b) (τ d) J
  | a => a
def RK : Adts KD := ⟨KD.lay, KD.ren⟩
theorem rjG_ren {A : Type} (R : Adts A) (τ : Nat → Nat) (b d : Nat) (J : JS) : (rjG b d J : Grp A).ren R τ = rjG (τ b) (τ d) J := by
  unfold rjG Grp.ren
  have h8 : rens τ (J.es.flatMap Ev.row) = J.es.flatMap Ev.row := rens_ix0 τ _ (evs_ix 0 _)
  split <;> simp [GC.ren, AVal.ren, AObj.ren, h8]
theorem RK_ok : RK.Ok := by
  intro a τ g'
  cases a with
  | book m ts => exact ⟨fun h => ⟨_, rfl, h.trans (bookG_ren RK τ m ts).symm⟩, fun ⟨g, h1, h2⟩ => by subst h2; rw [show g = bookG m ts from h1, bookG_ren]; rfl⟩
  | rbook m ts => exact ⟨fun h => ⟨_, rfl, h.trans (rbookG_ren RK τ m ts).symm⟩, fun ⟨g, h1, h2⟩ => by subst h2; rw [show g = rbookG m ts from h1, rbookG_ren]; rfl⟩
  | disk k w d => exact ⟨fun h => ⟨_, rfl, h.trans (diskG_ren RK τ k w d).symm⟩, fun ⟨g, h1, h2⟩ => by subst h2; rw [show g = diskG k w d from h1, diskG_ren]; rfl⟩
  | rdisk k w d => exact ⟨fun h => ⟨_, rfl, h.trans (rdiskG_ren RK τ k w d).symm⟩, fun ⟨g, h1, h2⟩ => by subst h2; rw [show g = rdiskG k w d from h1, rdiskG_ren]; rfl⟩
  | jrn b d J => exact ⟨fun h => ⟨_, rfl, h.trans (jG_ren RK τ b d J).symm⟩, fun ⟨g, h1, h2⟩ => by subst h2; rw [show g = jG b d J from h1, jG_ren]; rfl⟩
  | rjrn b d J => exact ⟨fun h => ⟨_, rfl, h.trans (rjG_ren RK τ b d J).symm⟩, fun ⟨g, h1, h2⟩ => by subst h2; rw [show g = rjG b d J from h1, rjG_ren]; rfl⟩
theorem RK_book : HasBook RK KD.book := ⟨fun _ _ _ => Iff.rfl, fun _ _ _ => rfl⟩
theorem RK_rbook : HasRBook RK KD.rbook := ⟨fun _ _ _ => Iff.rfl, fun _ _ _ => rfl⟩
theorem RK_disk : HasDisk RK KD.disk := ⟨fun _ _ _ _ => Iff.rfl, fun _ _ _ _ => rfl⟩
theorem RK_rdisk : HasRDisk RK KD.rdisk := ⟨fun _ _ _ _ => Iff.rfl, fun _ _ _ _ => rfl⟩
theorem RK_jrn : HasJrn RK KD.jrn := ⟨fun _ _ _ _ => Iff.rfl, fun _ _ _ _ => rfl⟩
theorem RK_rjrn : HasRJrn RK KD.rjrn := ⟨fun _ _ _ _ => Iff.rfl, fun _ _ _ _ => rfl⟩
end Go.AI

/- Journals, proved. -/
set_option linter.all false
namespace Go.AI
variable {A : Type} {R : Adts A}
section
variable {bk rbk : Int → List Bs → A} {dk rdk : List Bs → Ws → Bool → A} {jm rjm : Nat → Nat → JS → A}
/-- The state of a round. -/
structure Rs (bk rbk : Int → List Bs → A) (dk rdk : List Bs → Ws → Bool → A) (jm rjm : Nat → Nat → JS → A) (m : Int) (i L : Nat) (g : AHeap A) (t k : List Bs) (w : Ws) (dn : Bool) (J : JS) (pj pk : Nat) : Prop where
  st : St bk rbk dk rdk m g t t k k w w dn dn
  j : g[pj]? = some (.adt (jm 0 2 J))
  kj : g[pk]? = some (.adt (rjm 1 3 J))
  hj : 4 ≤ pj
  hk : 4 ≤ pk
  ne : pj ≠ pk
  wi : WI m i t k w J
  len : L ≤ g.length
def J35 (bk rbk : Int → List Bs → A) (dk rdk : List Bs → Ws → Bool → A) (jm rjm : Nat → Nat → JS → A) (m : Int) (i L : Nat) (vs : List AVal) (g : AHeap A) : Prop :=
  ∃ t k w dn J pj pk, vs = [.ptr pj 0, .ptr pk 0] ∧ Rs bk rbk dk rdk jm rjm m (i + 1) L g t k w dn J pj pk
/-- The state within a round. -/
structure Xs (bk rbk : Int → List Bs → A) (dk rdk : List Bs → Ws → Bool → A) (jm rjm : Nat → Nat → JS → A) (m : Int) (i N : Nat) (x : Act11) (g : AHeap A) (t k : List Bs) (w : Ws) (dn : Bool) (J : JS) (pj pk : Nat) : Prop where
  rs : Rs bk rbk dk rdk jm rjm m i (N + 2) g t k w dn J pj pk
  n : 4 ≤ N
  a6 : g[N]? = some (.cells t_bastionlaw11_Act x.row)
  a7 : g[N + 1]? = some (.cells t_api_Event ((x.l ++ [evMk, evMk]).flatMap Ev.row))
  j6 : pj ≠ N
  j7 : pj ≠ N + 1
  k6 : pk ≠ N
  k7 : pk ≠ N + 1
def J42 (bk rbk : Int → List Bs → A) (dk rdk : List Bs → Ws → Bool → A) (jm rjm : Nat → Nat → JS → A) (m : Int) (i N : Nat) (x : Act11) (vs : List AVal) (g : AHeap A) : Prop :=
  ∃ t k w dn J pj pk, vs = [.ptr pj 0, .ptr pk 0] ∧ Xs bk rbk dk rdk jm rjm m (i + 1) N x g t k w dn J pj pk
def J79 (bk rbk : Int → List Bs → A) (dk rdk : List Bs → Ws → Bool → A) (jm rjm : Nat → Nat → JS → A) (m : Int) (i N : Nat) (x : Act11) (J : JS) (pj pk : Nat) (vs : List AVal) (g : AHeap A) : Prop :=
  ∃ t k w dn, vs = [] ∧ Xs bk rbk dk rdk jm rjm m i N x g t k w dn J pj pk ∧ g.length = N + 2
def J113 (bk rbk : Int → List Bs → A) (dk rdk : List Bs → Ws → Bool → A) (jm rjm : Nat → Nat → JS → A) (m : Int) (i L : Nat) (t k : List Bs) (w : Ws) (dn : Bool) (J : JS) (pj pk q : Nat) (vs : List AVal) (g : AHeap A) : Prop :=
  vs = [.bool false] ∧ Rs bk rbk dk rdk jm rjm m i L g t k w dn J pj pk ∧ (J.es ≠ [] → g[q]? = some (.cells t_api_Event (J.es.flatMap Ev.row)))
def JnI (bk rbk : Int → List Bs → A) (dk rdk : List Bs → Ws → Bool → A) (jm rjm : Nat → Nat → JS → A) (m : Int) (L n : Nat) (mm : Nat) (y : List AVal) (g : AHeap A) : Prop :=
  (∃ t k w dn, y = [.nilp, .nilp, .int .i64 0] ∧ St bk rbk dk rdk m g t t k k w w dn dn ∧ bOk m t) ∨
  (∃ (i : Nat) (t k : List Bs) (w : Ws) (dn : Bool) (J : JS) (pj pk : Nat), y = [.ptr pj 0, .ptr pk 0, .int .i64 i] ∧ Rs bk rbk dk rdk jm rjm m i L g t k w dn J pj pk ∧ i ≤ n ∧ i ≤ 50 ∧ mm = 50 - i)
theorem set3_get {g : AHeap A} {a b c i : Nat} {x y z : AObj A} (ha : i ≠ a) (hb : i ≠ b) (hc : i ≠ c) : (((g.set a x).set b y).set c z)[i]? = g[i]? := by
  rw [List.getElem?_set_ne (Ne.symm hc), List.getElem?_set_ne (Ne.symm hb), List.getElem?_set_ne (Ne.symm ha)]
theorem Xs.both {m : Int} {i i' N : Nat} {x : Act11} {g : AHeap A} {t k : List Bs} {w : Ws} {dn : Bool} {J : JS} {pj pk : Nat} (X : Xs bk rbk dk rdk jm rjm m i N x g t k w dn J pj pk) {t' k' : List Bs} {w' : Ws} {J' : JS} (wi : WI m i' t' k' w' J') :
    Xs bk rbk dk rdk jm rjm m i' N x ((((((g.set 0 (.adt (bk m t'))).set 2 (.adt (dk k' w' dn))).set pj (.adt (jm 0 2 J'))).set 1 (.adt (rbk m t'))).set 3 (.adt (rdk k' w' dn))).set pk (.adt (rjm 1 3 J'))) t' k' w' dn J' pj pk := by
  have h1 := X.rs.hj
  have h2 := X.rs.hk
  have h3 := X.rs.ne
  have h4 := X.n
  have s1 : St bk rbk dk rdk m (((g.set 0 (.adt (bk m t'))).set 2 (.adt (dk k' w' dn))).set pj (.adt (jm 0 2 J'))) t' t k' k w' w dn dn := ((X.rs.st.set0 t').set2 k' w' dn).move fun i hi => by rw [List.getElem?_set_ne (by omega)]
  have j1 : (((g.set 0 (.adt (bk m t'))).set 2 (.adt (dk k' w' dn))).set pj (.adt (jm 0 2 J')))[pj]? = some (.adt (jm 0 2 J')) := by
    refine get_set (o := .adt (jm 0 2 J)) ?_
    rw [List.getElem?_set_ne (by omega), List.getElem?_set_ne (by omega)]; exact X.rs.j
  have o1 : ∀ i, 4 ≤ i → i ≠ pj → (((g.set 0 (.adt (bk m t'))).set 2 (.adt (dk k' w' dn))).set pj (.adt (jm 0 2 J')))[i]? = g[i]? := fun i hi hp => set3_get (by omega) (by omega) hp
  have l1 : (((g.set 0 (.adt (bk m t'))).set 2 (.adt (dk k' w' dn))).set pj (.adt (jm 0 2 J'))).length = g.length := by simp
  generalize ((g.set 0 (.adt (bk m t'))).set 2 (.adt (dk k' w' dn))).set pj (.adt (jm 0 2 J')) = g1 at *
  have o2 : ∀ i, 4 ≤ i → i ≠ pk → (((g1.set 1 (.adt (rbk m t'))).set 3 (.adt (rdk k' w' dn))).set pk (.adt (rjm 1 3 J')))[i]? = g1[i]? := fun i hi hp => set3_get (by omega) (by omega) hp
  refine ⟨⟨((s1.set1 t').set3 k' w' dn).move fun i hi => by rw [List.getElem?_set_ne (by omega)], (o2 _ h1 h3).trans j1, ?_, h1, h2, h3, wi, by simp [l1]; exact X.rs.len⟩, h4, ?_, ?_, X.j6, X.j7, X.k6, X.k7⟩
  · refine get_set (o := .adt (rjm 1 3 J)) ?_
    rw [List.getElem?_set_ne (by omega), List.getElem?_set_ne (by omega), o1 _ h2 (Ne.symm h3)]; exact X.rs.kj
  · rw [o2 _ h4 (Ne.symm X.k6), o1 _ h4 (Ne.symm X.j6)]; exact X.a6
  · rw [o2 _ (by omega) (Ne.symm X.k7), o1 _ (by omega) (Ne.symm X.j7)]; exact X.a7
theorem Xs.disks {m : Int} {i i' N : Nat} {x : Act11} {g : AHeap A} {t k : List Bs} {w : Ws} {dn : Bool} {J : JS} {pj pk : Nat} (X : Xs bk rbk dk rdk jm rjm m i N x g t k w dn J pj pk) {k' : List Bs} {w' : Ws} (dn' : Bool) (wi : WI m i' t k' w' J) :
    Xs bk rbk dk rdk jm rjm m i' N x ((g.set 2 (.adt (dk k' w' dn'))).set 3 (.adt (rdk k' w' dn'))) t k' w' dn' J pj pk := by
  have h1 := X.rs.hj
  have h2 := X.rs.hk
  have h4 := X.n
  have o : ∀ i, 4 ≤ i → ((g.set 2 (.adt (dk k' w' dn'))).set 3 (.adt (rdk k' w' dn')))[i]? = g[i]? := fun i hi => by rw [List.getElem?_set_ne (by omega), List.getElem?_set_ne (by omega)]
  exact ⟨⟨(X.rs.st.set2 k' w' dn').set3 k' w' dn', (o _ h1).trans X.rs.j, (o _ h2).trans X.rs.kj, h1, h2, X.rs.ne, wi, by simp; exact X.rs.len⟩, h4, (o _ h4).trans X.a6, (o _ (by omega)).trans X.a7, X.j6, X.j7, X.k6, X.k7⟩
theorem Xs.wi {m : Int} {i i' N : Nat} {x : Act11} {g : AHeap A} {t k : List Bs} {w : Ws} {dn : Bool} {J : JS} {pj pk : Nat} (X : Xs bk rbk dk rdk jm rjm m i N x g t k w dn J pj pk) (wi : WI m i' t k w J) : Xs bk rbk dk rdk jm rjm m i' N x g t k w dn J pj pk :=
  ⟨⟨X.rs.st, X.rs.j, X.rs.kj, X.rs.hj, X.rs.hk, X.rs.ne, wi, X.rs.len⟩, X.n, X.a6, X.a7, X.j6, X.j7, X.k6, X.k7⟩
theorem Xs.no {m : Int} {i i' N : Nat} {x : Act11} {g g' : AHeap A} {t t' k k' : List Bs} {w w' : Ws} {dn : Bool} {J : JS} {pj pk : Nat} (X : Xs bk rbk dk rdk jm rjm m i N x g t k w dn J pj pk) (wi : WI m i' t' k' w' J) (hl : g'.length = g.length) (o : ∀ i, 4 ≤ i → g'[i]? = g[i]?) (s : St bk rbk dk rdk m g' t' t' k' k' w' w' dn dn) :
    Xs bk rbk dk rdk jm rjm m i' N x g' t' k' w' dn J pj pk :=
  ⟨⟨s, (o _ X.rs.hj).trans X.rs.j, (o _ X.rs.hk).trans X.rs.kj, X.rs.hj, X.rs.hk, X.rs.ne, wi, by have := X.rs.len; omega⟩, X.n, (o _ X.n).trans X.a6, (o _ (by have := X.n; omega)).trans X.a7, X.j6, X.j7, X.k6, X.k7⟩
theorem Xs.out {m : Int} {i N : Nat} {x : Act11} {g : AHeap A} {t k : List Bs} {w : Ws} {dn : Bool} {J : JS} {pj pk : Nat} (X : Xs bk rbk dk rdk jm rjm m i N x g t k w dn J pj pk) : Rs bk rbk dk rdk jm rjm m i N g t k w dn J pj pk :=
  ⟨X.rs.st, X.rs.j, X.rs.kj, X.rs.hj, X.rs.hk, X.rs.ne, X.rs.wi, by have := X.rs.len; omega⟩
theorem Rs.move {m : Int} {i L L' : Nat} {g g' : AHeap A} {t k : List Bs} {w : Ws} {dn : Bool} {J : JS} {pj pk : Nat} (r : Rs bk rbk dk rdk jm rjm m i L g t k w dn J pj pk) (hg : ∀ i, i < 4 ∨ i = pj ∨ i = pk → g'[i]? = g[i]?) (hl : L' ≤ g'.length) : Rs bk rbk dk rdk jm rjm m i L' g' t k w dn J pj pk :=
  ⟨r.st.move fun i hi => hg i (.inl hi), (hg _ (.inr (.inl rfl))).trans r.j, (hg _ (.inr (.inr rfl))).trans r.kj, r.hj, r.hk, r.ne, r.wi, hl⟩
theorem Xs.new {m : Int} {i i' N : Nat} {x : Act11} {g g' : AHeap A} {t t' k k' : List Bs} {w w' : Ws} {dn : Bool} {J J' : JS} {pj pk : Nat} (X : Xs bk rbk dk rdk jm rjm m i N x g t k w dn J pj pk) (wi : WI m i' t' k' w' J') (hl : g'.length = g.length + 2) (o : ∀ i, 4 ≤ i → i < g.length → g'[i]? = g[i]?) (s : St bk rbk dk rdk m g' t' t' k' k' w' w' dn dn)
    (hj : g'[g.length]? = some (.adt (jm 0 2 J'))) (hk : g'[g.length + 1]? = some (.adt (rjm 1 3 J'))) : Xs bk rbk dk rdk jm rjm m i' N x g' t' k' w' dn J' g.length (g.length + 1) := by
  have h1 := X.rs.len
  have h2 := X.n
  exact ⟨⟨s, hj, hk, by omega, by omega, by omega, wi, by omega⟩, h2, (o _ h2 (by omega)).trans X.a6, (o _ (by omega) (by omega)).trans X.a7, by omega, by omega, by omega, by omega⟩
set_option maxHeartbeats 4000000 in
theorem Journals_ok (hR : R.Ok) (hB : HasBook R bk) (hB' : HasRBook R rbk) (hD : HasDisk R dk) (hD' : HasRDisk R rdk) (hJ : HasJrn R jm) (hJ' : HasRJrn R rjm) (sectors most : Int) (a : AVal) (acts : List Act11) (ha : IsRows Act11.row a acts) (hl : ∀ x ∈ acts, x.l.length ≤ 1048576) :
    Tri Pr R n_law11_Journals [.int .i64 sectors, .int .i64 most, a] [] fun v _ => v = .bool true := by
  apply c_law11_Journals
  unfold p_law11_Journals
  refine law11_twin_ok hR hB hB' most ?_
  by_cases hm : 1 ≤ most ∧ most ≤ 65536
  case neg =>
    rw [if_neg hm]
    simp -implicitDefEqProofs
    by_cases hs : 1 ≤ sectors ∧ sectors ≤ 256
    · refine pair11_ok hR hD hD' hs rfl ?_
      simp -implicitDefEqProofs
      exact awake11_ok hR hB hB' hD hD' hJ rfl
    · refine pair11_bad hR hD hD' hs ?_
      simp -implicitDefEqProofs
      exact awake11_ok hR hB hB' hD hD' hJ rfl
  rw [if_pos hm]
  simp -implicitDefEqProofs
  by_cases hs : 1 ≤ sectors ∧ sectors ≤ 256
  case neg =>
    refine pair11_bad hR hD hD' hs ?_
    simp -implicitDefEqProofs
    exact awake11_ok hR hB hB' hD hD' hJ rfl
  refine pair11_ok hR hD hD' hs rfl ?_
  have ok0 := bOk_nil hm
  have dk0 := dOk_new hs
  generalize List.replicate sectors.toNat zSec = k0 at *
  obtain ⟨⟨t1, k1, w1, res⟩, he⟩ : ∃ z, jOpen most [] k0 [] false = z := ⟨_, rfl⟩
  have hlen := ha.len
  simp -implicitDefEqProofs
  have ends : ∀ (g : AHeap A) (t k : List Bs) (w : Ws) (dn : Bool), bOk most t → St bk rbk dk rdk most g t t k k w w dn dn → Tri Pr R n_law11_sameBooks [.ptr 0 0, .ptr 1 0] g fun v h => condP v true (fun k140 => Tri Pr R n_law11_awake [] h fun v141 h => k140 v141 h) (.bool false) h fun v142 h => v142 = .bool true := by
    intro g t k w dn hok s
    refine same11_any hR hB hB' hok s.b s.r ?_
    simp -implicitDefEqProofs
    refine awake11_ok hR hB hB' hD hD' hJ ?_
    simp -implicitDefEqProofs
  refine opened11_ok hR hB hB' hD hD' hJ hJ' ok0 dk0 (by simp) he (h := [.adt (bk most []), .adt (rbk most []), .adt (dk k0 [] false), .adt (rdk k0 [] false)]) ⟨rfl, rfl, rfl, rfl⟩ (fun e g0 hre hgl hgs s => ?ga) (fun J0 g0 hre hgl hgs s hgj hgk => ?gb)
  case' ga =>
    simp -implicitDefEqProofs
    refine loopP_go (JnI bk rbk dk rdk jm rjm most g0.length acts.length) 50 (Gives.done (Nat.le_refl _) (.inl ⟨_, _, _, _, rfl, s, jOpen_ok ok0 he⟩)) ?_
  case' gb =>
    subst hre
    have wi0 : WI most 0 t1 k1 w1 J0 := by
      obtain ⟨rfl, h1, h2⟩ := jOpen_inr he
      have hd := dk0.size
      exact ⟨jOpen_ok ok0 he, (jOpen_dok dk0 he).1, by simp, by omega⟩
    have hg0 : g0.length = 6 := hgl
    simp -implicitDefEqProofs
    refine loopP_go (JnI bk rbk dk rdk jm rjm most g0.length acts.length) 50 (Gives.done (Nat.le_refl _) (.inr ⟨0, t1, k1, w1, false, J0, 4, 5, rfl, ⟨s, hgj, hgk, by omega, by omega, by omega, wi0, Nat.le_refl _⟩, by omega, by omega, rfl⟩)) ?_
  all_goals
    rintro mm y g (⟨t, k, w, dn, rfl, s, hok⟩ | ⟨i, t, k, w, dn, J, pj, pk, rfl, r, hin, hi50, rfl⟩)
    · by_cases h0 : 0 < acts.length
      · simp -implicitDefEqProofs [hlen, h0]
        exact ends _ _ _ _ _ hok s
      · have h0' : ¬ (0 : Int) < (acts.length : Int) := by omega
        simp -implicitDefEqProofs [hlen, h0, h0']
        exact ends _ _ _ _ _ hok s
    · have r4 := r.st.lt
      by_cases hlt : i < acts.length ∧ i < 50
      case neg =>
        by_cases h1 : i < acts.length
        · have h2 : ¬ i < 50 := by omega
          have h1' : (i : Int) < (acts.length : Int) := by omega
          have h2' : ¬ (i : Int) < 50 := by omega
          simp -implicitDefEqProofs [hlen, h1, h1', h2, h2']
          exact ends _ _ _ _ _ r.wi.ok r.st
        · have h1' : ¬ (i : Int) < (acts.length : Int) := by omega
          simp -implicitDefEqProofs [hlen, h1, h1']
          exact ends _ _ _ _ _ r.wi.ok r.st
      case pos =>
        obtain ⟨h1, h2⟩ := hlt
        have h1' : (i : Int) < (acts.length : Int) := by omega
        have h2' : (i : Int) < 50 := by omega
        obtain ⟨x, b, o, cs, hx, hidx⟩ := ha.get (f := Act11.row) (w := 6) (fun _ => rfl) (n := (i : Int)) (by omega) (by omega)
        have hxl := hl x (List.mem_of_getElem? hx)
        have e3 := w64 (n := (i : Int) + 1) (by omega)
        simp -implicitDefEqProofs [hlen, h1, h1', h2, h2']
        refine joinP_all (J35 bk rbk dk rdk jm rjm most i g.length) ?_ ?_
        · have hrow : x.row.length = 6 := rfl
          have h6 : 6 ≤ x.row.length + cs.length := by omega
          have htk : List.take 6 (x.row ++ cs) = x.row := by rw [← hrow, List.take_left]
          have hsc : x.a.scalar = true := x.ha.scalar
          have hsr : x.row.all AVal.scalar = true := by simp only [Act11.row, List.all_cons, hsc]; rfl
          simp -implicitDefEqProofs [hidx, h6, htk]
          refine st_last (base := g) (n := 6) rfl rfl hsr ?_
          obtain ⟨N, hN⟩ : ∃ N, g.length = N := ⟨_, rfl⟩
          have X0 : Xs bk rbk dk rdk jm rjm most i N x (g ++ [.cells t_bastionlaw11_Act x.row, .cells t_api_Event ((x.l ++ [evMk, evMk]).flatMap Ev.row)]) t k w dn J pj pk := by
            have hjl := (List.getElem?_eq_some_iff.1 r.j).1
            have hkl := (List.getElem?_eq_some_iff.1 r.kj).1
            have o : ∀ i, i < N → (g ++ [.cells t_bastionlaw11_Act x.row, .cells t_api_Event ((x.l ++ [evMk, evMk]).flatMap Ev.row)] : AHeap A)[i]? = g[i]? := fun i hi => by rw [List.getElem?_append_left (by omega)]
            refine ⟨⟨r.st.move fun i hi => o i (by omega), (o _ (by omega)).trans r.j, (o _ (by omega)).trans r.kj, r.hj, r.hk, r.ne, r.wi, by simp; omega⟩, by omega, ?_, ?_, by omega, by omega, by omega, by omega⟩
            · rw [List.getElem?_append_right (by omega), ← hN]; simp
            · rw [List.getElem?_append_right (by omega), ← hN]; simp
          simp -implicitDefEqProofs [Act11.row]
          rw [hN]
          refine LendEvents_ok hR x.ha hxl ?_
          have hgl : (g ++ [.cells t_bastionlaw11_Act [.int .i64 x.kind, x.a, .int .i64 x.mask, .int .i64 x.torn, .int .i64 x.sector, .str x.s]] : AHeap A).length = N + 1 := by simp [hN]
          have hge : (g ++ [.cells t_bastionlaw11_Act [.int .i64 x.kind, x.a, .int .i64 x.mask, .int .i64 x.torn, .int .i64 x.sector, .str x.s]] ++ [.cells t_api_Event ((x.l ++ [evMk, evMk]).flatMap Ev.row)] : AHeap A) = g ++ [.cells t_bastionlaw11_Act x.row, .cells t_api_Event ((x.l ++ [evMk, evMk]).flatMap Ev.row)] := by simp [Act11.row]
          rw [hgl, hge]
          have hg1 : (g ++ [.cells t_bastionlaw11_Act x.row, .cells t_api_Event ((x.l ++ [evMk, evMk]).flatMap Ev.row)] : AHeap A).length = N + 2 := by simp [hN]
          generalize (g ++ [.cells t_bastionlaw11_Act x.row, .cells t_api_Event ((x.l ++ [evMk, evMk]).flatMap Ev.row)] : AHeap A) = g1 at *
          clear hge hgl
          have hN4 := X0.n
          have hq6 : g1[N]? = some (.cells t_bastionlaw11_Act [.int .i64 x.kind, x.a, .int .i64 x.mask, .int .i64 x.torn, .int .i64 x.sector, .str x.s]) := X0.a6
          have hlE : x.l.length < 1000000000 := by omega
          have w6 := X0.rs.wi.w600 (by omega)
          have es3 : J.es.length ≤ 300 := by have := X0.rs.wi.es; omega
          have hpj := X0.rs.hj
          have hpk := X0.rs.hk
          have hne := X0.rs.ne
          have hln := X0.rs.len
          refine joinP_all (J42 bk rbk dk rdk jm rjm most i N x) ?_ ?_
          · simp -implicitDefEqProofs [hq6, AObj.read]
            by_cases k5 : x.kind < 5
            · obtain ⟨⟨t', ss, p, e⟩, hpu⟩ : ∃ z, jPut most t J k.length dn x.l = z := ⟨_, rfl⟩
              simp -implicitDefEqProofs [k5]
              refine AppendP hR hB hD hJ (r := [evMk, evMk]) X0.rs.wi.ok X0.rs.wi.dk w6 es3 hlE hpu X0.rs.st.b X0.rs.st.d X0.rs.j (by omega) X0.a7 (by have := X0.j7; omega) fun k' w' J' hkw => ?_
              have wi2 := X0.rs.wi.app hpu hkw
              have B := X0.both wi2
              have m1 : ∀ i, i ≠ 0 → i ≠ 2 → i ≠ pj → (((g1.set 0 (.adt (bk most t'))).set 2 (.adt (dk k' w' dn))).set pj (.adt (jm 0 2 J')))[i]? = g1[i]? := fun i a b c => set3_get a b c
              generalize ((g1.set 0 (.adt (bk most t'))).set 2 (.adt (dk k' w' dn))).set pj (.adt (jm 0 2 J')) = g2 at *
              have q6 := (m1 N (by omega) (by omega) (Ne.symm X0.j6)).trans hq6
              simp -implicitDefEqProofs [q6, AObj.read]
              refine num14_ok ?_
              simp -implicitDefEqProofs [q6, AObj.read]
              refine RAppendP hR hB' hD' hJ' X0.rs.wi.ok X0.rs.wi.dk w6 es3 hlE x.ha hpu ((m1 1 (by omega) (by omega) (by omega)).trans X0.rs.st.r) ((m1 3 (by omega) (by omega) (by omega)).trans X0.rs.st.s) ((m1 pk (by omega) (by omega) (Ne.symm hne)).trans X0.rs.kj) (by omega) fun k2 w2 J2 hkw2 => ?_
              have hkk := hkw2.trans hkw.symm
              simp only [Prod.mk.injEq] at hkk
              obtain ⟨rfl, rfl, rfl⟩ := hkk
              simp -implicitDefEqProofs
              exact ⟨_, _, _, _, _, _, _, rfl, B⟩
            by_cases k55 : x.kind = 5
            · obtain ⟨⟨t', ss, p, e⟩, hpu⟩ : ∃ z, jPut most t J k.length dn x.l = z := ⟨_, rfl⟩
              simp -implicitDefEqProofs [k5, k55]
              refine WriteP hR hB hD hJ (r := [evMk, evMk]) X0.rs.wi.ok X0.rs.wi.dk w6 es3 hlE hpu X0.rs.st.b X0.rs.st.d X0.rs.j (by omega) X0.a7 (by have := X0.j7; omega) fun k' w' J' hkw => ?_
              have wi2 := X0.rs.wi.wr hpu hkw
              have B := X0.both wi2
              have m1 : ∀ i, i ≠ 0 → i ≠ 2 → i ≠ pj → (((g1.set 0 (.adt (bk most t'))).set 2 (.adt (dk k' w' dn))).set pj (.adt (jm 0 2 J')))[i]? = g1[i]? := fun i a b c => set3_get a b c
              generalize ((g1.set 0 (.adt (bk most t'))).set 2 (.adt (dk k' w' dn))).set pj (.adt (jm 0 2 J')) = g2 at *
              have q6 := (m1 N (by omega) (by omega) (Ne.symm X0.j6)).trans hq6
              simp -implicitDefEqProofs [q6, AObj.read]
              refine num14_ok ?_
              simp -implicitDefEqProofs [q6, AObj.read]
              refine RWriteP hR hB' hD' hJ' X0.rs.wi.ok X0.rs.wi.dk w6 es3 hlE x.ha hpu ((m1 1 (by omega) (by omega) (by omega)).trans X0.rs.st.r) ((m1 3 (by omega) (by omega) (by omega)).trans X0.rs.st.s) ((m1 pk (by omega) (by omega) (Ne.symm hne)).trans X0.rs.kj) (by omega) fun k2 w2 J2 hkw2 => ?_
              have hkk := hkw2.trans hkw.symm
              simp only [Prod.mk.injEq] at hkk
              obtain ⟨rfl, rfl, rfl⟩ := hkk
              simp -implicitDefEqProofs
              exact ⟨_, _, _, _, _, _, _, rfl, B⟩
            by_cases k8 : x.kind = 8
            · simp -implicitDefEqProofs [k5, k55, k8]
              refine disk_Write_ok hR hD X0.rs.wi.dk (by omega) _ _ X0.rs.st.d ?_
              have D := X0.disks dn (X0.rs.wi.sec (d := dn) (x := x.sector) (s := x.s))
              have m1 : ∀ i, i ≠ 2 → (g1.set 2 (.adt (dk k (dWrite k w dn x.sector x.s).1 dn)))[i]? = g1[i]? := fun i a => by rw [List.getElem?_set_ne (Ne.symm a)]
              generalize g1.set 2 (.adt (dk k (dWrite k w dn x.sector x.s).1 dn)) = g2 at *
              have q6 := (m1 N (by omega)).trans hq6
              simp -implicitDefEqProofs [q6, AObj.read]
              refine rdisk_Write_ok hR hD' X0.rs.wi.dk (by omega) _ _ ((m1 3 (by omega)).trans X0.rs.st.s) ?_
              exact ⟨_, _, _, _, _, _, _, rfl, D⟩
            by_cases k10 : x.kind = 10
            · simp -implicitDefEqProofs [k5, k55, k8, k10]
              refine disk_Restart_ok hR hD X0.rs.st.d ?_
              have D := X0.disks false X0.rs.wi.up
              have m1 : ∀ i, i ≠ 2 → (g1.set 2 (.adt (dk k w false)))[i]? = g1[i]? := fun i a => by rw [List.getElem?_set_ne (Ne.symm a)]
              generalize g1.set 2 (.adt (dk k w false)) = g2 at *
              refine rdisk_Restart_ok hR hD' ((m1 3 (by omega)).trans X0.rs.st.s) ?_
              exact ⟨_, _, _, _, _, _, _, rfl, D⟩
            have n5 : (x.kind == 5) = false := by simpa using k55
            have n8 : (x.kind == 8) = false := by simpa using k8
            have n10 : (x.kind == 10) = false := by simpa using k10
            simp -implicitDefEqProofs [k5, n5, n8, n10]
            refine joinP_all (J79 bk rbk dk rdk jm rjm most i N x J pj pk) ?_ ?_
            · by_cases k7 : x.kind = 7
              · simp -implicitDefEqProofs [k7]
                exact ⟨_, _, _, _, rfl, X0, hg1⟩
              · have k7' : (x.kind != 7) = true := by simpa using k7
                simp -implicitDefEqProofs [hq6, AObj.read, k7, k7']
                refine disk_Crash_ok hR hD X0.rs.wi.dk (by omega) _ _ X0.rs.st.d ?_
                by_cases c1 : dn = true
                · rw [if_pos c1]
                  simp -implicitDefEqProofs [hq6, AObj.read]
                  refine rdisk_Crash_ok hR hD' X0.rs.wi.dk (by omega) _ _ X0.rs.st.s ?_
                  rw [if_pos c1]
                  exact ⟨_, _, _, _, rfl, X0, hg1⟩
                rw [if_neg c1]
                by_cases c2 : x.mask < 0 ∨ x.torn < 0
                · rw [if_pos c2]
                  simp -implicitDefEqProofs [hq6, AObj.read]
                  refine rdisk_Crash_ok hR hD' X0.rs.wi.dk (by omega) _ _ X0.rs.st.s ?_
                  rw [if_neg c1, if_pos c2]
                  exact ⟨_, _, _, _, rfl, X0, hg1⟩
                rw [if_neg c2]
                have D := X0.disks true (X0.rs.wi.lost (mask := x.mask) (torn := x.torn) (by omega))
                have l2 : (g1.set 2 (.adt (dk (dLost x.mask x.torn k w) [] true))).length = N + 2 := by simp [hg1]
                have m1 : ∀ i, i ≠ 2 → (g1.set 2 (.adt (dk (dLost x.mask x.torn k w) [] true)))[i]? = g1[i]? := fun i a => by rw [List.getElem?_set_ne (Ne.symm a)]
                generalize g1.set 2 (.adt (dk (dLost x.mask x.torn k w) [] true)) = g2 at *
                have q6 := (m1 N (by omega)).trans hq6
                simp -implicitDefEqProofs [q6, AObj.read]
                refine rdisk_Crash_ok hR hD' X0.rs.wi.dk (by omega) _ _ ((m1 3 (by omega)).trans X0.rs.st.s) ?_
                rw [if_neg c1, if_neg c2]
                exact ⟨_, _, _, _, rfl, D, by simp [l2]⟩
            rintro _ g2 ⟨t2, k2, w2, dn2, rfl, X2, hg2⟩
            refine ⟨by omega, ?_⟩
            have hr6 : g2[N]? = some (.cells t_bastionlaw11_Act [.int .i64 x.kind, x.a, .int .i64 x.mask, .int .i64 x.torn, .int .i64 x.sector, .str x.s]) := X2.a6
            simp -implicitDefEqProofs [hr6, AObj.read]
            by_cases k9 : x.kind = 9
            · simp -implicitDefEqProofs [k9]
              exact ⟨_, _, _, _, _, _, _, rfl, (X2.wi X2.rs.wi.up).out⟩
            have n9 : (x.kind == 9) = false := by simpa using k9
            simp -implicitDefEqProofs [n9]
            refine joinP_all (J79 bk rbk dk rdk jm rjm most i N x J pj pk) ?_ ?_
            · by_cases k66 : x.kind = 6
              · simp -implicitDefEqProofs [hr6, AObj.read, k66]
                refine disk_Restart_ok hR hD X2.rs.st.d ?_
                have D := X2.disks false X2.rs.wi
                have l3 : (g2.set 2 (.adt (dk k2 w2 false))).length = N + 2 := by simp [hg2]
                have m1 : ∀ i, i ≠ 2 → (g2.set 2 (.adt (dk k2 w2 false)))[i]? = g2[i]? := fun i a => by rw [List.getElem?_set_ne (Ne.symm a)]
                generalize g2.set 2 (.adt (dk k2 w2 false)) = g3 at *
                refine rdisk_Restart_ok hR hD' ((m1 3 (by omega)).trans X2.rs.st.s) ?_
                exact ⟨_, _, _, _, rfl, D, by simp [l3]⟩
              · have n6 : (x.kind == 6) = false := by simpa using k66
                simp -implicitDefEqProofs [hr6, AObj.read, n6]
                exact ⟨_, _, _, _, rfl, X2, hg2⟩
            rintro _ g3 ⟨t3, k3, w3, dn3, rfl, X3, hg3⟩
            refine ⟨by omega, ?_⟩
            obtain ⟨⟨t4, k4, w4, res4⟩, he4⟩ : ∃ z, jOpen most t3 k3 w3 dn3 = z := ⟨_, rfl⟩
            have w63 := X3.rs.wi.w600 (by omega)
            refine opened11_ok hR hB hB' hD hD' hJ hJ' X3.rs.wi.ok X3.rs.wi.dk (by omega) he4 X3.rs.st (fun e g4 hre hgl hgs s4 => ?_) (fun J4 g4 hre hgl hgs s4 hgj hgk => ?_)
            · subst hre
              simp -implicitDefEqProofs
              exact ⟨_, _, _, _, _, _, _, rfl, X3.no (X3.rs.wi.no he4) hgl hgs s4⟩
            · subst hre
              simp -implicitDefEqProofs
              exact ⟨_, _, _, _, _, _, _, rfl, X3.new (X3.rs.wi.op he4) hgl hgs s4 hgj hgk⟩
          · rintro _ g2 ⟨t2, k2, w2, dn2, J2, pj2, pk2, rfl, X2⟩
            refine ⟨by have := X2.rs.len; omega, ?_⟩
            have es2 := X2.rs.wi.es
            have ks2 := X2.rs.wi.dk.size
            have hj2 := X2.rs.hj
            have hk2 := X2.rs.hk
            have hn2 := X2.rs.ne
            have hl2 := X2.rs.len
            have hjl := (List.getElem?_eq_some_iff.1 X2.rs.j).1
            have hkl := (List.getElem?_eq_some_iff.1 X2.rs.kj).1
            simp -implicitDefEqProofs
            refine Events_new7 hR hB hD hJ (by omega) X2.rs.st.b X2.rs.st.d X2.rs.j (by omega) ?_
            obtain ⟨q, hq⟩ : ∃ q, g2.length = q := ⟨_, rfl⟩
            rw [hq]
            have o : ∀ i, i < q → (g2 ++ jEvs J2.es : AHeap A)[i]? = g2[i]? := fun i hi => by rw [List.getElem?_append_left (by omega)]
            have hev : J2.es ≠ [] → (g2 ++ jEvs J2.es : AHeap A)[q]? = some (.cells t_api_Event (J2.es.flatMap Ev.row)) := fun h0 => by
              rw [List.getElem?_append_right (by omega), ← hq]; simp [jEvs, h0]
            have hl3 : q ≤ (g2 ++ jEvs J2.es : AHeap A).length := by simp; omega
            have r3 : Rs bk rbk dk rdk jm rjm most (i + 1) (g2 ++ jEvs J2.es : AHeap A).length (g2 ++ jEvs J2.es) t2 k2 w2 dn2 J2 pj2 pk2 := X2.rs.move (fun i hi => o i (by omega)) (Nat.le_refl _)
            have q6 : (g2 ++ jEvs J2.es : AHeap A)[N]? = some (.cells t_bastionlaw11_Act [.int .i64 x.kind, x.a, .int .i64 x.mask, .int .i64 x.torn, .int .i64 x.sector, .str x.s]) := (o N (by omega)).trans X2.a6
            have q7 := (o (N + 1) (by omega)).trans X2.a7
            generalize (g2 ++ jEvs J2.es : AHeap A) = g3 at *
            refine joinP_all (J113 bk rbk dk rdk jm rjm most (i + 1) g3.length t2 k2 w2 dn2 J2 pj2 pk2 q) ?_ ?_
            · simp -implicitDefEqProofs [q6, AObj.read]
              refine Tri.post (KeptEvents_ok hR x.ha hxl q7 (rjrn_openP hJ' r3.kj (Nat.le_refl _) fun y hy => Gives.done (by simp) ⟨_, rfl, ?_⟩))
              have p4 : (g3.set pk2 (rjCells 1 3 J2.boot J2.prev y J2.over) ++ jEvs J2.es : AHeap A)[pk2]? = some (rjCells 1 3 J2.boot J2.prev y J2.over) := by
                rw [List.getElem?_append_left (by simp; omega)]; exact get_set r3.kj
              have o4 : ∀ i, i ≠ pk2 → i < g3.length → (g3.set pk2 (rjCells 1 3 J2.boot J2.prev y J2.over) ++ jEvs J2.es : AHeap A)[i]? = g3[i]? := fun i hi hi2 => by
                rw [List.getElem?_append_left (by simp; omega), List.getElem?_set_ne (Ne.symm hi)]
              have l4 : g3.length ≤ (g3.set pk2 (rjCells 1 3 J2.boot J2.prev y J2.over) ++ jEvs J2.es : AHeap A).length := by simp
              have hq3 : J2.es ≠ [] → q < g3.length := fun h0 => (List.getElem?_eq_some_iff.1 (hev h0)).1
              generalize (g3.set pk2 (rjCells 1 3 J2.boot J2.prev y J2.over) ++ jEvs J2.es : AHeap A) = g4 at *
              have p4' : g4[pk2]? = some (.cells t_bastionref1_Journal [.ptr 1 0, .ptr 3 0, .bool J2.over, .int .i64 J2.prev, .int .i64 J2.boot, y]) := p4
              have s4 : St bk rbk dk rdk most g4 t2 t2 k2 k2 w2 w2 dn2 dn2 := r3.st.move fun i hi => o4 i (by omega) (by omega)
              have j4 : g4[pj2]? = some (.adt (jm 0 2 J2)) := (o4 _ hn2 (by omega)).trans r3.j
              simp -implicitDefEqProofs [p4', AObj.read]
              refine SameEvents_ok hR (l := J2.es) (r := J2.es) (Rd.new7 fun h0 => (o4 q (by omega) (hq3 h0)).trans (hev h0)) hy.rd (by omega) ?_
              simp -implicitDefEqProofs [p4', AObj.read]
              refine Boot_ok hR hB hD hJ s4.b s4.d j4 (by omega) ?_
              simp -implicitDefEqProofs [p4', AObj.read]
              refine Tri.post (Room_ok hR hB hD hJ ks2.2 (by omega) s4.b s4.d j4 (by omega) (rjrn_shutP hJ' hy p4 (by omega) fun g5 hl5 ho5 hp5 => Gives.done (by omega) ⟨_, rfl, ?_⟩))
              have s5 : St bk rbk dk rdk most g5 t2 t2 k2 k2 w2 w2 dn2 dn2 := s4.move fun i hi => ho5 i (by omega) (by omega)
              refine RRoom_ok hR hB' hD' hJ' ks2.2 (by omega) s5.r s5.s hp5 (by omega) ?_
              simp -implicitDefEqProofs
              refine ⟨rfl, ⟨s5, (ho5 _ hn2 (by omega)).trans j4, hp5, hj2, hk2, hn2, r3.wi, by omega⟩, fun h0 => ?_⟩
              have := hq3 h0
              rw [ho5 q (by omega) (by omega), o4 q (by omega) this]
              exact hev h0
            · rintro _ g6 ⟨rfl, r6, hq6⟩
              refine ⟨r6.len, ?_⟩
              simp -implicitDefEqProofs
              refine SpoilEvents_ok hR (by omega) hq6 fun g7 hl7 ho7 => ?_
              have := r6.len
              exact ⟨_, _, _, _, _, _, _, rfl, r6.move (fun i hi => ho7 i (by omega)) (by omega)⟩
        · rintro _ g9 ⟨t9, k9, w9, dn9, J9, pj9, pk9, rfl, r9⟩
          have hl9 := r9.len
          have hrl := r.len
          refine ⟨hl9, ?_⟩
          simp -implicitDefEqProofs [e3]
          refine Gives.done (by omega) ⟨50 - (i + 1), by omega, .inr ⟨i + 1, t9, k9, w9, dn9, J9, pj9, pk9, rfl, r9.move (fun _ _ => rfl) (by omega), by omega, by omega, rfl⟩⟩
end
end Go.AI

/- Acts that are handed in: slices of events within. -/
set_option linter.all false
namespace Go.AI
theorem ev_TR2 {P : Program} {n B : Nat} {e i : TypeId} {f0 f1 f2 f3 f4 f5 f6 f7 : Field} {us : List AVal} (he : P.underlying e = some (.struct #[f0, f1, f2, f3, f4, f5, f6, f7])) (hi : P.underlying i = some (.int .i64)) (hc : P.cellsOf e = 8) (ci : P.cellsOf i = 1)
    (hf : (f0.type = i ∧ f0.offset = 0) ∧ (f1.type = i ∧ f1.offset = 1) ∧ (f2.type = i ∧ f2.offset = 2) ∧ (f3.type = i ∧ f3.offset = 3) ∧ (f4.type = i ∧ f4.offset = 4) ∧ (f5.type = i ∧ f5.offset = 5) ∧ (f6.type = i ∧ f6.offset = 6) ∧ (f7.type = i ∧ f7.offset = 7)) (h : TR2 P B (n + 2) false e us) : ∃ x : Ev, us = x.row := by
  obtain ⟨⟨t0, o0⟩, ⟨t1, o1⟩, ⟨t2, o2⟩, ⟨t3, o3⟩, ⟨t4, o4⟩, ⟨t5, o5⟩, ⟨t6, o6⟩, ⟨t7, o7⟩⟩ := hf
  obtain ⟨hr, h6⟩ := TR2_struct he h
  rw [hc] at hr
  obtain ⟨r0, r1, r2, r3, r4, r5, r6, r7, rfl⟩ := len_8 hr
  have g0 := h6 0 f0 rfl
  have g1 := h6 1 f1 rfl
  have g2 := h6 2 f2 rfl
  have g3 := h6 3 f3 rfl
  have g4 := h6 4 f4 rfl
  have g5 := h6 5 f5 rfl
  have g6 := h6 6 f6 rfl
  have g7 := h6 7 f7 rfl
  rw [t0, o0, ci] at g0
  rw [t1, o1, ci] at g1
  rw [t2, o2, ci] at g2
  rw [t3, o3, ci] at g3
  rw [t4, o4, ci] at g4
  rw [t5, o5, ci] at g5
  rw [t6, o6, ci] at g6
  rw [t7, o7, ci] at g7
  obtain ⟨x0, e0, _⟩ := TR2_int hi g0
  obtain ⟨x1, e1, _⟩ := TR2_int hi g1
  obtain ⟨x2, e2, _⟩ := TR2_int hi g2
  obtain ⟨x3, e3, _⟩ := TR2_int hi g3
  obtain ⟨x4, e4, _⟩ := TR2_int hi g4
  obtain ⟨x5, e5, _⟩ := TR2_int hi g5
  obtain ⟨x6, e6, _⟩ := TR2_int hi g6
  obtain ⟨x7, e7, _⟩ := TR2_int hi g7
  simp at e0 e1 e2 e3 e4 e5 e6 e7
  subst e0 e1 e2 e3 e4 e5 e6 e7
  exact ⟨⟨x0, x1, x2, x3, x4, x5, x6, x7⟩, rfl⟩
theorem rows_of {α : Type} {f : α → List AVal} {q : List AVal → Prop} {Q : α → Prop} (he : ∀ r, q r → ∃ x : α, r = f x ∧ Q x) : ∀ rows : List (List AVal), (∀ r ∈ rows, q r) → ∃ l : List α, rows = l.map f ∧ ∀ x ∈ l, Q x
  | [], _ => ⟨[], rfl, by simp⟩
  | r :: rs, h => by
    obtain ⟨l, rfl, hl⟩ := rows_of he rs fun r hr => h r (by simp [hr])
    obtain ⟨x, rfl, hx⟩ := he _ (h r (by simp))
    exact ⟨x :: l, rfl, by simpa using ⟨hx, hl⟩⟩
theorem evs_TR2 {P : Program} {n B : Nat} {t e i : TypeId} {f0 f1 f2 f3 f4 f5 f6 f7 : Field} {us : List AVal} (hu : P.underlying t = some (.slice e)) (he : P.underlying e = some (.struct #[f0, f1, f2, f3, f4, f5, f6, f7])) (hi : P.underlying i = some (.int .i64)) (hc : P.cellsOf e = 8) (ci : P.cellsOf i = 1)
    (hf : (f0.type = i ∧ f0.offset = 0) ∧ (f1.type = i ∧ f1.offset = 1) ∧ (f2.type = i ∧ f2.offset = 2) ∧ (f3.type = i ∧ f3.offset = 3) ∧ (f4.type = i ∧ f4.offset = 4) ∧ (f5.type = i ∧ f5.offset = 5) ∧ (f6.type = i ∧ f6.offset = 6) ∧ (f7.type = i ∧ f7.offset = 7)) (h : TR2 P B (n + 3) false t us) : ∃ a l, us = [a] ∧ IsEvs a l ∧ l.length ≤ B := by
  rcases TR2_slice hu h with rfl | ⟨b', o, len, cap, rows, rfl, h1, h2, h2b, h3, h4⟩ | ⟨_, x, rfl⟩
  · exact ⟨_, [], rfl, .inl (.inl ⟨rfl, rfl⟩), by simp⟩
  · obtain ⟨l, rfl, _⟩ := rows_of (f := Ev.row) (Q := fun _ => True) (fun r hr => by obtain ⟨x, hx⟩ := ev_TR2 he hi hc ci hf hr; exact ⟨x, hx, trivial⟩) rows fun r hr => (h4 r hr).2
    subst h3
    refine ⟨_, l, rfl, .inl (.inr ⟨b', o, cap, ?_⟩), by simpa using h2b⟩
    rw [List.length_map, List.flatMap]
  · exact ⟨_, [], rfl, .inr ⟨rfl, x, rfl⟩, by simp⟩
theorem act_TR2 {P : Program} {n B : Nat} {t v e i s : TypeId} {g0 g1 g2 g3 g4 g5 f0 f1 f2 f3 f4 f5 f6 f7 : Field} {us : List AVal} (ht : P.underlying t = some (.struct #[g0, g1, g2, g3, g4, g5])) (hv : P.underlying v = some (.slice e)) (he : P.underlying e = some (.struct #[f0, f1, f2, f3, f4, f5, f6, f7])) (hi : P.underlying i = some (.int .i64)) (hs : P.underlying s = some .string)
    (hct : P.cellsOf t = 6) (hc : P.cellsOf e = 8) (ci : P.cellsOf i = 1) (cv : P.cellsOf v = 1) (cs : P.cellsOf s = 1)
    (hg : (g0.type = i ∧ g0.offset = 0) ∧ (g1.type = v ∧ g1.offset = 1) ∧ (g2.type = i ∧ g2.offset = 2) ∧ (g3.type = i ∧ g3.offset = 3) ∧ (g4.type = i ∧ g4.offset = 4) ∧ (g5.type = s ∧ g5.offset = 5))
    (hf : (f0.type = i ∧ f0.offset = 0) ∧ (f1.type = i ∧ f1.offset = 1) ∧ (f2.type = i ∧ f2.offset = 2) ∧ (f3.type = i ∧ f3.offset = 3) ∧ (f4.type = i ∧ f4.offset = 4) ∧ (f5.type = i ∧ f5.offset = 5) ∧ (f6.type = i ∧ f6.offset = 6) ∧ (f7.type = i ∧ f7.offset = 7)) (h : TR2 P B (n + 4) false t us) : ∃ x : Act11, us = x.row ∧ x.l.length ≤ B := by
  obtain ⟨⟨t0, o0⟩, ⟨t1, o1⟩, ⟨t2, o2⟩, ⟨t3, o3⟩, ⟨t4, o4⟩, ⟨t5, o5⟩⟩ := hg
  obtain ⟨hr, h6⟩ := TR2_struct ht h
  rw [hct] at hr
  obtain ⟨r0, r1, r2, r3, r4, r5, rfl⟩ := len_6 hr
  have k0 := h6 0 g0 rfl
  have k1 := h6 1 g1 rfl
  have k2 := h6 2 g2 rfl
  have k3 := h6 3 g3 rfl
  have k4 := h6 4 g4 rfl
  have k5 := h6 5 g5 rfl
  rw [t0, o0, ci] at k0
  rw [t1, o1, cv] at k1
  rw [t2, o2, ci] at k2
  rw [t3, o3, ci] at k3
  rw [t4, o4, ci] at k4
  rw [t5, o5, cs] at k5
  obtain ⟨x0, e0, _⟩ := TR2_int hi k0
  obtain ⟨a, l, e1, hl, hb⟩ := evs_TR2 hv he hi hc ci hf k1
  obtain ⟨x2, e2, _⟩ := TR2_int hi k2
  obtain ⟨x3, e3, _⟩ := TR2_int hi k3
  obtain ⟨x4, e4, _⟩ := TR2_int hi k4
  obtain ⟨x5, e5, _⟩ := TR2_string hs k5
  simp at e0 e1 e2 e3 e4 e5
  subst e0 e1 e2 e3 e4 e5
  exact ⟨⟨x0, _, l, hl, x2, x3, x4, x5⟩, rfl, hb⟩
theorem acts_TR2 {P : Program} {n B : Nat} {T t v e i s : TypeId} {g0 g1 g2 g3 g4 g5 f0 f1 f2 f3 f4 f5 f6 f7 : Field} {us : List AVal} (hT : P.underlying T = some (.slice t)) (ht : P.underlying t = some (.struct #[g0, g1, g2, g3, g4, g5])) (hv : P.underlying v = some (.slice e)) (he : P.underlying e = some (.struct #[f0, f1, f2, f3, f4, f5, f6, f7])) (hi : P.underlying i = some (.int .i64)) (hs : P.underlying s = some .string)
    (hct : P.cellsOf t = 6) (hc : P.cellsOf e = 8) (ci : P.cellsOf i = 1) (cv : P.cellsOf v = 1) (cs : P.cellsOf s = 1)
    (hg : (g0.type = i ∧ g0.offset = 0) ∧ (g1.type = v ∧ g1.offset = 1) ∧ (g2.type = i ∧ g2.offset = 2) ∧ (g3.type = i ∧ g3.offset = 3) ∧ (g4.type = i ∧ g4.offset = 4) ∧ (g5.type = s ∧ g5.offset = 5))
    (hf : (f0.type = i ∧ f0.offset = 0) ∧ (f1.type = i ∧ f1.offset = 1) ∧ (f2.type = i ∧ f2.offset = 2) ∧ (f3.type = i ∧ f3.offset = 3) ∧ (f4.type = i ∧ f4.offset = 4) ∧ (f5.type = i ∧ f5.offset = 5) ∧ (f6.type = i ∧ f6.offset = 6) ∧ (f7.type = i ∧ f7.offset = 7)) (h : TR2 P B (n + 5) true T us) : ∃ a l, us = [a] ∧ IsRows Act11.row a l ∧ ∀ x ∈ l, x.l.length ≤ B := by
  rcases TR2_slice hT h with rfl | ⟨b', o, len, cap, rows, rfl, h1, h2, h2b, h3, h4⟩ | ⟨h, _⟩
  · exact ⟨_, [], rfl, .inl ⟨rfl, rfl⟩, by simp⟩
  · obtain ⟨l, rfl, hl⟩ := rows_of (f := Act11.row) (Q := fun x => x.l.length ≤ B) (fun r hr => act_TR2 ht hv he hi hs hct hc ci cv cs hg hf hr) rows fun r hr => (h4 r hr).2
    subst h3
    refine ⟨_, l, rfl, .inr ⟨b', o, cap, ?_⟩, hl⟩
    rw [List.length_map, List.flatMap]
  · cases h
end Go.AI
