/- Journals: crashes that tear, plainly: what is found again. -/
import Derived.Test.YtjnnihaofffkfaaMdJournalKeeps
set_option linter.all false
namespace Go.AI
theorem hyb_len {n : Nat} {f old : Bs} (hn : n ≤ 64) (hf : f.length = 64) (ho : old.length = 64) : (hyb n f old).length = 64 := by
  unfold hyb; rw [List.length_append, List.length_take, List.length_drop]; omega
theorem getD3 {x : Bs} {c : UInt8} (h : x[3]? = some c) : x.getD 3 0 = c := by rw [List.getD_eq_getElem?_getD, h]; rfl
theorem take3_get {x : Bs} {a b c : UInt8} (h : x.take 3 = [a, b, c]) : x[0]? = some a ∧ x[1]? = some b ∧ x[2]? = some c := by
  have g : ∀ j, j < 3 → x[j]? = ([a, b, c] : Bs)[j]? := fun j hj => by rw [← h, List.getElem?_take_of_lt hj]
  exact ⟨g 0 (by omega), g 1 (by omega), g 2 (by omega)⟩
theorem take3_of {x : Bs} {a b c : UInt8} (h0 : x[0]? = some a) (h1 : x[1]? = some b) (h2 : x[2]? = some c) : x.take 3 = [a, b, c] := by
  match x, h0, h1, h2 with
  | x0 :: x1 :: x2 :: r, h0, h1, h2 =>
    simp at h0 h1 h2
    subst h0 h1 h2
    rfl
theorem head_get {q b : Int} {s f : Bs} (hf : f = 1 :: bb q :: 1 :: bb b :: s) : f[0]? = some 1 ∧ f[1]? = some (bb q) ∧ f[2]? = some 1 ∧ f[3]? = some (bb b) := by subst hf; exact ⟨rfl, rfl, rfl, rfl⟩
theorem Stale.hyb {i : Nat} {b : Int} {old f s : Bs} (h : Stale i b old) (hf : f.length = 64) (hh : f = 1 :: bb ((i : Int) + 1) :: 1 :: bb b :: s) (hb : 1 ≤ b ∧ b < 256) {n : Nat} (hn : n ≤ 64) : Stale i (b + 1) (hyb n f old) := by
  have hg := hyb_get (n := n) hf h.len
  obtain ⟨f0, f1, f2, f3⟩ := head_get hh
  refine ⟨hyb_len hn hf h.len, ?_, ?_⟩
  · by_cases h3 : 3 ≤ n
    · left
      exact take3_of (by rw [hg, if_pos (by omega)]; exact f0) (by rw [hg, if_pos (by omega)]; exact f1) (by rw [hg, if_pos (by omega)]; exact f2)
    · rcases h.shape with h1 | h1
      · obtain ⟨o0, o1, o2⟩ := take3_get h1
        left
        refine take3_of ?_ ?_ ?_
        · rw [hg]; split; exact f0; exact o0
        · rw [hg]; split; exact f1; exact o1
        · rw [hg]; split; exact f2; exact o2
      · right
        rw [← h1]
        apply List.ext_getElem?
        intro j
        rw [List.getElem?_drop, List.getElem?_drop, hg, if_neg (by omega)]
  · by_cases h3 : 3 < n
    · have : (Go.AI.hyb n f old).getD 3 0 = bb b := getD3 (by rw [hg, if_pos h3]; exact f3)
      rw [this, bb_toNat3 (by omega)]
      omega
    · have : (Go.AI.hyb n f old).getD 3 0 = old.getD 3 0 := by
        rw [List.getD_eq_getElem?_getD, List.getD_eq_getElem?_getD, hg, if_neg h3]
      rw [this]
      have := h.old
      omega
/-- A torn sector that is taken is of this boot, or was whole before. -/
theorem hyb_accept {t : List Bs} (hn : t.Nodup) {b : Int} {N : Nat} (hB : BI t b N) (hb : 1 ≤ b ∧ b < 256) {i : Nat} (hi : i < 200) {old f s : Bs} (h : Stale i b old) (hf : f.length = 64) (hh : f = 1 :: bb ((i : Int) + 1) :: 1 :: bb b :: s) {n : Nat} {p : Int} {r : Rec} {nm : Int}
    (hr : recGet t (hyb n f old) (i + 1) p = (r, nm, 0)) : r.boot = b ∨ (r.boot < b ∧ recGet t old (i + 1) p = (r, nm, 0)) := by
  have hg := hyb_get (n := n) hf h.len
  obtain ⟨f0, f1, f2, f3⟩ := head_get hh
  obtain ⟨a1, a2, a3, s', a4⟩ := read_head hn hB hb.2 hi hr
  obtain ⟨g0, g1, g2, g3⟩ := head_get a4
  by_cases h3 : 3 < n
  · left
    rw [hg, if_pos h3, f3] at g3
    have := Option.some.inj g3
    have e1 := bb_toNat3 (x := b) (by omega)
    have e2 := bb_toNat3 (x := r.boot) (by omega)
    rw [this, e2] at e1
    exact e1
  · right
    have h3' : (hyb n f old).getD 3 0 = old.getD 3 0 := by
      rw [List.getD_eq_getElem?_getD, List.getD_eq_getElem?_getD, hg, if_neg h3]
    rw [h3'] at a1
    have hlt := h.old
    have hsame : hyb n f old = old := by
      have hsh : old.take 3 = [1, bb ((i : Int) + 1), 1] := by
        rcases h.shape with h1 | h1
        · exact h1
        · exfalso
          have : old.getD 3 0 = 0 := by
            refine getD3 ?_
            have : (old.drop 3)[0]? = some 0 := by rw [h1]; rfl
            rwa [List.getElem?_drop] at this
          rw [this] at a1
          have : ((0 : UInt8).toNat : Int) = 0 := rfl
          omega
      obtain ⟨o0, o1, o2⟩ := take3_get hsh
      apply List.ext_getElem?
      intro j
      rw [hg]
      by_cases hj : j < n
      · rw [if_pos hj]
        match j, hj with
        | 0, _ => rw [f0, o0]
        | 1, _ => rw [f1, o1]
        | 2, _ => rw [f2, o2]
        | j + 3, hj => omega
      · rw [if_neg hj]
    rw [hsame] at hr
    exact ⟨by omega, hr⟩
/-- What the next boot's term changes: nothing. -/
theorem sup_back {ts t : List Bs} (hn : ts.Nodup) (hn' : t.Nodup) {c : Int} (ht : t = ts ∨ t = ts ++ [supT c]) {x : Bs} (hx : x.length = 64) {q p : Int} {r : Rec} {nm : Int} (h : recGet t x q p = (r, nm, 0)) : recGet ts x q p = (r, nm, 0) := by
  rcases ht with rfl | rfl
  · exact h
  · obtain ⟨a1, a2, a3, a4, a5, a6, a7⟩ := recGet_some hn' h
    have hl := recRead_len hn' a7 hx
    rcases bTerm_snoc a3 with h1 | ⟨_, h1⟩
    · have := recGet_own hn a1 a2 h1 hl
      rw [← a4, a5, a6] at this
      exact this
    · exact absurd h1 (rec_ne_sup _ _)
theorem sPut_shape {m : Int} {ts t : List Bs} {b : Int} {s : Bs} (hm : (ts.length : Int) < m) (h : sPut m ts b = (t, s, 0)) : t = ts ∨ t = ts ++ [supT b] := by
  have hl := supT_len b
  have hT : supT b ≠ [] := by simp [supT]
  unfold sPut at h
  split at h
  · by_cases hm' : supT b ∈ ts
    · obtain ⟨i, h1, _, _⟩ := bFind_mem hm'
      have k := cMade_old (m := m) hT (by omega) h1
      rw [k] at h
      simp at h
      exact .inl h.1.symm
    · have k := cMade_new (m := m) hT (by omega) hm' hm
      rw [k] at h
      simp at h
      exact .inr h.1.symm
  · simp at h
/-- A journal that crashes may tear. -/
structure KI (B : Int) (ts k : List Bs) (J : JS) : Prop where
  inv : JInv 65536 ts k J
  boot : 1 ≤ J.boot ∧ J.boot ≤ 200
  bi : ∃ N, BI ts J.boot N ∧ (B = J.boot → N = J.es.length)
  stale : ∀ i, J.es.length ≤ i → 2 + i < k.length → Stale i B (k.getD (2 + i) [])
  fin : EndAt ts k J.es.length J.prev
  pv : J.prev < ts.length
  kl : k.length = 60
theorem KI.book {ts k : List Bs} {J : JS} (h : KI J.boot ts k J) : BI ts J.boot J.es.length := by
  obtain ⟨N, h1, h2⟩ := h.bi
  rw [← h2 rfl]; exact h1
theorem KI.mono {ts k : List Bs} {J : JS} (h : KI J.boot ts k J) : KI (J.boot + 1) ts k J := ⟨h.inv, h.boot, ⟨_, h.book, fun h => by omega⟩, fun i h1 h2 => (h.stale i h1 h2).mono (by omega), h.fin, h.pv, h.kl⟩
theorem KI.open {ts k : List Bs} {J : JS} (h : KI (J.boot + 1) ts k J) (hb : J.boot < 200) (htl : ts.length < 250) :
    ∃ t k', jOpen 65536 ts k [] false = (t, k', [], .inr ⟨J.boot + 1, J.prev, J.es, false⟩) ∧ t.length ≤ ts.length + 1 ∧ KI (J.boot + 1) t k' ⟨J.boot + 1, J.prev, J.es, false⟩ := by
  have hkl := h.kl
  have hbt := h.boot
  have he : ∀ t k' s, sPut 65536 ts (J.boot + 1) = (t, s, 0) → bOk 65536 t → Mono ts t → k'.length = k.length → (∀ i, 2 ≤ i → k'.getD i [] = k.getD i []) → EndAt t k' J.es.length J.prev := by
    intro t k' s hs hok hm hl hg h1 h0
    rw [hg _ (by omega)] at h0
    obtain ⟨⟨r, nm, e⟩, hr⟩ : ∃ z, recGet t (k.getD (2 + J.es.length) []) (J.es.length + 1) J.prev = z := ⟨_, rfl⟩
    rw [hr] at h0
    simp only at h0
    subst h0
    have := sup_back h.inv.ok.nd hok.nd (sPut_shape (by omega) hs) (getD_len h.inv.dk.full (by omega)) hr
    have h2 := h.fin (by omega)
    rw [this] at h2
    exact h2 rfl
  obtain ⟨t, k', s, o0, o1, o2, o3, o4, o5, o6⟩ := h.inv.open' (by omega) (by omega) (by omega) he
  refine ⟨t, k', o1, o2, ⟨o4, by simp only; omega, ?_, fun i h1 h2 => ?_, he t k' s o0 o4.ok o3 o5 o6, ?_, by omega⟩⟩
  · obtain ⟨N, hN, _⟩ := h.bi
    refine ⟨J.es.length, ?_, fun _ => rfl⟩
    rcases sPut_shape (by omega) o0 with rfl | rfl
    · exact hN.up
    · exact hN.sup _
  · rw [o6 _ (by omega)]; exact h.stale i h1 (by omega)
  · have h1 := h.pv
    rcases sPut_shape (by omega) o0 with rfl | rfl
    · exact h1
    · simp only [List.length_append]; omega
/-- Appended to. -/
theorem KI.append {ts k : List Bs} {J : JS} (h : KI J.boot ts k J) {l : List Ev} (hl : l.all evMay = true) (h0 : l ≠ []) (hf : J.es.length + l.length + 2 ≤ 60) (htl : ts.length + l.length ≤ 250) :
    ∃ t ss p, jPut 65536 ts J k.length false l = (t, ss, p, 0) ∧ t.length ≤ ts.length + l.length ∧ KI J.boot t (dPut k ([] ++ jWs (2 + (J.es.length : Int)) ss)) ⟨J.boot, p, J.es ++ l, J.over⟩ := by
  have hkl := h.kl
  have hbt := h.boot
  have hbm : 1 ≤ J.boot ∧ nMay J.boot = true := ⟨by omega, by simp only [nMay, decide_eq_true_eq]; omega⟩
  obtain ⟨t, ss, p, a1, a2, a3, a4, a5, a6, a7, a8⟩ := h.inv.append (l := l) hbm hl (by omega) (by omega) (by omega)
  obtain ⟨b1, b2, b3⟩ := jRecs_book hbm l h.book h.pv h.inv.prev hl (by omega) (by omega) (by omega) a6
  have f := jRecs_facts hbm l h.inv.ok h.inv.prev hl (by omega) (by omega) (by omega) a6
  have hst : ∀ i, J.es.length + l.length ≤ i → 2 + i < k.length → Stale i J.boot ((dPut k ([] ++ jWs (2 + (J.es.length : Int)) ss)).getD (2 + i) []) := fun i h1 h2 => by
    rw [a8 _ (.inr (by omega))]; exact h.stale i (by omega) h2
  refine ⟨t, ss, p, a1, a2, ⟨a7, hbt, ⟨_, b1, fun _ => by simp⟩, fun i h1 h2 => hst i (by simpa using h1) (by rw [dPut_len] at h2; exact h2), fun h1 => ?_, b2, by rw [dPut_len]; exact hkl⟩⟩
  have := hst (J.es.length + l.length) (Nat.le_refl _) (by rw [dPut_len] at h1; simpa using h1)
  have hne := this.not a7.ok.nd b1 (by omega) (by omega) (f.2 h0)
  simpa using hne
end Go.AI

/- Journals: crashes that tear, plainly: the law. -/
set_option linter.all false
namespace Go.AI
/-- What a crash leaves of writes one behind the other. -/
theorem dLost_hyb {mask torn : Int} {ss : List Bs} {k : List Bs} {q : Nat} (hq : q + ss.length ≤ k.length) (h64 : ∀ s ∈ ss, s.length = 64) (hk : ∀ s ∈ k, s.length = 64) :
    (∀ j, (j < q ∨ q + ss.length ≤ j) → (dLost mask torn k (jWs q ss)).getD j [] = k.getD j []) ∧ ∀ d, d < ss.length → ∃ m, m ≤ 64 ∧ (dLost mask torn k (jWs q ss)).getD (q + d) [] = hyb m (ss.getD d []) (k.getD (q + d) []) := by
  have hw : ∀ (ss : List Bs) (q i : Nat), i < ss.length → (jWs q ss).getD i (0, []) = (((q + i : Nat) : Int), ss.getD i []) := by
    intro ss
    induction ss with
    | nil => intro q i h; simp at h
    | cons s r ih =>
      intro q i h
      cases i with
      | zero => simp [jWs]
      | succ i =>
        have := ih (q + 1) i (by simpa using h)
        have e : ((q + 1 : Nat) : Int) = (q : Int) + 1 := by omega
        rw [e] at this
        simp only [jWs, List.getD_cons_succ]
        rw [this]
        congr 1; omega
  have key : ∀ i, i ≤ ss.length → (∀ j, (j < q ∨ q + i ≤ j) → (dCr mask torn k (jWs q ss) i).1.getD j [] = k.getD j []) ∧ ∀ d, d < i → ∃ m, m ≤ 64 ∧ (dCr mask torn k (jWs q ss) i).1.getD (q + d) [] = hyb m (ss.getD d []) (k.getD (q + d) []) := by
    intro i
    induction i with
    | zero => intro _; exact ⟨fun j _ => rfl, fun d hd => by omega⟩
    | succ i ih =>
      intro hi
      obtain ⟨ih1, ih2⟩ := ih (by omega)
      have hl := dCr_len mask torn k (jWs q ss) i
      have hfl := getD_len h64 (i := i) (by omega)
      have hol := getD_len hk (i := q + i) (by omega)
      have hold := ih1 (q + i) (.inr (Nat.le_refl _))
      simp only [dCr]
      rw [hw ss q i (by omega)]
      generalize dCr mask torn k (jWs q ss) i = z at *
      obtain ⟨L, fl⟩ := z
      dsimp only at *
      have hset : ∀ (x : Bs) j, (L.set (((q + i : Nat) : Int)).toNat x).getD j [] = if j = q + i then x else L.getD j [] := by
        intro x j
        rw [Int.toNat_natCast]
        by_cases hj : j = q + i
        · rw [if_pos hj, hj]
          simp [List.getD_eq_getElem?_getD, List.getElem?_set_self (show q + i < L.length by omega)]
        · rw [if_neg hj]
          simp [List.getD_eq_getElem?_getD, List.getElem?_set_ne (Ne.symm hj)]
      have done : ∀ (x : Bs), (∃ m, m ≤ 64 ∧ x = hyb m (ss.getD i []) (k.getD (q + i) [])) → (∀ j, (j < q ∨ q + (i + 1) ≤ j) → (L.set (((q + i : Nat) : Int)).toNat x).getD j [] = k.getD j []) ∧ ∀ d, d < i + 1 → ∃ m, m ≤ 64 ∧ (L.set (((q + i : Nat) : Int)).toNat x).getD (q + d) [] = hyb m (ss.getD d []) (k.getD (q + d) []) := by
        intro x hx
        refine ⟨fun j hj => ?_, fun d hd => ?_⟩
        · rw [hset, if_neg (by omega)]; exact ih1 j (by omega)
        · by_cases hdi : d = i
          · subst hdi
            rw [hset, if_pos rfl]; exact hx
          · rw [hset, if_neg (by omega)]; exact ih2 d (by omega)
      split
      · refine done _ ⟨64, Nat.le_refl _, ?_⟩
        unfold hyb
        rw [List.take_of_length_le (by omega), List.drop_of_length_le (by omega), List.append_nil]
      · split
        · refine done _ ⟨min torn.toNat 64, by omega, ?_⟩
          rw [Int.toNat_natCast, hold]
          rfl
        · refine ⟨fun j hj => ih1 j (by omega), fun d hd => ?_⟩
          by_cases hdi : d = i
          · subst hdi
            exact ⟨0, by omega, by rw [hold]; rfl⟩
          · exact ih2 d (by omega)
  have := key ss.length (Nat.le_refl _)
  unfold dLost
  rw [jWs_len]
  exact this
theorem term_inj {t : List Bs} (hn : t.Nodup) {x y : Int} {s : Bs} (h : bTerm t x = (s, 0)) (g : bTerm t y = (s, 0)) : x = y := by
  obtain ⟨i, rfl, hi⟩ := bTerm_iff.1 h
  obtain ⟨j, rfl, hj⟩ := bTerm_iff.1 g
  rw [nd_get hn hi hj]
/-- What is found behind a crash: a beginning. -/
theorem KI.scan {ts k : List Bs} {J : JS} (h : KI J.boot ts k J) {l : List Ev} {t ss kC kF : List Bs} {p' : Int} (hok : bOk 65536 t) (hM : Mono ts t) (hB : BI t J.boot (J.es.length + l.length)) (hR : RecsOf J.boot J.es.length J.prev l t ss p') (hss : ss.length = l.length)
    (hT : ∀ (x : Int) (r : Rec), recMay r = true → bTerm t x = (recT r, 0) → bTerm ts x = (recT r, 0) ∨ (r.boot = J.boot ∧ J.es.length < r.seq ∧ ∃ d, ∃ hd : d < l.length, r.seq = (J.es.length : Int) + d + 1 ∧ r.ev = l[d]))
    (hf : J.es.length + l.length + 2 ≤ 60) (hl60 : kC.length = 60) (hkF : kF.length = 60) (h64 : ∀ s ∈ ss, s.length = 64) (hFs : ∀ d, d < l.length → kF.getD (2 + J.es.length + d) [] = ss.getD d [])
    (hC1 : ∀ j, 2 + J.es.length + l.length ≤ j → kC.getD j [] = k.getD j []) (hC2 : ∀ d, d < l.length → ∃ m, m ≤ 64 ∧ kC.getD (2 + J.es.length + d) [] = hyb m (ss.getD d []) (k.getD (2 + J.es.length + d) [])) :
    ∀ (u d : Nat) (p : Int), d + u = l.length → ChainFrom t kF (J.es.length + d) p (l.drop d) p' → nMay p = true → p < t.length → ((d = 0 ∧ p = J.prev) ∨ OfBoot t p J.boot) → l ≠ [] →
      ∃ c pc, d ≤ c ∧ c ≤ l.length ∧ ChainFrom t kC (J.es.length + d) p ((l.drop d).take (c - d)) pc ∧ EndAt t kC (J.es.length + c) pc ∧ nMay pc = true ∧ pc < t.length := by
  have hkl := h.kl
  have hbt := h.boot
  intro u
  induction u with
  | zero =>
    intro d p hd hc hp hpl hob hne
    obtain rfl : d = l.length := by omega
    have hpos := List.length_pos_iff.2 hne
    refine ⟨l.length, p, Nat.le_refl _, Nat.le_refl _, by simp; rfl, fun h1 => ?_, hp, hpl⟩
    rw [hC1 _ (by omega)]
    have hs := h.stale (J.es.length + l.length) (by omega) (by omega)
    rcases hob with ⟨h0, _⟩ | hob
    · omega
    · exact hs.not hok.nd hB (by omega) (by omega) hob
  | succ u ih =>
    intro d p hd hc hp hpl hob hne
    have hdl : d < l.length := by omega
    rw [List.drop_eq_getElem_cons hdl] at hc
    obtain ⟨_, r, nm, g1, g2, g3⟩ := hc
    have e1 : 2 + (J.es.length + d) = 2 + J.es.length + d := by omega
    rw [e1, hFs d hdl] at g1
    obtain ⟨m, hm, hx⟩ := hC2 d hdl
    have hst := h.stale (J.es.length + d) (by omega) (by omega)
    rw [e1] at hst
    have hfl := getD_len h64 (i := d) (by omega)
    obtain ⟨a1, a2, a3, a4, a5, a6, a7⟩ := recGet_some hok.nd g1
    -- the record's boot
    obtain ⟨s0, n0, w1, _, _⟩ := hR.1 d hdl
    have hrb : r.boot = J.boot := by
      have := w1.read hok.nd
      rw [a7] at this
      have := (Prod.mk.inj (Option.some.inj this)).1
      rw [this]
    have hcast : (((J.es.length + d : Nat) : Int)) = (J.es.length : Int) + d := by omega
    obtain ⟨s', hhead⟩ := rec_head (r := r) (n := nm) (by rw [a5]; omega) (by omega)
    rw [← a4, a5, hrb] at hhead
    have hob2 : OfBoot t nm J.boot := ⟨r, a1, hrb, a3⟩
    by_cases hacc : (recGet t (kC.getD (2 + J.es.length + d) []) (((J.es.length + d : Nat) : Int) + 1) p).2.2 = 0
    · obtain ⟨⟨r', nm', e⟩, hr'⟩ : ∃ z, recGet t (kC.getD (2 + J.es.length + d) []) (((J.es.length + d : Nat) : Int) + 1) p = z := ⟨_, rfl⟩
      rw [hr'] at hacc
      simp only at hacc
      subst hacc
      obtain ⟨b1, b2, b3, b4, b5, b6, b7⟩ := recGet_some hok.nd hr'
      have hr2 := hr'
      rw [hx] at hr2
      have hboot : r'.boot = J.boot := by
        rcases hyb_accept hok.nd hB (by omega) (by omega) hst hfl hhead hr2 with h1 | ⟨h1, h2⟩
        · exact h1
        · exfalso
          rcases hob with ⟨rfl, rfl⟩ | hob
          · have hterm : bTerm ts nm' = (recT r', 0) := by
              rcases hT nm' r' b1 b3 with h3 | ⟨h3, _⟩
              · exact h3
              · omega
            obtain ⟨_, _, _, c4, _, _, c7⟩ := recGet_some hok.nd h2
            have hlen := recRead_len hok.nd c7 hst.len
            have := recGet_own h.inv.ok.nd b1 b2 hterm hlen
            rw [← c4, b5, b6] at this
            have h5 := h.fin (by omega)
            simp only [Nat.add_zero] at this
            rw [this] at h5
            exact h5 rfl
          · have := hst.not hok.nd hB (by omega) (by omega) hob
            rw [h2] at this
            exact this rfl
      have hev : r'.ev = l[d] := by
        rcases hT nm' r' b1 b3 with h3 | ⟨_, _, d', hd', h4, h5⟩
        · have := (h.book nm' r' b1 h3).2.1 hboot
          omega
        · have : d' = d := by omega
          subst this
          exact h5
      have hrr : r' = r := by
        obtain ⟨q1, q2, q3, q4⟩ := r
        obtain ⟨q1', q2', q3', q4'⟩ := r'
        simp only at *
        subst hev g2 hboot hrb b6 a6
        rw [b5, a5]
      subst hrr
      have hnm : nm' = nm := term_inj hok.nd b3 a3
      subst hnm
      have hnml := (bTerm_lt a3).2
      have e3 : J.es.length + d + 1 = J.es.length + (d + 1) := by omega
      rw [e3] at g3
      obtain ⟨c, pc, c1, c2, c3, c4, c5, c6⟩ := ih (d + 1) nm' (by omega) g3 a2 hnml (.inr hob2) hne
      refine ⟨c, pc, by omega, c2, ?_, c4, c5, c6⟩
      obtain ⟨v, hv⟩ : ∃ v, c - d = v + 1 := ⟨c - d - 1, by omega⟩
      have hv2 : c - (d + 1) = v := by omega
      rw [hv2] at c3
      rw [List.drop_eq_getElem_cons hdl, hv, List.take_succ_cons]
      exact ⟨by omega, r', nm', by rw [e1]; exact hr', g2, by rw [e3]; exact c3⟩
    · refine ⟨d, p, Nat.le_refl _, by omega, by rw [Nat.sub_self]; rfl, fun h1 => ?_, hp, hpl⟩
      rw [e1]
      exact hacc
theorem Mono.lt {ts t : List Bs} (h : Mono ts t) {p : Int} (h0 : nMay p = true) (h1 : p < ts.length) : p < t.length := by
  have h2 : 0 ≤ p ∧ p ≤ 1073741823 := by simpa [nMay] using h0
  obtain ⟨n, rfl⟩ := Int.eq_ofNat_of_zero_le h2.1
  exact (bTerm_lt (h _ _ (bTerm_get (List.getElem?_eq_getElem (show n < ts.length by omega))))).2
/-- Written, and a crash. -/
theorem KI.crash {ts k : List Bs} {J : JS} (h : KI J.boot ts k J) {l : List Ev} (hl : l.all evMay = true) (h0 : l ≠ []) (hf : J.es.length + l.length + 2 ≤ 60) (htl : ts.length + l.length ≤ 250) {mask torn : Int} (ht : 0 ≤ torn) :
    ∃ t ss p, jPut 65536 ts J k.length false l = (t, ss, p, 0) ∧ bOk 65536 t ∧ dOk k ([] ++ jWs (2 + (J.es.length : Int)) ss) ∧ ss.length = l.length ∧ t.length ≤ ts.length + l.length ∧
      ∃ c pc, c ≤ l.length ∧ KI (J.boot + 1) t (dLost mask torn k ([] ++ jWs (2 + (J.es.length : Int)) ss)) ⟨J.boot, pc, J.es ++ l.take c, false⟩ := by
  have hkl := h.kl
  have hbt := h.boot
  have hbm : 1 ≤ J.boot ∧ nMay J.boot = true := ⟨by omega, by simp only [nMay, decide_eq_true_eq]; omega⟩
  obtain ⟨t, ss, p, a1, a2, a3, a4, a5, a6, a7, a8⟩ := h.inv.append (l := l) hbm hl (by omega) (by omega) (by omega)
  obtain ⟨b1, b2, b3⟩ := jRecs_book hbm l h.book h.pv h.inv.prev hl (by omega) (by omega) (by omega) a6
  have f := jRecs_facts hbm l h.inv.ok h.inv.prev hl (by omega) (by omega) (by omega) a6
  have hd2 := ((jPut_facts a1 h.inv.dk).2 rfl).2.2.2.2.2
  obtain ⟨t', ss', p'', s1, s2, s3, s4, s5, s6⟩ := jRecs_chain hbm l (q := J.es.length) h.inv.ok h.inv.prev hl (by omega) (by omega) (by omega)
  rw [a6] at s1
  obtain ⟨rfl, rfl, rfl⟩ : t = t' ∧ ss = ss' ∧ p = p'' := ⟨(Prod.mk.inj s1).1, (Prod.mk.inj (Prod.mk.inj s1).2).1, (Prod.mk.inj (Prod.mk.inj (Prod.mk.inj s1).2).2).1⟩
  have hdl := dOk_lost (mask := mask) hd2 ht
  have hcast : (2 + (J.es.length : Int)) = ((2 + J.es.length : Nat) : Int) := by omega
  obtain ⟨c1, c2⟩ := dLost_hyb (mask := mask) (torn := torn) (ss := ss) (k := k) (q := 2 + J.es.length) (by omega) a5 h.inv.dk.full
  have hCl : (dLost mask torn k ([] ++ jWs (2 + (J.es.length : Int)) ss)).length = k.length := by unfold dLost; rw [dCr_len]
  have hFl : (dPut k ([] ++ jWs (2 + (J.es.length : Int)) ss)).length = k.length := dPut_len _ _
  have hFg : ∀ i, (dPut k ([] ++ jWs (2 + (J.es.length : Int)) ss)).getD i [] = if 2 + J.es.length ≤ i ∧ i < 2 + J.es.length + ss.length then ss.getD (i - (2 + J.es.length)) [] else k.getD i [] := fun i => by
    rw [List.nil_append, hcast]; exact dPut_jWs ss k _ i (by omega)
  rw [← hcast] at c1 c2
  obtain ⟨kC, hkC⟩ : ∃ x, dLost mask torn k (jWs (2 + (J.es.length : Int)) ss) = x := ⟨_, rfl⟩
  have hkC2 : dLost mask torn k ([] ++ jWs (2 + (J.es.length : Int)) ss) = kC := hkC
  rw [hkC2] at hCl hdl
  rw [hkC] at c1 c2
  have hFs : ∀ d, d < l.length → (dPut k ([] ++ jWs (2 + (J.es.length : Int)) ss)).getD (2 + J.es.length + d) [] = ss.getD d [] := fun d hd => by
    rw [hFg, if_pos (by omega)]
    congr 1; omega
  have hch : ChainFrom t (dPut k ([] ++ jWs (2 + (J.es.length : Int)) ss)) J.es.length J.prev l p := s6 _ a7.dk.full (by omega) hFs
  obtain ⟨c, pc, _, g2, g3, g4, g5, g6⟩ := h.scan (kC := kC) (kF := dPut k ([] ++ jWs (2 + (J.es.length : Int)) ss)) a7.ok a3 b1 f a4 b3 hf (by omega) (by omega) a5 hFs (fun j hj => c1 j (.inr (by omega))) (fun d hd => c2 d (by omega)) l.length 0 J.prev (by omega) (by simpa using hch) h.inv.prev (Mono.lt a3 h.inv.prev h.pv) (.inl ⟨rfl, rfl⟩) h0
  have hst : ∀ i, J.es.length + c ≤ i → 2 + i < kC.length → Stale i (J.boot + 1) (kC.getD (2 + i) []) := by
    intro i h1 h2
    by_cases hil : i < J.es.length + l.length
    · obtain ⟨d, rfl⟩ : ∃ d, i = J.es.length + d := ⟨i - J.es.length, by omega⟩
      obtain ⟨m, hm, hx⟩ := c2 d (by omega)
      have e1 : 2 + (J.es.length + d) = 2 + J.es.length + d := by omega
      rw [e1, hx]
      obtain ⟨s0, n0, w1, _, _⟩ := f.1 d (by omega)
      obtain ⟨s', hs'⟩ := rec_head (r := ⟨(J.es.length : Int) + d + 1, J.boot, s0, l[d]'(by omega)⟩) (n := n0) (by simp only; omega) (by simp only; omega)
      rw [← w1.sec] at hs'
      have hcd : (((J.es.length + d : Nat) : Int)) + 1 = (J.es.length : Int) + d + 1 := by omega
      have hso := h.stale (J.es.length + d) (by omega) (by omega)
      rw [e1] at hso
      exact hso.hyb (getD_len a5 (by omega)) (by rw [hcd]; exact hs') (by omega) hm
    · rw [c1 _ (.inr (by omega))]
      exact (h.stale i (by omega) (by omega)).mono (by omega)
  refine ⟨t, ss, p, a1, a7.ok, hd2, a4, a2, c, pc, g2, ?_⟩
  rw [hkC2]
  refine ⟨⟨a7.ok, hdl, ?_, ?_, g5, ?_, rfl⟩, hbt, ⟨_, b1, fun h => by simp only at h; omega⟩, fun i h1 h2 => hst i ?_ h2, ?_, g6, by omega⟩
  · refine ChainFrom.app J.es (h.inv.chain.move h.inv.ok.nd a7.ok.nd a3 h.inv.dk.full _ hCl fun j _ hj => c1 j (.inl (by omega))) ?_
    simpa using g3
  · rw [c1 0 (.inl (by omega)), c1 1 (.inl (by omega))]
    exact h.inv.sup.mono h.inv.ok.nd a7.ok.nd a3
  · simp only [List.length_append, List.length_take]; omega
  · simp only [List.length_append, List.length_take] at h1; omega
  · have e2 : (J.es ++ l.take c).length = J.es.length + c := by rw [List.length_append, List.length_take]; omega
    show EndAt t kC (J.es ++ l.take c).length pc
    rw [e2]; exact g4
end Go.AI

/- JournalKeeps. -/
set_option linter.all false
namespace Go.AI
variable {A : Type} {R : Adts A}
def AllAt (x : AVal) (l : List Ev) (q : Nat) (g : AHeap A) : Prop := (l = [] ∧ x = .nils) ∨ WantAt x l q g
theorem AllAt.rd {x : AVal} {l : List Ev} {q : Nat} {g : AHeap A} (h : AllAt x l q g) : Rd x l g := by
  rcases h with ⟨rfl, rfl⟩ | h
  · exact Rd.nil g
  · exact h.rd
theorem AllAt.len {x : AVal} {l : List Ev} {q : Nat} {g : AHeap A} (h : AllAt x l q g) (K : AVal → Prop) : lenP x K = K (.int .i64 l.length) := h.rd.len K
theorem AllAt.move {x : AVal} {l : List Ev} {q : Nat} {g g' : AHeap A} (h : AllAt x l q g) (hg : x ≠ .nils → g'[q]? = g[q]?) : AllAt x l q g' := by
  rcases h with h | h
  · exact .inl h
  · refine .inr (h.move (hg ?_))
    rcases h with ⟨_, rfl, _⟩ | ⟨_, rfl, _⟩ <;> simp
theorem AllAt.cell {x : AVal} {l : List Ev} {q : Nat} {g : AHeap A} (h : AllAt x l q g) (hx : x ≠ .nils) : ∃ t cs, g[q]? = some (.cells t cs) := by
  rcases h with ⟨_, h⟩ | ⟨_, _, h⟩ | ⟨_, _, h⟩
  · exact absurd h hx
  · exact ⟨_, _, h⟩
  · exact ⟨_, _, h⟩
theorem app_all {x a : AVal} {wl l : List Ev} {q : Nat} {h : AHeap A} (hx : AllAt x wl q h) (hs : srcOf 8 h a = some (l.length, l.flatMap Ev.row)) (hl : l ≠ []) (hn : wl.length + l.length ≤ 9000) {K : AVal → AHeap A → Prop}
    (hk : ∀ x' q' h', AllAt x' (wl ++ l) q' h' → ((x ≠ .nils ∧ q' = q) ∨ h.length ≤ q') → (∀ k, (x = .nils ∨ k ≠ q) → k < h.length → h'[k]? = h[k]?) → h.length ≤ h'.length → K x' h') : appP t_api_Event 8 64 x a h K := by
  rcases hx with ⟨rfl, rfl⟩ | hx
  · refine app_evs (x := .nils) (es := []) (e := h.length) (.inl ⟨rfl, rfl⟩) hs (by simp at hn ⊢; omega) fun x' e' h' hev hsame hl' he' => ?_
    refine hk x' e' h' (.inr ?_) (he'.elim (fun h => absurd rfl h.1) .inr) (fun k _ hk2 => hsame k (.inl rfl) hk2) hl'
    rcases hev with ⟨h0, _⟩ | hev
    · simp at h0; exact absurd h0 hl
    · exact .inr hev
  · have hxn : x ≠ .nils := by rcases hx with ⟨_, rfl, _⟩ | ⟨_, rfl, _⟩ <;> simp
    exact app_want hx hs hl hn fun x' q' h' h1 h2 h3 h4 => hk x' q' h' (.inr h1) (h2.imp (fun h => ⟨hxn, h⟩) id) (fun k hk1 hk2 => h3 k (hk1.elim (fun h => absurd h hxn) id) hk2) h4
theorem split_at {h' base : AHeap A} (hl : ∀ k, k < base.length → h'[k]? = base[k]?) : ∃ r, h' = base ++ r := ⟨h'.drop base.length, by
  have := take_eq hl
  conv => lhs; rw [← List.take_append_drop base.length h', this]⟩
section
variable {bk rbk : Int → List Bs → A} {dk rdk : List Bs → Ws → Bool → A} {jm : Nat → Nat → JS → A}
def h4 (bk rbk : Int → List Bs → A) (dk : List Bs → Ws → Bool → A) (B3 : AObj A) (ts k : List Bs) (w : Ws) (dn : Bool) (rest : AHeap A) : AHeap A := .adt (bk 65536 ts) :: .adt (rbk 65536 []) :: .adt (dk k w dn) :: B3 :: rest
theorem h4_len (B3 : AObj A) (ts k : List Bs) (w : Ws) (dn : Bool) (rest : AHeap A) : (h4 bk rbk dk B3 ts k w dn rest).length = rest.length + 4 := rfl
theorem h4_app (B3 : AObj A) (ts k : List Bs) (w : Ws) (dn : Bool) (rest L : AHeap A) : h4 bk rbk dk B3 ts k w dn rest ++ L = h4 bk rbk dk B3 ts k w dn (rest ++ L) := rfl
theorem h4_at (B3 : AObj A) (ts k : List Bs) (w : Ws) (dn : Bool) (rest : AHeap A) (j : Nat) : (h4 bk rbk dk B3 ts k w dn rest)[j + 4]? = rest[j]? := rfl
section
variable {B3 : AObj A} {ts t k k' : List Bs} {w : Ws} {rest : AHeap A} {J J' : JS} {jp : Nat}
theorem open4 (hR : R.Ok) (hB : HasBook R bk) (hD : HasDisk R dk) (hJ : HasJrn R jm) (hok : bOk 65536 ts) (hdk : dOk k []) (he : jOpen 65536 ts k [] false = (t, k', [], .inr J)) {K : AVal → AHeap A → Prop}
    (hk : K (.tup [.ptr (rest.length + 4) 0, .int .i64 0]) (h4 bk rbk dk B3 t k' [] false (rest ++ [.adt (jm 0 2 J)]))) : Tri Pr R n_journal_Open [.ptr 0 0, .ptr 2 0] (h4 bk rbk dk B3 ts k [] false rest) K := by
  refine Open_ok hR hB hD hJ hok hdk (by simp) he rfl rfl (by decide) ?_
  exact hk
theorem ev4 (hR : R.Ok) (hB : HasBook R bk) (hD : HasDisk R dk) (hJ : HasJrn R jm) (hn : J.es.length ≤ 300) (hj : rest[jp]? = some (.adt (jm 0 2 J))) {K : AVal → AHeap A → Prop}
    (hk : K (NewEvs J.es (rest.length + 4)) (h4 bk rbk dk B3 ts k [] false (rest ++ jEvs J.es))) : Tri Pr R n_journal_Journal_Events [.ptr (jp + 4) 0] (h4 bk rbk dk B3 ts k [] false rest) K := by
  refine Events_new hR hB hD hJ (J := J) (b := 0) (d := 2) hn rfl rfl ?_ (by omega) ?_
  · exact hj
  · exact hk
theorem boot4 (hR : R.Ok) (hB : HasBook R bk) (hD : HasDisk R dk) (hJ : HasJrn R jm) (hj : rest[jp]? = some (.adt (jm 0 2 J))) {K : AVal → AHeap A → Prop}
    (hk : K (.int .i64 J.boot) (h4 bk rbk dk B3 ts k [] false rest)) : Tri Pr R n_journal_Journal_Boot [.ptr (jp + 4) 0] (h4 bk rbk dk B3 ts k [] false rest) K :=
  Boot_ok hR hB hD hJ (J := J) (b := 0) (d := 2) (j := jp + 4) (ts := ts) (k := k) (w := []) (dn := false) (h := h4 bk rbk dk B3 ts k [] false rest) rfl rfl hj (by omega) hk
theorem app4 (hR : R.Ok) (hB : HasBook R bk) (hD : HasDisk R dk) (hJ : HasJrn R jm) (hok : bOk 65536 ts) (hdk : dOk k []) (hn : J.es.length ≤ 300) {l : List Ev} (hl : l.length < 1000) {ss : List Bs} {p : Int} (he : jPut 65536 ts J k.length false l = (t, ss, p, 0)) (h2 : dPut k ([] ++ jWs (2 + (J.es.length : Int)) ss) = k')
    (hj : rest[jp]? = some (.adt (jm 0 2 J))) {q cap : Nat} {ex : Bool} (hq : rest[q]? = some (.cells t_api_Event (l.flatMap Ev.row))) {K : AVal → AHeap A → Prop} (hk : K (.int .i64 0) (h4 bk rbk dk B3 t k' [] false (rest.set jp (.adt (jm 0 2 ⟨J.boot, p, J.es ++ l, J.over⟩))))) :
    Tri Pr R n_journal_Journal_Append [.ptr (jp + 4) 0, .sl (q + 4) 0 l.length cap ex] (h4 bk rbk dk B3 ts k [] false rest) K := by
  have hqj : jp ≠ q := by rintro rfl; rw [hj] at hq; simp at hq
  refine Append_at (l := l) (J := J) hR hB hD hJ hok hdk (by simp) hn (by omega) he h2 (b := 0) (d := 2) (j := jp + 4) (h := h4 bk rbk dk B3 ts k [] false rest) rfl rfl hj (by omega) (EvsAt.at (q := q + 4) hq rfl (by omega)) ?_
  exact hk
theorem wr4 (hR : R.Ok) (hB : HasBook R bk) (hD : HasDisk R dk) (hJ : HasJrn R jm) (hok : bOk 65536 ts) (hdk : dOk k []) (hn : J.es.length ≤ 300) {l : List Ev} (hl : l.length < 1000) {ss : List Bs} {p : Int} (he : jPut 65536 ts J k.length false l = (t, ss, p, 0)) (h2 : [] ++ jWs (2 + (J.es.length : Int)) ss = w)
    (hj : rest[jp]? = some (.adt (jm 0 2 J))) {q cap : Nat} {ex : Bool} (hq : rest[q]? = some (.cells t_api_Event (l.flatMap Ev.row))) {K : AVal → AHeap A → Prop} (hk : K (.int .i64 0) (h4 bk rbk dk B3 t k w false (rest.set jp (.adt (jm 0 2 ⟨J.boot, J.prev, J.es, true⟩))))) :
    Tri Pr R n_journal_Journal_Write [.ptr (jp + 4) 0, .sl (q + 4) 0 l.length cap ex] (h4 bk rbk dk B3 ts k [] false rest) K := by
  have hqj : jp ≠ q := by rintro rfl; rw [hj] at hq; simp at hq
  refine Write_at (l := l) (J := J) hR hB hD hJ hok hdk (by simp) hn (by omega) he h2 (b := 0) (d := 2) (j := jp + 4) (h := h4 bk rbk dk B3 ts k [] false rest) rfl rfl hj (by omega) (EvsAt.at (q := q + 4) hq rfl (by omega)) ?_
  exact hk
theorem crash4 (hR : R.Ok) (hD : HasDisk R dk) {mask torn : Int} (hdk : dOk k w) (hw : w.length ≤ 900) (h0 : 0 ≤ mask ∧ 0 ≤ torn) (he : dLost mask torn k w = k') {K : AVal → AHeap A → Prop}
    (hk : K (.int .i64 0) (h4 bk rbk dk B3 ts k' [] true rest)) : Tri Pr R n_disk_Disk_Crash [.ptr 2 0, .int .i64 mask, .int .i64 torn] (h4 bk rbk dk B3 ts k w false rest) K := by
  refine disk_Crash_at hR hD hdk (by omega) h0 he rfl ?_
  exact hk
theorem restart4 (hR : R.Ok) (hD : HasDisk R dk) {K : AVal → AHeap A → Prop}
    (hk : K (.int .i64 0) (h4 bk rbk dk B3 ts k [] false rest)) : Tri Pr R n_disk_Disk_Restart [.ptr 2 0] (h4 bk rbk dk B3 ts k [] true rest) K := by
  refine disk_Restart_at hR hD rfl ?_
  exact hk
theorem copy4 (hR : R.Ok) {a : AVal} {l : List Ev} (ha : Rd a l (h4 bk rbk dk B3 ts k w false rest)) (hs : srcOf 8 (h4 bk rbk dk B3 ts k w false (rest ++ [.cells t_api_Event []])) a = some (l.length, l.flatMap Ev.row)) (hn : l.length ≤ 1000) {K : AVal → AHeap A → Prop}
    (hk : ∀ x q L, AllAt x l (q + 4) (h4 bk rbk dk B3 ts k w false (rest ++ L)) → K x (h4 bk rbk dk B3 ts k w false (rest ++ L))) : Tri Pr R n_law0_CopyEvents [a] (h4 bk rbk dk B3 ts k w false rest) K := by
  refine CopyEvents_ok hR ha hs (by omega) ?_
  by_cases h0 : l = []
  · rw [if_pos h0]
    exact hk _ rest.length [.cells t_api_Event []] (.inr (.inl ⟨h0, rfl, by rw [h4_at]; simp⟩))
  · rw [if_neg h0]
    refine hk _ (rest.length + 1) [.cells t_api_Event [], .cells t_api_Event (l.flatMap Ev.row)] (.inr (.inr ⟨h0, ?_, by rw [h4_at, List.getElem?_append_right (by omega)]; simp⟩))
    rw [h4_len]
end
/-- Where a step begins. -/
structure KpS (i : Nat) (ts k : List Bs) (J : JS) : Prop where
  ki : KI J.boot ts k J
  b : J.boot ≤ 1 + 2 * i
  e : J.es.length ≤ 2 * i
  t : ts.length ≤ 1 + 4 * i
def KpI (bk rbk : Int → List Bs → A) (dk : List Bs → Ws → Bool → A) (jm : Nat → Nat → JS → A) (B3 : AObj A) (n : Nat) (mm : Nat) (y : List AVal) (g : AHeap A) : Prop :=
  ∃ (i jp q : Nat) (ts k : List Bs) (J : JS) (x : AVal) (rest : AHeap A), y = [.ptr (jp + 4) 0, x, .int .i64 i] ∧ g = h4 bk rbk dk B3 ts k [] false rest ∧ rest[jp]? = some (.adt (jm 0 2 J)) ∧ KpS i ts k J ∧ AllAt x J.es (q + 4) g ∧ 1 ≤ rest.length ∧ i ≤ n ∧ i ≤ 20 ∧ mm = 20 - i
def KpJ (bk rbk : Int → List Bs → A) (dk : List Bs → Ws → Bool → A) (jm : Nat → Nat → JS → A) (B3 : AObj A) (i N0 : Nat) (vs : List AVal) (g : AHeap A) : Prop :=
  ∃ (jp q : Nat) (ts k : List Bs) (J : JS) (x : AVal) (rest : AHeap A), vs = [.ptr (jp + 4) 0, x] ∧ g = h4 bk rbk dk B3 ts k [] false rest ∧ rest[jp]? = some (.adt (jm 0 2 J)) ∧ KpS (i + 1) ts k J ∧ AllAt x J.es (q + 4) g ∧ N0 ≤ rest.length
def kes (i n : Nat) : List Ev := (List.range n).map fun (j : Nat) => evS (10 * (i : Int) + j)
theorem kes_len (i n : Nat) : (kes i n).length = n := by simp [kes]
theorem kes_succ (i n : Nat) : kes i (n + 1) = kes i n ++ [evS (10 * (i : Int) + n)] := by simp [kes, List.range_succ]
theorem kes_may (i n : Nat) (h : i ≤ 1000 ∧ n ≤ 1000) : (kes i n).all evMay = true := by
  rw [List.all_eq_true]
  intro e he
  obtain ⟨j, hj, rfl⟩ := List.mem_map.1 he
  have := List.mem_range.1 hj
  exact evS_may (by omega)
def KeI (bk rbk : Int → List Bs → A) (dk : List Bs → Ws → Bool → A) (B3 : AObj A) (ts k : List Bs) (rest : AHeap A) (i m : Nat) (mm : Nat) (y : List AVal) (g : AHeap A) : Prop :=
  ∃ (n q : Nat) (x : AVal) (r2 : AHeap A), y = [x, .int .i64 n] ∧ g = h4 bk rbk dk B3 ts k [] false (rest ++ r2) ∧ EvAt x (kes i n) (q + 4) g ∧ rest.length ≤ q ∧ n ≤ m + 1 ∧ mm = m + 1 - n
def MkJ (H : AHeap A) (vs : List AVal) (g : AHeap A) : Prop := ∃ mask : Int, 0 ≤ mask ∧ vs = [.int .i64 mask] ∧ g = H
theorem rsl_hi {G : List Ev} {p n : Nat} (hn : n ≤ G.length) {K : AVal → Prop} (hk : ∀ y, (∀ h : AHeap A, (G ≠ [] → h[p]? = some (.cells t_api_Event (G.flatMap Ev.row))) → Rd y (G.take n) h) → K y) : rslP 8 (NewEvs G p) none (some (.int .i64 n)) none K := by
  by_cases h0 : G = []
  · subst h0
    have : n = 0 := by simpa using hn
    subst this
    have := hk .nils fun h _ => Rd.nil h
    simpa [NewEvs, rslP, bnd] using this
  · have := hk (.sl p 0 n G.length false) fun h hp => Rd.part G 0 n p 0 G.length false (hp h0) (by omega) rfl
    have h1 : (n : Int) ≤ (G.length : Int) := by omega
    simpa [NewEvs, h0, rslP, bnd, hn, h1] using this
theorem rsl_lo {G : List Ev} {p n : Nat} (hn : n ≤ G.length) {K : AVal → Prop} (hk : ∀ y, (∀ h : AHeap A, (G ≠ [] → h[p]? = some (.cells t_api_Event (G.flatMap Ev.row))) → Rd y (G.drop n) h) → K y) : rslP 8 (NewEvs G p) (some (.int .i64 n)) none none K := by
  by_cases h0 : G = []
  · subst h0
    have : n = 0 := by simpa using hn
    subst this
    have := hk .nils fun h _ => Rd.nil h
    simpa [NewEvs, rslP, bnd] using this
  · have h1 : (n : Int) ≤ (G.length : Int) := by omega
    by_cases h2 : n < G.length
    · have := hk (.sl p (n * 8) (G.length - n) (G.length - n) false) fun h hp => by
        have := Rd.part G n (G.length - n) p (n * 8) (G.length - n) false (hp h0) (by omega) rfl
        rw [List.take_of_length_le (by rw [List.length_drop]; omega)] at this
        exact this
      simpa [NewEvs, h0, rslP, bnd, hn, h1, h2] using this
    · have hnl : n = G.length := by omega
      have hn0 : ¬ n = 0 := by have := List.length_pos_iff.2 h0; omega
      have := hk (.empt p 0 (n * 8)) fun h _ => by
        rw [hnl, List.drop_length]
        exact ⟨fun K => by simp [lenP], fun i hi => by simp at hi, rfl⟩
      simpa [NewEvs, h0, rslP, bnd, hn, h1, h2, hn0] using this
set_option maxHeartbeats 4000000 in
theorem JournalKeeps_ok (hR : R.Ok) (hB : HasBook R bk) (hB' : HasRBook R rbk) (hD : HasDisk R dk) (hD' : HasRDisk R rdk) (hJ : HasJrn R jm) (a : AVal) (st : List Int) (ha : IsInts a st) (b : AVal) (ms : List Int) (hb : IsInts b ms) : Tri Pr R n_law11_JournalKeeps [a, b] [] fun u _ => u = .bool true := by
  apply c_law11_JournalKeeps
  unfold p_law11_JournalKeeps
  refine awake11_ok hR hB hB' hD hD' hJ ?_
  simp -implicitDefEqProofs
  refine law11_twin_ok hR hB hB' 65536 ?_
  rw [if_pos (by omega)]
  simp -implicitDefEqProofs
  refine pair11_ok hR hD hD' (n := 60) (by omega) rfl ?_
  have hfr : JInv 65536 [] (List.replicate (60 : Int).toNat zSec) ⟨0, 0, [], false⟩ := JInv.fresh (by omega) (by omega)
  have hzt : ZTail (List.replicate (60 : Int).toNat zSec) 2 := ZTail.fresh _ _
  have hkl : (List.replicate (60 : Int).toNat zSec).length = 60 := rfl
  generalize List.replicate (60 : Int).toNat zSec = kz at *
  obtain ⟨ts1, k1, s1, o0, o1, o2, o3, o4, o5, o6⟩ := hfr.open' (by simp) (by omega) (by simp) fun t k' _ _ _ _ hl hg => ZTail.end (n := 0) (by simpa using hzt) 0 t k' hl hg
  simp only [Int.zero_add, List.length_nil, Nat.zero_add] at o0 o1 o2 o4
  have hts : ts1 = [supT 1] := by
    have h1 : (sPut 65536 [] 1).1 = [supT 1] := by decide +kernel
    rw [o0] at h1
    exact h1
  have hz1 : ZTail k1 2 := fun j hj hj2 => by rw [o6 j hj]; exact hzt j hj (by omega)
  have hK1 : KI 1 ts1 k1 ⟨1, 0, [], false⟩ := by
    refine ⟨o4, by simp, ⟨0, ?_, fun _ => rfl⟩, fun i _ h2 => ?_, fun h1 => ?_, by rw [hts]; simp, by omega⟩
    · intro x r hr hx
      rw [hts] at hx
      obtain ⟨j, _, hj⟩ := bTerm_iff.1 hx
      have hj1 := (List.getElem?_eq_some_iff.1 hj).1
      obtain rfl : j = 0 := by simpa using hj1
      simp at hj
      exact absurd hj.symm (rec_ne_sup _ _)
    · rw [hz1 _ (by omega) h2]; exact Stale.z i (by omega)
    · rw [hz1 _ (by simp) h1, recGet_z]; simp
  simp -implicitDefEqProofs
  refine Open_ok hR hB hD hJ hfr.ok hfr.dk (by simp) o1 rfl rfl (by decide) ?_
  simp -implicitDefEqProofs
  refine num14_ok ?_
  simp -implicitDefEqProofs [ha.len]
  refine loopP_go (KpI bk rbk dk jm (.adt (rdk kz [] false)) st.length) 20 (Gives.done (by simp) ⟨0, 0, 0, ts1, k1, ⟨1, 0, [], false⟩, .nils, [.adt (jm 0 2 ⟨1, 0, [], false⟩)], rfl, rfl, rfl, ⟨hK1, by simp, by simp, by omega⟩, .inl ⟨rfl, rfl⟩, by simp, by omega, by omega, rfl⟩) ?_
  rintro mm y g ⟨i, jp, q, ts, k, J, x, rest, rfl, rfl, hjp, hS, hx, hrl, hin, hi20, rfl⟩
  have hKI := hS.ki
  have hI := hKI.inv
  have hSb := hS.b
  have hSe := hS.e
  have hSt := hS.t
  have hbt := hKI.boot
  have e1 := w64 (n := (i : Int) + 1) (by omega)
  have hjl := (List.getElem?_eq_some_iff.1 hjp).1
  by_cases h1 : i < st.length ∧ i < 20
  · obtain ⟨h1, h2⟩ := h1
    have h1' : (i : Int) < (st.length : Int) := by omega
    have h2' : (i : Int) < 20 := by omega
    obtain ⟨bb, oo, cs, hget⟩ := ha.get (n := (i : Int)) (by omega) h1'
    generalize st.getD (i : Int).toNat 0 = pt at hget
    obtain ⟨m, hm, hm1⟩ : ∃ m : Nat, pt % 2 ^ 1 = (m : Int) ∧ m ≤ 1 := ⟨(pt % 2 ^ 1).toNat, by omega, by omega⟩
    have hbm := bits_mask pt 1 (by omega) 1 (by decide)
    rw [hm] at hbm
    simp -implicitDefEqProofs [h1, h1', h2, h2']
    refine joinP_all (KpJ bk rbk dk jm (.adt (rdk kz [] false)) i rest.length) ?_ ?_
    · refine loopP_go (KeI bk rbk dk (.adt (rdk kz [] false)) ts k rest i m) (m + 1) (Gives.done (by simp) ⟨0, rest.length, .nils, [], rfl, by simp, .inl ⟨rfl, rfl⟩, by omega, by omega, by omega⟩) ?_
      rintro mm y g ⟨n, qe, xe, r2, rfl, rfl, hxe, hqe, hn, rfl⟩
      have w1 := w64 (n := 10 * (i : Int)) (by omega)
      have w2 := w64 (n := 10 * (i : Int) + n) (by omega)
      have w3 := w64 (n := (n : Int) + 1) (by omega)
      have hkl := kes_len i n
      obtain ⟨U, hU⟩ : ∃ U, rest ++ r2 = U := ⟨_, rfl⟩
      have hUl : U.length = rest.length + r2.length := by rw [← hU]; simp
      rw [hU] at hxe ⊢
      by_cases hnm : n ≤ m
      · have hnm' : (n : Int) ≤ (m : Int) := by omega
        simp -implicitDefEqProofs [hget, hbm, hnm, hnm', w1, w2, h4_len, h4_app]
        have hat : (h4 bk rbk dk (.adt (rdk kz [] false)) ts k [] false (U ++ [.cells t_api_Event (evS (10 * (i : Int) + n)).row]) : AHeap A)[U.length + 4]? = some (.cells t_api_Event (evS (10 * (i : Int) + n)).row) := by
          rw [h4_at]; simp
        have hsr : srcOf 8 (h4 bk rbk dk (.adt (rdk kz [] false)) ts k [] false (U ++ [.cells t_api_Event (evS (10 * (i : Int) + n)).row]) : AHeap A) (.sl (U.length + 4) 0 1 1 true) = some ([evS (10 * (i : Int) + n)].length, [evS (10 * (i : Int) + n)].flatMap Ev.row) := by
          simp only [srcOf, cellsAt, hat, Option.bind_some, AObj.read]
          rfl
        refine app_evs (hxe.app _) hsr (by rw [hkl]; simp; omega) fun x' e' h' hev hsame hl' he' => ?_
        simp -implicitDefEqProofs [w3]
        obtain ⟨r', hr'⟩ := split_at (h' := h') (base := h4 bk rbk dk (.adt (rdk kz [] false)) ts k [] false rest) (fun j hj => by
          rw [h4_len] at hj
          rw [hsame j (.inr (by omega)) (by show j < _; simp [h4_len]; omega)]
          rw [h4_app, ← hU, List.append_assoc, ← h4_app, List.getElem?_append_left (by rw [h4_len]; exact hj)])
        rw [h4_app] at hr'
        subst hr'
        have he4 : rest.length + 4 ≤ e' := by
          rcases he' with ⟨_, rfl⟩ | h
          · omega
          · rw [List.length_append, h4_len] at h; simp at h; omega
        have hl4 : U.length + 1 ≤ rest.length + r'.length := by
          have := hl'
          rw [List.length_append, h4_len, h4_len, List.length_append] at this
          simp at this
          omega
        obtain ⟨q', rfl⟩ : ∃ q', e' = q' + 4 := ⟨e' - 4, by omega⟩
        exact Gives.done (by simp only [h4_len, List.length_append]; omega) ⟨m + 1 - (n + 1), by omega, n + 1, q', x', r', rfl, rfl, by rw [kes_succ]; exact hev, by omega, by omega, rfl⟩
      · have hnm' : ¬ (n : Int) ≤ (m : Int) := by omega
        obtain rfl : n = m + 1 := by omega
        have hne : kes i (m + 1) ≠ [] := by intro h; rw [h] at hkl; simp at hkl
        obtain ⟨rfl, hqc⟩ : xe = .sl (qe + 4) 0 (m + 1) (m + 1) false ∧ U[qe]? = some (.cells t_api_Event ((kes i (m + 1)).flatMap Ev.row)) := by
          rcases hxe with ⟨h, _⟩ | ⟨_, h, h3⟩
          · exact absurd h hne
          · rw [hkl] at h; exact ⟨h, by rw [h4_at] at h3; exact h3⟩
        have hmay := kes_may i (m + 1) (by omega)
        have hjU : U[jp]? = some (.adt (jm 0 2 J)) := by rw [← hU, List.getElem?_append_left hjl]; exact hjp
        have hjlU : jp < U.length := by omega
        have hxU : ∀ L : AHeap A, AllAt x J.es (q + 4) (h4 bk rbk dk (.adt (rdk kz [] false)) ts k [] false (U ++ L)) := fun L => hx.move fun hxn => by
          obtain ⟨tq, cq, hq⟩ := hx.cell hxn
          rw [h4_at] at hq
          have := (List.getElem?_eq_some_iff.1 hq).1
          rw [h4_at, h4_at, ← hU, List.append_assoc, List.getElem?_append_left this]
        have hqj : x ≠ .nils → q ≠ jp := by
          rintro hxn rfl
          obtain ⟨tq, cq, hq⟩ := hx.cell hxn
          rw [h4_at, hjp] at hq
          simp at hq
        have hnm2 : ¬ (m : Int) + 1 ≤ (m : Int) := by omega
        simp -implicitDefEqProofs [hget, hbm, hnm, hnm2]
        refine iteP_of (fun hap => ?_) (fun hap => ?_)
        · -- Append
          obtain ⟨t, ss, p, a1, a2, a3⟩ := hKI.append hmay hne (by rw [hkl]; omega) (by rw [hkl]; omega)
          obtain ⟨k2, hk2⟩ : ∃ k2, dPut k ([] ++ jWs (2 + (J.es.length : Int)) ss) = k2 := ⟨_, rfl⟩
          rw [hk2] at a3
          have call := fun K hK => app4 (rbk := rbk) (B3 := .adt (rdk kz [] false)) (K := K) (cap := m + 1) (ex := false) hR hB hD hJ hI.ok hI.dk (by omega) (l := kes i (m + 1)) (by rw [hkl]; omega) a1 hk2 hjU hqc hK
          rw [hkl] at call
          refine call _ ?_
          refine num14_ok ?_
          have hqe : (U.set jp (.adt (jm 0 2 ⟨J.boot, p, J.es ++ kes i (m + 1), J.over⟩)))[qe]? = some (.cells t_api_Event ((kes i (m + 1)).flatMap Ev.row)) := by
            rw [List.getElem?_set_ne (by rintro rfl; rw [hjU] at hqc; simp at hqc)]; exact hqc
          have hXj : (U.set jp (.adt (jm 0 2 ⟨J.boot, p, J.es ++ kes i (m + 1), J.over⟩)))[jp]? = some (.adt (jm 0 2 ⟨J.boot, p, J.es ++ kes i (m + 1), J.over⟩)) := List.getElem?_set_self hjlU
          have hxV : AllAt x J.es (q + 4) (h4 bk rbk dk (.adt (rdk kz [] false)) t k2 [] false (U.set jp (.adt (jm 0 2 ⟨J.boot, p, J.es ++ kes i (m + 1), J.over⟩)))) := (hxU []).move fun hxn => by
            rw [h4_at, h4_at, List.append_nil, List.getElem?_set_ne (Ne.symm (hqj hxn))]
          have hVl : (U.set jp (.adt (jm 0 2 ⟨J.boot, p, J.es ++ kes i (m + 1), J.over⟩)) : AHeap A).length = U.length := by simp
          generalize (U.set jp (.adt (jm 0 2 ⟨J.boot, p, J.es ++ kes i (m + 1), J.over⟩)) : AHeap A) = V at *
          have hrd := Rd.sl (A := A) (kes i (m + 1)) (qe + 4) (m + 1) false (e := t_api_Event) (h := h4 bk rbk dk (.adt (rdk kz [] false)) t k2 [] false V) (by rw [h4_at]; exact hqe)
          rw [hkl] at hrd
          simp -implicitDefEqProofs
          refine app_all hxV hrd.src hne (by rw [hkl]; omega) fun x' q' h' hx' hq' hsame hl' => ?_
          obtain ⟨r', hr'⟩ := split_at (h' := h') (base := h4 bk rbk dk (.adt (rdk kz [] false)) t k2 [] false []) (fun j hj => by
            rw [h4_len] at hj
            rw [hsame j (.inr (by simp at hj; omega)) (by rw [h4_len]; simp at hj; omega)]
            have : h4 bk rbk dk (.adt (rdk kz [] false)) t k2 [] false V = h4 bk rbk dk (.adt (rdk kz [] false)) t k2 [] false [] ++ V := rfl
            rw [this, List.getElem?_append_left (by rw [h4_len]; exact hj)])
          rw [h4_app, List.nil_append] at hr'
          subst hr'
          rw [h4_len, h4_len] at hl'
          have hj5 : r'[jp]? = some (.adt (jm 0 2 ⟨J.boot, p, J.es ++ kes i (m + 1), J.over⟩)) := by
            have := hsame (jp + 4) (by
              by_cases hxn : x = .nils
              · exact .inl hxn
              · have := hqj hxn; exact .inr (by omega)) (by rw [h4_len]; omega)
            rw [h4_at, h4_at] at this
            rw [this]; exact hXj
          have hq4 : 4 ≤ q' := by
            rcases hq' with ⟨_, h⟩ | h
            · omega
            · rw [h4_len] at h; omega
          obtain ⟨q2, rfl⟩ : ∃ q2, q' = q2 + 4 := ⟨q' - 4, by omega⟩
          exact ⟨jp, q2, t, k2, ⟨J.boot, p, J.es ++ kes i (m + 1), J.over⟩, x', r', rfl, rfl, hj5, ⟨a3, by simp only; omega, by simp only [List.length_append, hkl]; omega, by rw [hkl] at a2; omega⟩, hx', by omega⟩
        · refine joinP_all (MkJ (h4 bk rbk dk (.adt (rdk kz [] false)) ts k [] false U)) ?_ ?_
          · simp -implicitDefEqProofs [hb.len]
            refine iteP_of (fun h3 => ?_) (fun h3 => ⟨0, by omega, rfl, rfl⟩)
            simp at h3
            obtain ⟨bb2, oo2, cs2, hget2⟩ := hb.get (n := (i : Int)) (by omega) (by omega)
            generalize ms.getD (i : Int).toNat 0 = b0 at hget2
            simp -implicitDefEqProofs [hget2]
            rw [bits_mask b0 3 (by omega) 7 (by decide)]
            exact ⟨_, by omega, rfl, rfl⟩
          rintro _ _ ⟨mask, hmk, rfl, rfl⟩
          refine ⟨by simp, ?_⟩
          rw [bits_mask _ 7 (by omega) 127 (by decide)]
          generalize pt.fdiv (2 ^ min 3 IntKind.i64.bits) = tn0
          obtain ⟨T, hT, hT0⟩ : ∃ T, tn0 % 2 ^ 7 = T ∧ 0 ≤ T := ⟨_, rfl, by omega⟩
          rw [hT]
          obtain ⟨t, ss, p, a1, a2, a3, a4, a5, c, pc, hc, hKc⟩ := hKI.crash (mask := mask) (torn := T) hmay hne (by rw [hkl]; omega) (by rw [hkl]; omega) hT0
          rw [hkl] at hc a5
          obtain ⟨w, hw⟩ : ∃ w : Ws, [] ++ jWs (2 + (J.es.length : Int)) ss = w := ⟨_, rfl⟩
          have hwl : w.length ≤ 900 := by rw [← hw, List.length_append, jWs_len, a4, hkl]; simp; omega
          rw [hw] at a3 hKc
          obtain ⟨kC, hkC⟩ : ∃ x, dLost mask T k w = x := ⟨_, rfl⟩
          rw [hkC] at hKc
          have hp1 : t.length < 250 := by omega
          have hb1 : J.boot < 200 := by omega
          obtain ⟨t1, kD, p1, p2, p3⟩ := KI.open (J := ⟨J.boot, pc, J.es ++ (kes i (m + 1)).take c, false⟩) hKc hb1 hp1
          obtain ⟨G, hG⟩ : ∃ G, J.es ++ (kes i (m + 1)).take c = G := ⟨_, rfl⟩
          have hGl : G.length = J.es.length + c := by rw [← hG, List.length_append, List.length_take, hkl]; omega
          dsimp only at p1 p3
          rw [hG] at p1 p3 hKc
          have hp2 : t1.length < 250 := by omega
          have hb2 : J.boot + 1 < 200 := by omega
          obtain ⟨t2, kE, p4, p5, p6⟩ := KI.open (J := ⟨J.boot + 1, pc, G, false⟩) (KI.mono (J := ⟨J.boot + 1, pc, G, false⟩) p3) hb2 hp2
          dsimp only at p4 p6
          have call := fun K hK => wr4 (rbk := rbk) (B3 := .adt (rdk kz [] false)) (K := K) (cap := m + 1) (ex := false) hR hB hD hJ hI.ok hI.dk (by omega) (l := kes i (m + 1)) (by rw [hkl]; omega) a1 hw hjU hqc hK
          rw [hkl] at call
          simp -implicitDefEqProofs
          refine call _ ?_
          have hqe : (U.set jp (.adt (jm 0 2 ⟨J.boot, J.prev, J.es, true⟩)))[qe]? = some (.cells t_api_Event ((kes i (m + 1)).flatMap Ev.row)) := by
            rw [List.getElem?_set_ne (by rintro rfl; rw [hjU] at hqc; simp at hqc)]; exact hqc
          have hxV : AllAt x J.es (q + 4) (h4 bk rbk dk (.adt (rdk kz [] false)) ts k [] false (U.set jp (.adt (jm 0 2 ⟨J.boot, J.prev, J.es, true⟩)))) := (hxU []).move fun hxn => by
            rw [h4_at, h4_at, List.append_nil, List.getElem?_set_ne (Ne.symm (hqj hxn))]
          have hVl : (U.set jp (.adt (jm 0 2 ⟨J.boot, J.prev, J.es, true⟩)) : AHeap A).length = U.length := by simp
          generalize (U.set jp (.adt (jm 0 2 ⟨J.boot, J.prev, J.es, true⟩)) : AHeap A) = V at *
          have hxW : ∀ (ts' k' : List Bs) (L : AHeap A), AllAt x J.es (q + 4) (h4 bk rbk dk (.adt (rdk kz [] false)) ts' k' [] false (V ++ L)) := fun ts' k' L => hxV.move fun hxn => by
            obtain ⟨tq, cq, hq⟩ := hxV.cell hxn
            rw [h4_at] at hq
            have := (List.getElem?_eq_some_iff.1 hq).1
            rw [h4_at, h4_at, List.getElem?_append_left this]
          have hqeW : ∀ L : AHeap A, (V ++ L)[qe]? = some (.cells t_api_Event ((kes i (m + 1)).flatMap Ev.row)) := fun L => by
            rw [List.getElem?_append_left (List.getElem?_eq_some_iff.1 hqe).1]; exact hqe
          refine crash4 hR hD a3 hwl ⟨hmk, hT0⟩ hkC ?_
          refine restart4 hR hD ?_
          refine open4 hR hB hD hJ a2 hKc.inv.dk p1 ?_
          simp -implicitDefEqProofs
          refine num14_ok ?_
          simp -implicitDefEqProofs
          refine num14_ok ?_
          simp -implicitDefEqProofs
          refine ev4 hR hB hD hJ (J := ⟨J.boot + 1, pc, G, false⟩) (by simp only; omega) (by simp) ?_
          dsimp only
          have hGat : ∀ (ts' k' : List Bs) (L : AHeap A), G ≠ [] → (h4 bk rbk dk (.adt (rdk kz [] false)) ts' k' [] false (V ++ (.adt (jm 0 2 ⟨J.boot + 1, pc, G, false⟩) :: (jEvs G ++ L))) : AHeap A)[V.length + 1 + 4]? = some (.cells t_api_Event (G.flatMap Ev.row)) := fun ts' k' L h0 => by
            rw [h4_at, List.getElem?_append_right (by omega)]
            have : V.length + 1 - V.length = 1 := by omega
            rw [this]
            simp [jEvs, h0]
          have hidx : (V ++ [AObj.adt (jm 0 2 ⟨J.boot + 1, pc, G, false⟩)]).length + 4 = V.length + 1 + 4 := by simp
          rw [hidx, List.append_assoc]
          have hcons : ([AObj.adt (jm 0 2 ⟨J.boot + 1, pc, G, false⟩)] ++ jEvs G : AHeap A) = .adt (jm 0 2 ⟨J.boot + 1, pc, G, false⟩) :: (jEvs G ++ []) := by simp
          rw [hcons]
          refine joinP_all (fun vs g => vs = [.bool false] ∧ g = h4 bk rbk dk (.adt (rdk kz [] false)) t1 kD [] false (V ++ (.adt (jm 0 2 ⟨J.boot + 1, pc, G, false⟩) :: (jEvs G ++ [])))) ?_ ?_
          · have l1 : ¬ ((G.length : Int) < (J.es.length : Int)) := by omega
            have l2 := w64 (n := (J.es.length : Int) + ((m : Int) + 1)) (by omega)
            have l3 : ¬ ((J.es.length : Int) + ((m : Int) + 1) < (G.length : Int)) := by omega
            have l4 := w64 (n := (G.length : Int) - J.es.length) (by omega)
            have hpre : G.take J.es.length = J.es := by rw [← hG]; simp
            have hsuf : G.drop J.es.length = (kes i (m + 1)).take c := by rw [← hG]; simp
            have d1 : decide (G.take J.es.length = J.es) = true := by simp [hpre]
            have d2 : decide (G.drop J.es.length = (kes i (m + 1)).take c) = true := by simp [hsuf]
            have l5 : (G.length : Int) - J.es.length = (c : Int) := by omega
            rw [l5] at l4
            have hG0 := hGat t1 kD []
            rw [List.append_nil] at hG0
            have hx0 := hxW t1 kD (.adt (jm 0 2 ⟨J.boot + 1, pc, G, false⟩) :: jEvs G)
            have hq0 := hqeW (.adt (jm 0 2 ⟨J.boot + 1, pc, G, false⟩) :: jEvs G)
            simp -implicitDefEqProofs [NewEvs_len, hx.len, l1, l2, l3]
            refine rsl_hi (A := A) (by omega) fun y1 hy1 => ?_
            refine SameEvents_ok hR (l := G.take J.es.length) (r := J.es) (hy1 _ hG0) hx0.rd (by rw [hpre]; omega) ?_
            rw [d1]
            simp -implicitDefEqProofs
            refine rsl_lo (A := A) (by omega) fun y2 hy2 => ?_
            rw [l5, l4]
            have hrs : ∀ K : AVal → Prop, K (.sl (qe + 4) 0 c (m + 1) false) → rslP 8 (.sl (qe + 4) 0 (m + 1) (m + 1) false) none (some (.int .i64 c)) none K := fun K hK => by
              have h6 : (c : Int) ≤ (m : Int) + 1 := by omega
              simpa [rslP, bnd, hc, h6] using hK
            refine hrs _ ?_
            have hrp := Rd.part (A := A) (kes i (m + 1)) 0 c (qe + 4) 0 (m + 1) false (e := t_api_Event) (h := h4 bk rbk dk (.adt (rdk kz [] false)) t1 kD [] false (V ++ (.adt (jm 0 2 ⟨J.boot + 1, pc, G, false⟩) :: jEvs G))) (by rw [h4_at]; exact hq0) (by omega) rfl
            refine SameEvents_ok hR (l := G.drop J.es.length) (r := (kes i (m + 1)).take c) (hy2 _ hG0) hrp (by rw [hsuf, List.length_take]; omega) ?_
            rw [d2]
            simp -implicitDefEqProofs
          rintro _ _ ⟨rfl, rfl⟩
          refine ⟨by simp, ?_⟩
          have hWj : (V ++ (.adt (jm 0 2 ⟨J.boot + 1, pc, G, false⟩) :: (jEvs G ++ [])) : AHeap A)[V.length]? = some (.adt (jm 0 2 ⟨J.boot + 1, pc, G, false⟩)) := by simp
          have hWG : ∀ (ts' k' : List Bs) (L : AHeap A), G ≠ [] → (h4 bk rbk dk (.adt (rdk kz [] false)) ts' k' [] false ((V ++ (.adt (jm 0 2 ⟨J.boot + 1, pc, G, false⟩) :: (jEvs G ++ []))) ++ L) : AHeap A)[V.length + 1 + 4]? = some (.cells t_api_Event (G.flatMap Ev.row)) := fun ts' k' L h0 => by
            have := hGat ts' k' L h0
            simpa using this
          have hWl : rest.length ≤ (V ++ (.adt (jm 0 2 ⟨J.boot + 1, pc, G, false⟩) :: (jEvs G ++ [])) : AHeap A).length := by simp; omega
          generalize (V ++ (.adt (jm 0 2 ⟨J.boot + 1, pc, G, false⟩) :: (jEvs G ++ [])) : AHeap A) = W at *
          simp -implicitDefEqProofs
          refine open4 hR hB hD hJ p3.inv.ok p3.inv.dk p4 ?_
          simp -implicitDefEqProofs
          refine num14_ok ?_
          simp -implicitDefEqProofs
          refine ev4 hR hB hD hJ (J := ⟨J.boot + 1 + 1, pc, G, false⟩) (by simp only; omega) (by simp) ?_
          dsimp only
          have hrG : ∀ (ts' k' : List Bs) (L : AHeap A), Rd (NewEvs G (V.length + 1 + 4)) G (h4 bk rbk dk (.adt (rdk kz [] false)) ts' k' [] false (W ++ L)) := fun ts' k' L => Rd.new (hWG ts' k' L)
          have hrG2 : ∀ L : AHeap A, Rd (NewEvs G ((W ++ [AObj.adt (jm 0 2 ⟨J.boot + 1 + 1, pc, G, false⟩)]).length + 4)) G (h4 bk rbk dk (.adt (rdk kz [] false)) t2 kE [] false (W ++ [.adt (jm 0 2 ⟨J.boot + 1 + 1, pc, G, false⟩)] ++ jEvs G)) := fun L => Rd.new fun h0 => by
            rw [h4_at, List.getElem?_append_right (Nat.le_refl _)]
            simp [jEvs, h0]
          refine SameEvents_ok hR (l := G) (r := G) (hrG2 []) (by rw [List.append_assoc]; exact hrG _ _ _) (by omega) ?_
          simp -implicitDefEqProofs
          refine boot4 hR hB hD hJ (J := ⟨J.boot + 1 + 1, pc, G, false⟩) (by simp) ?_
          refine boot4 hR hB hD hJ (J := ⟨J.boot + 1, pc, G, false⟩) (by rw [List.getElem?_append_left (List.getElem?_eq_some_iff.1 hWj).1]; exact hWj) ?_
          dsimp only
          have wb := w64 (n := J.boot + 1 + 1) (by omega)
          simp -implicitDefEqProofs [wb]
          refine copy4 hR (hrG _ _ _) (by have := (hrG t2 kE ([.adt (jm 0 2 ⟨J.boot + 1 + 1, pc, G, false⟩)] ++ jEvs G ++ [.cells t_api_Event []])).src; simpa using this) (by omega) fun x' q' L hx' => ?_
          refine ⟨W.length, q', t2, kE, ⟨J.boot + 1 + 1, pc, G, false⟩, x', _, rfl, rfl, by simp, ⟨p6, by simp only; omega, by simp only; omega, by omega⟩, hx', by simp; omega⟩
    · rintro _ _ ⟨jp2, q2, t2, k2, J2, x2, rest2, rfl, rfl, r1, r2, r3, r4⟩
      refine ⟨by simp only [h4_len]; omega, ?_⟩
      simp -implicitDefEqProofs [e1]
      exact Gives.done (by simp only [h4_len]; omega) ⟨20 - (i + 1), by omega, i + 1, jp2, q2, t2, k2, J2, x2, rest2, rfl, rfl, r1, r2, r3, by omega, by omega, by omega, rfl⟩
  · by_cases c1 : i < st.length
    have c1' : (i : Int) < (st.length : Int) := by omega
    have c2 : ¬ i < 20 := fun h => h1 ⟨c1, h⟩
    have c2' : ¬ (i : Int) < 20 := by omega
    simp -implicitDefEqProofs [c1, c1', c2, c2']
    rotate_left
    have c1' : ¬ (i : Int) < (st.length : Int) := by omega
    simp -implicitDefEqProofs [c1, c1']
    all_goals (
      refine ev4 hR hB hD hJ (by omega) hjp ?_
      refine SameEvents_ok hR (l := J.es) (r := J.es) (Rd.new fun h0 => ?_) (hx.move fun hxn => ?_).rd (by omega) (by simp -implicitDefEqProofs)
      · rw [h4_at]; simp [jEvs, h0]
      · obtain ⟨tq, cq, hq⟩ := hx.cell hxn
        rw [h4_at] at hq
        have := (List.getElem?_eq_some_iff.1 hq).1
        rw [h4_at, h4_at, List.getElem?_append_left this])
end
end Go.AI
