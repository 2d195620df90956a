/- Atoms; keys of epochs. -/
import Derived.Test.YtnhclbecbagmfaaSpRName
import Derived.Test.YtnhclbecbagmfaaSpNums
import Derived.Test.YtnhclbecbagmfaaFns
set_option linter.all false
namespace Go.AI
variable {A : Type} {R : Adts A}
/-- A term is made: the terms behind it, the name, the error. -/
def cMade (m : Int) (ts : List Bs) (s : Bs) : List Bs × Int × Int := if (bName m ts s).2.2 = 0 then bName m ts s else ((bName m ts s).1, 0, 300)
theorem cMade_ok {m : Int} {ts : List Bs} {s : Bs} (h : bOk m ts) : bOk m (cMade m ts s).1 := by
  unfold cMade; split <;> exact bName_ok h
section craft
variable {mk : Int → List Bs → A}
theorem craft_named_ok (hR : R.Ok) (hB : HasBook R mk) {m : Int} {ts : List Bs} (hok : bOk m ts) (s : Bs) {h : AHeap A} {b : Nat} (hb : h[b]? = some (.adt (mk m ts))) {K : AVal → AHeap A → Prop}
    (hk : K (.tup [.int .i64 (cMade m ts s).2.1, .int .i64 (cMade m ts s).2.2]) (h.set b (.adt (mk m (cMade m ts s).1)))) : Tri Pr R n_craft_named [.ptr b 0, .str s, .bool true] h K := by
  apply c_craft_named
  unfold p_craft_named
  simp
  refine book_Name_ok hR hB hok s hb ?_
  simp only [cMade] at hk
  by_cases h1 : (bName m ts s).2.2 = 0
  · simp only [h1, if_true] at hk
    simp [h1]; exact hk
  · simp only [h1, if_false] at hk
    simp
    exact iteP_of (fun _ => hk) (fun h2 => by simp [h1] at h2)
theorem craft_Atom_ok (hR : R.Ok) (hB : HasBook R mk) {m : Int} {ts : List Bs} (hok : bOk m ts) (s : Bs) (hs : s.length < 9000000000000000000) {h : AHeap A} {b : Nat} (hb : h[b]? = some (.adt (mk m ts))) {K : AVal → AHeap A → Prop}
    (hk : K (.tup [.int .i64 (cMade m ts (65 :: s)).2.1, .int .i64 (cMade m ts (65 :: s)).2.2]) (h.set b (.adt (mk m (cMade m ts (65 :: s)).1)))) : Tri Pr R n_craft_Atom [.ptr b 0, .str s] h K := by
  apply c_craft_Atom
  unfold p_craft_Atom
  have h1 : 1 + s.length < 9223372036854775808 := by omega
  simp [h1]
  refine craft_named_ok hR hB hok _ hb ?_
  simpa using hk
/-- What is within an epoch's key. -/
def eTerm (x : Int) : Bs := [101, 112, 111, 99, 104] ++ nS x
theorem eTerm_len (x : Int) : (eTerm x).length ≤ 10 := by have := nS_len x; simp [eTerm]; omega
theorem ring_term_ok (hR : R.Ok) (x : Int) {h : AHeap A} {K : AVal → AHeap A → Prop} (hk : K (.tup [.str (eTerm x), .bool (nMay x)]) h) : Tri Pr R n_ring_term [.int .i64 x] h K := by
  apply c_ring_term
  unfold p_ring_term
  refine field_Num_any hR x ?_
  have h1 : 5 + (nS x).length < 9223372036854775808 := by have := nS_len x; omega
  simp [h1]
  cases hx : nMay x with
  | true => rw [hx] at hk; simpa [eTerm] using hk
  | false => rw [hx] at hk; simpa [eTerm] using hk
def rKey (m : Int) (ts : List Bs) (x : Int) : List Bs × Int × Int :=
  if nMay x = true then (if (cMade m ts (65 :: eTerm x)).2.2 = 0 then cMade m ts (65 :: eTerm x) else ((cMade m ts (65 :: eTerm x)).1, 0, 1400)) else (ts, 0, 1400)
theorem rKey_ok {m : Int} {ts : List Bs} {x : Int} (h : bOk m ts) : bOk m (rKey m ts x).1 := by
  unfold rKey; split
  · split <;> exact cMade_ok h
  · exact h
theorem ring_Key_ok (hR : R.Ok) (hB : HasBook R mk) {m : Int} {ts : List Bs} (hok : bOk m ts) (x : Int) {h : AHeap A} {b : Nat} (hb : h[b]? = some (.adt (mk m ts))) {K : AVal → AHeap A → Prop}
    (hk : K (.tup [.int .i64 (rKey m ts x).2.1, .int .i64 (rKey m ts x).2.2]) (h.set b (.adt (mk m (rKey m ts x).1)))) : Tri Pr R n_ring_Key [.ptr b 0, .int .i64 x] h K := by
  apply c_ring_Key
  unfold p_ring_Key
  simp
  refine ring_term_ok hR x ?_
  cases hx : nMay x with
  | false => simp [rKey, hx, set_same hb] at hk; simpa using hk
  | true =>
    simp
    refine craft_Atom_ok hR hB hok _ (by have := eTerm_len x; omega) hb ?_
    simp only [rKey, hx, if_true] at hk
    by_cases h1 : (cMade m ts (65 :: eTerm x)).2.2 = 0
    · simp only [h1, if_true] at hk
      simp [h1]; exact hk
    · simp only [h1, if_false] at hk
      simp
      exact iteP_of (fun _ => hk) (fun h2 => by simp [h1] at h2)
theorem ring_Key_nil (hR : R.Ok) (x : Int) {h : AHeap A} {K : AVal → AHeap A → Prop} (hk : K (.tup [.int .i64 0, .int .i64 1]) h) : Tri Pr R n_ring_Key [.nilp, .int .i64 x] h K := by
  apply c_ring_Key
  unfold p_ring_Key
  simpa using hk
end craft
section ref
variable {mk : Int → List Bs → A}
theorem ref1_made_ok (hR : R.Ok) (hB : HasRBook R mk) {m : Int} {ts : List Bs} (hok : bOk m ts) (s : Bs) {h : AHeap A} {b : Nat} (hb : h[b]? = some (.adt (mk m ts))) {K : AVal → AHeap A → Prop}
    (hk : K (.tup [.int .i64 (cMade m ts s).2.1, .int .i64 (cMade m ts s).2.2]) (h.set b (.adt (mk m (cMade m ts s).1)))) : Tri Pr R n_ref1_Book_made [.ptr b 0, .str s] h K := by
  apply c_ref1_Book_made
  unfold p_ref1_Book_made
  refine rbook_Name_ok hR hB hok s hb ?_
  simp only [cMade] at hk
  by_cases h1 : (bName m ts s).2.2 = 0
  · simp only [h1, if_true] at hk
    simp [h1]; exact hk
  · simp only [h1, if_false] at hk
    simp
    exact iteP_of (fun _ => hk) (fun h2 => by simp [h1] at h2)
theorem ref1_Atom_ok (hR : R.Ok) (hB : HasRBook R mk) {m : Int} {ts : List Bs} (hok : bOk m ts) (s : Bs) (hs : s.length < 9000000000000000000) {h : AHeap A} {b : Nat} (hb : h[b]? = some (.adt (mk m ts))) {K : AVal → AHeap A → Prop}
    (hk : K (.tup [.int .i64 (cMade m ts (65 :: s)).2.1, .int .i64 (cMade m ts (65 :: s)).2.2]) (h.set b (.adt (mk m (cMade m ts (65 :: s)).1)))) : Tri Pr R n_ref1_Atom [.ptr b 0, .str s] h K := by
  apply c_ref1_Atom
  unfold p_ref1_Atom
  have h1 : 1 + s.length < 9223372036854775808 := by omega
  simp [h1]
  refine ref1_made_ok hR hB hok _ hb ?_
  simpa using hk
theorem ref12_RingKey_ok (hR : R.Ok) (hB : HasRBook R mk) {m : Int} {ts : List Bs} (hok : bOk m ts) (x : Int) {h : AHeap A} {b : Nat} (hb : h[b]? = some (.adt (mk m ts))) {K : AVal → AHeap A → Prop}
    (hk : K (.tup [.int .i64 (rKey m ts x).2.1, .int .i64 (rKey m ts x).2.2]) (h.set b (.adt (mk m (rKey m ts x).1)))) : Tri Pr R n_ref12_RingKey [.ptr b 0, .int .i64 x] h K := by
  refine Tri.own hR (as2 := [.ptr 0 0, .int .i64 x]) (Q := fun v o => v = .tup [.int .i64 (rKey m ts x).2.1, .int .i64 (rKey m ts x).2.2] ∧ o = .adt (mk m (rKey m ts x).1)) rfl (rbook_ix hB _ _ _) ?_ (rbook_ren hB _ _) ?_ hb (by simp [rens, AVal.ren]) ?_
  · rintro _ _ ⟨rfl, rfl⟩; exact ⟨rfl, rbook_ren hB _ _⟩
  · refine Tri.post ?_
    apply c_ref12_RingKey
    unfold p_ref12_RingKey
    refine ref12_num_ok x ?_
    have fin : ∀ (v : AVal) (ts' : List Bs) (r : AHeap A), v.ix 0 = true → Gives Pr R 1 (.adt (mk m ts') :: r) [v] fun vs h2 => ∃ u, vs = [u] ∧ ∃ o', (u = v ∧ o' = .adt (mk m ts')) ∧ h2 = [o'] := fun v ts' r hv =>
      Gives.cut hR (m := 1) (by omega) (by simp) (by simp [ixs, ix_mono (Nat.zero_le 1) v hv]) (by simp; exact ⟨rbook_ix hB _ _ _, fun τ _ => rbook_ren hB _ _ _⟩) ⟨_, rfl, _, ⟨rfl, rfl⟩, rfl⟩
    cases hx : nMay x with
    | false => simp [rKey, hx]; exact fin (.tup [.int .i64 _, .int .i64 _]) _ _ rfl
    | true =>
      simp
      refine ref1_Nums_ok hR [x] (by simp) true (t := t_int) (by simp) ?_
      have h1 : 5 + (nAll [x]).length < 9223372036854775808 := by have := nAll_len [x]; simp at this; omega
      simp [h1]
      have he : 101 :: 112 :: 111 :: 99 :: 104 :: nAll [x] = eTerm x := by simp [eTerm, nAll]
      rw [he]
      refine ref1_Atom_ok hR hB hok _ (by have := eTerm_len x; omega) (by simp) ?_
      simp only [rKey, hx, if_true]
      by_cases h1 : (cMade m ts (65 :: eTerm x)).2.2 = 0
      · simp [h1]; exact fin (.tup [.int .i64 _, .int .i64 _]) _ _ rfl
      · simp [h1]
        exact iteP_of (fun _ => fin (.tup [.int .i64 _, .int .i64 _]) _ _ rfl) (fun h2 => by simp [h1] at h2)
  · rintro _ _ ⟨rfl, rfl⟩; exact hk
end ref
def rLive (e now keep : Int) : Bool := nMay e && nMay now && nMay keep && decide (e ≤ now) && decide (now - e ≤ keep)
theorem ring_Live_ok (hR : R.Ok) (e now keep : Int) {h : AHeap A} {K : AVal → AHeap A → Prop} (hk : K (.bool (rLive e now keep)) h) : Tri Pr R n_ring_Live [.int .i64 e, .int .i64 now, .int .i64 keep] h K := by
  apply c_ring_Live
  unfold p_ring_Live
  refine field_NumMay_ok e ?_
  cases h1 : nMay e with
  | false => simp [rLive, h1] at hk; simpa using hk
  | true =>
    simp
    refine field_NumMay_ok now ?_
    cases h2 : nMay now with
    | false => simp [rLive, h1, h2] at hk; simpa using hk
    | true =>
      simp
      refine field_NumMay_ok keep ?_
      cases h3 : nMay keep with
      | false => simp [rLive, h1, h2, h3] at hk; simpa using hk
      | true =>
        have a1 : 0 ≤ e ∧ e ≤ 1073741823 := by simpa [nMay] using h1
        have a2 : 0 ≤ now ∧ now ≤ 1073741823 := by simpa [nMay] using h2
        have e1 := w64 (n := now - e) (by omega)
        simp [e1]
        simp [rLive, h1, h2, h3] at hk
        refine iteP_of (fun h4 => ?_) (fun h4 => ?_)
        · rw [h4, Bool.true_and] at hk; exact hk
        · rw [h4, Bool.false_and] at hk; exact hk
end Go.AI
