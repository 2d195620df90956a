/- Codes by time. -/
import Derived.Test.YtkpoknhlecgbnaaSpLaw3d
set_option linter.all false
namespace Go.AI
variable {A : Type} {R : Adts A}
def tMay (x : Int) : Bool := decide (0 ≤ x ∧ x ≤ 1048575)
/-- A tick's step. -/
def tStep (x : Int) : Int := if 0 ≤ x ∧ x ≤ 1048575 then x / 30 + 1 else 0
theorem tStep_le (x : Int) : 0 ≤ tStep x ∧ tStep x ≤ 34953 := by unfold tStep; split <;> omega
theorem totp_TickMay_ok (x : Int) {h : AHeap A} {K : AVal → AHeap A → Prop} (hk : K (.bool (tMay x)) h) : Tri Pr R n_totp_TickMay [.int .i64 x] h K := by
  apply c_totp_TickMay
  unfold p_totp_TickMay
  by_cases h1 : 0 ≤ x
  · by_cases h2 : x ≤ 1048575
    · simp [tMay, h1, h2] at hk; simp -implicitDefEqProofs [h1, h2]; exact hk
    · simp [tMay, h1, h2] at hk; simp -implicitDefEqProofs [h1, h2]; exact hk
  · simp [tMay, h1] at hk; simp -implicitDefEqProofs [h1]; exact hk
theorem totp_Step_ok (x : Int) {h : AHeap A} {K : AVal → AHeap A → Prop} (hk : K (.int .i64 (tStep x)) h) : Tri Pr R n_totp_Step [.int .i64 x] h K := by
  apply c_totp_Step
  unfold p_totp_Step
  refine totp_TickMay_ok x ?_
  by_cases h1 : 0 ≤ x ∧ x ≤ 1048575
  · have e1 : x.tdiv 30 = x / 30 := Int.tdiv_eq_ediv_of_nonneg h1.1
    have e2 := w64 (n := x / 30) (by omega)
    have e3 := w64 (n := x / 30 + 1) (by omega)
    have e4 : tMay x = true := by simp [tMay, h1]
    rw [tStep, if_pos h1] at hk
    simp -implicitDefEqProofs [e4, e1, e2, e3]; exact hk
  · have e4 : tMay x = false := by simp [tMay]; omega
    rw [tStep, if_neg h1] at hk
    simp -implicitDefEqProofs [e4]; exact hk
theorem totp_stepMay_ok (x : Int) {h : AHeap A} {K : AVal → AHeap A → Prop} (hk : K (.bool (decide (1 ≤ x ∧ x ≤ 1048575))) h) : Tri Pr R n_totp_stepMay [.int .i64 x] h K := by
  apply c_totp_stepMay
  unfold p_totp_stepMay
  by_cases h1 : 1 ≤ x
  · by_cases h2 : x ≤ 1048575
    · simp [h1, h2] at hk; simp -implicitDefEqProofs [h1, h2]; exact hk
    · simp [h1, h2] at hk; simp -implicitDefEqProofs [h1, h2]; exact hk
  · simp [h1] at hk; simp -implicitDefEqProofs [h1]; exact hk
def cTerm (x : Int) : Bs := 99 :: 111 :: 100 :: 101 :: nS x
theorem cTerm_len (x : Int) : (cTerm x).length ≤ 9 := by have := nS_len x; simp [cTerm]; omega
theorem cTerm_inj {x y : Int} (hx : nMay x = true) (hy : nMay y = true) (h : cTerm x = cTerm y) : x = y := by
  refine nE_inj hx hy ?_
  simpa [cTerm, nS, hx, hy] using h
/-- A step's code. -/
def tCode (m : Int) (ts : List Bs) (secret step : Int) : List Bs × Int × Int :=
  if 1 ≤ step ∧ step ≤ 1048575 then (if (cKey m ts 77 secret (cTerm step)).2.2 = 0 then cKey m ts 77 secret (cTerm step) else ((cKey m ts 77 secret (cTerm step)).1, 0, 1200)) else (ts, 0, 1200)
theorem tCode_ok {m : Int} {ts : List Bs} {secret step : Int} (h : bOk m ts) : bOk m (tCode m ts secret step).1 := by
  unfold tCode; split
  · split <;> exact cKey_ok h
  · exact h
/-- The least step that is right. -/
def tTry (f : Int → Bool) (last e : Int) : Nat → Int → Int × Bool
  | 0, _ => (0, false)
  | n + 1, s => if last < s ∧ f s = true then (s, true) else tTry f last e n (s + 1)
def tAccept (f : Int → Bool) (last tick : Int) : Int × Bool :=
  if tStep tick = 0 then (0, false) else tTry f last (tStep tick + 1) (tStep tick + 2 - max 1 (tStep tick - 1)).toNat (max 1 (tStep tick - 1))
theorem tTry_one {f : Int → Bool} {last e s : Int} : ∀ (n : Nat) (s0 : Int), (n : Int) = e + 1 - s0 → (∀ x, s0 ≤ x → x ≤ e → (f x = true ↔ x = s)) → tTry f last e n s0 = if s0 ≤ s ∧ s ≤ e ∧ last < s then (s, true) else (0, false)
  | 0, s0, hn, hf => by rw [if_neg (by omega)]; rfl
  | n + 1, s0, hn, hf => by
    have ih := tTry_one (f := f) (last := last) (e := e) (s := s) n (s0 + 1) (by omega) (fun x h1 h2 => hf x (by omega) h2)
    rw [tTry]
    by_cases h1 : last < s0 ∧ f s0 = true
    · have := (hf s0 (by omega) (by omega)).1 h1.2
      subst this
      rw [if_pos h1, if_pos (by omega)]
    · rw [if_neg h1, ih]
      by_cases h2 : s = s0
      · have h3 : f s0 = true := (hf s0 (by omega) (by omega)).2 h2.symm
        rw [if_neg (by omega), if_neg]
        rintro ⟨_, _, h4⟩
        exact h1 ⟨by omega, h3⟩
      · by_cases h3 : s0 + 1 ≤ s ∧ s ≤ e ∧ last < s
        · rw [if_pos h3, if_pos (by omega)]
        · rw [if_neg h3, if_neg (by omega)]
theorem tTry_none {f : Int → Bool} {last e : Int} : ∀ (n : Nat) (s0 : Int), (∀ x, f x = false) → tTry f last e n s0 = (0, false)
  | 0, _, _ => rfl
  | n + 1, s0, hf => by rw [tTry, if_neg (by simp [hf]), tTry_none n _ hf]
theorem totp_Accept_gen (hR : R.Ok) (bv : AVal) (secret last tick code : Int) (f : Int → Bool) {h : AHeap A} {K : AVal → AHeap A → Prop}
    (hf : ∀ s, 1 ≤ s → s ≤ 34954 → ∀ K : AVal → AHeap A → Prop, K (.bool (f s)) h → Tri Pr R n_craft_IsMac [bv, .int .i64 secret, .str (cTerm s), .int .i64 code] h K)
    (hk : K (.tup [.int .i64 (tAccept f last tick).1, .bool (tAccept f last tick).2]) h) : Tri Pr R n_totp_Accept [bv, .int .i64 secret, .int .i64 last, .int .i64 tick, .int .i64 code] h K := by
  apply c_totp_Accept
  unfold p_totp_Accept
  refine totp_Step_ok tick ?_
  have hst := tStep_le tick
  obtain ⟨st, hs⟩ : ∃ st, tStep tick = st := ⟨_, rfl⟩
  rw [tAccept] at hk
  rw [hs] at hk hst ⊢
  have e1 := w64 (n := st - 1) (by omega)
  have e2 := w64 (n := st + 1) (by omega)
  by_cases h0 : st = 0
  · rw [if_pos h0] at hk
    subst h0
    simp -implicitDefEqProofs
    refine loopP_unr 1 ?_
    rw [unr]
    exact hk
  · rw [if_neg h0] at hk
    have h1 : 0 < st := by omega
    obtain ⟨s0, g0, g1⟩ : ∃ s0, (if 1 < st - 1 then st - 1 else 1) = s0 ∧ s0 = max 1 (st - 1) := ⟨_, rfl, by split <;> omega⟩
    rw [← g1] at hk
    simp -implicitDefEqProofs [e1, g0]
    refine loopP_go (fun m y g => ∃ (n : Nat) (s : Int), y = [.int .i64 s] ∧ g = h ∧ (n : Int) = st + 2 - s ∧ s0 ≤ s ∧ m = n ∧ tTry f last (st + 1) n s = tTry f last (st + 1) (st + 2 - s0).toNat s0) (st + 2 - s0).toNat
      (Gives.done (Nat.le_refl _) ⟨_, s0, rfl, rfl, by omega, by omega, rfl, rfl⟩) ?_
    rintro m y g ⟨n, s, rfl, rfl, hn, hs0, rfl, ht⟩
    rw [← ht] at hk
    by_cases h2 : s ≤ st + 1
    · obtain ⟨n, rfl⟩ : ∃ k, m = k + 1 := ⟨m - 1, by omega⟩
      rw [tTry] at hk ht
      have e3 := w64 (n := s + 1) (by omega)
      simp -implicitDefEqProofs [h1, e2, h2]
      refine field_Num_any hR s ?_
      simp -implicitDefEqProofs
      by_cases h3 : last < s
      · have h4 : 4 + (nS s).length < 9223372036854775808 := by have := nS_len s; omega
        simp -implicitDefEqProofs [h3, h4]
        refine hf s (by omega) (by omega) _ ?_
        cases hc : f s with
        | true =>
          rw [if_pos ⟨h3, hc⟩] at hk
          simp -implicitDefEqProofs; exact hk
        | false =>
          rw [if_neg (by simp [hc])] at ht
          simp -implicitDefEqProofs [e3]
          exact Gives.done (Nat.le_refl _) ⟨n, by omega, n, s + 1, rfl, rfl, by omega, by omega, rfl, ht⟩
      · rw [if_neg (by simp [h3])] at ht
        simp -implicitDefEqProofs [h3, e3]
        exact Gives.done (Nat.le_refl _) ⟨n, by omega, n, s + 1, rfl, rfl, by omega, by omega, rfl, ht⟩
    · obtain rfl : m = 0 := by omega
      simp -implicitDefEqProofs [h1, e2, h2]
      exact hk
section
variable {mk : Int → List Bs → A}
theorem totp_Accept_ok (hR : R.Ok) (hB : HasBook R mk) {m : Int} {ts : List Bs} (secret last tick code : Int) {h : AHeap A} {b : Nat} (hb : h[b]? = some (.adt (mk m ts))) {K : AVal → AHeap A → Prop}
    (hk : K (.tup [.int .i64 (tAccept (fun s => cIsMac ts secret (cTerm s) code) last tick).1, .bool (tAccept (fun s => cIsMac ts secret (cTerm s) code) last tick).2]) h) : Tri Pr R n_totp_Accept [.ptr b 0, .int .i64 secret, .int .i64 last, .int .i64 tick, .int .i64 code] h K :=
  totp_Accept_gen hR _ secret last tick code _ (fun s _ _ K hK => craft_IsMac_ok hR hB secret (cTerm s) (by have := cTerm_len s; omega) code hb hK) hk
theorem totp_Accept_nil (hR : R.Ok) (secret last tick code : Int) {h : AHeap A} {K : AVal → AHeap A → Prop}
    (hk : K (.tup [.int .i64 0, .bool false]) h) : Tri Pr R n_totp_Accept [.nilp, .int .i64 secret, .int .i64 last, .int .i64 tick, .int .i64 code] h K := by
  refine totp_Accept_gen hR _ secret last tick code (fun _ => false) (fun s _ _ K hK => craft_IsMac_nil hR secret (cTerm s) (by have := cTerm_len s; omega) code hK) ?_
  have : tAccept (fun _ => false) last tick = (0, false) := by
    unfold tAccept; split
    · rfl
    · exact tTry_none _ _ fun _ => rfl
  rw [this]; exact hk
theorem totp_Code_ok (hR : R.Ok) (hB : HasBook R mk) {m : Int} {ts : List Bs} (hok : bOk m ts) (secret step : Int) {h : AHeap A} {b : Nat} (hb : h[b]? = some (.adt (mk m ts))) {K : AVal → AHeap A → Prop}
    (hk : K (.tup [.int .i64 (tCode m ts secret step).2.1, .int .i64 (tCode m ts secret step).2.2]) (h.set b (.adt (mk m (tCode m ts secret step).1)))) : Tri Pr R n_totp_Code [.ptr b 0, .int .i64 secret, .int .i64 step] h K := by
  apply c_totp_Code
  unfold p_totp_Code
  simp -implicitDefEqProofs
  refine field_Num_any hR step ?_
  simp -implicitDefEqProofs
  refine joinP_go ?_
  refine totp_stepMay_ok step ?_
  by_cases h1 : 1 ≤ step ∧ step ≤ 1048575
  · have h4 : 4 + (nS step).length < 9223372036854775808 := by have := nS_len step; omega
    simp -implicitDefEqProofs [h1, h4]
    refine craft_Mac_ok hR hB hok secret (cTerm step) (by have := cTerm_len step; omega) hb ?_
    simp only [tCode, h1, and_self, if_true] at hk
    by_cases h2 : (cKey m ts 77 secret (cTerm step)).2.2 = 0
    · simp only [h2, if_true] at hk
      simp -implicitDefEqProofs [h2]; exact hk
    · simp only [h2, if_false] at hk
      have h3 : ((cKey m ts 77 secret (cTerm step)).2.2 != 0) = true := by simpa using h2
      simp -implicitDefEqProofs [h3]; exact hk
  · have h2 : decide (1 ≤ step ∧ step ≤ 1048575) = false := by simpa using h1
    simp only [tCode, h1, if_false, set_same hb] at hk
    rw [h2]
    simp -implicitDefEqProofs; exact hk
theorem totp_Code_nil (hR : R.Ok) (secret step : Int) {h : AHeap A} {K : AVal → AHeap A → Prop} (hk : K (.tup [.int .i64 0, .int .i64 1]) h) : Tri Pr R n_totp_Code [.nilp, .int .i64 secret, .int .i64 step] h K := by
  apply c_totp_Code
  unfold p_totp_Code
  simp -implicitDefEqProofs; exact hk
theorem Code_at (hR : R.Ok) (hB : HasBook R mk) {m : Int} {ts r : List Bs} {secret step n e : Int} (hok : bOk m ts) (he : tCode m ts secret step = (r, n, e)) {h : AHeap A} {b : Nat} (hb : h[b]? = some (.adt (mk m ts))) {K : AVal → AHeap A → Prop}
    (hk : K (.tup [.int .i64 n, .int .i64 e]) (h.set b (.adt (mk m r)))) : Tri Pr R n_totp_Code [.ptr b 0, .int .i64 secret, .int .i64 step] h K := by
  refine totp_Code_ok hR hB hok secret step hb ?_
  rw [he]; exact hk
theorem Accept_at (hR : R.Ok) (hB : HasBook R mk) {m : Int} {ts : List Bs} {secret last tick code p : Int} {c : Bool} (he : tAccept (fun s => cIsMac ts secret (cTerm s) code) last tick = (p, c)) {h : AHeap A} {b : Nat} (hb : h[b]? = some (.adt (mk m ts))) {K : AVal → AHeap A → Prop}
    (hk : K (.tup [.int .i64 p, .bool c]) h) : Tri Pr R n_totp_Accept [.ptr b 0, .int .i64 secret, .int .i64 last, .int .i64 tick, .int .i64 code] h K := by
  refine totp_Accept_ok hR hB secret last tick code hb ?_
  rw [he]; exact hk
theorem Step_at {x n : Int} (he : tStep x = n) {h : AHeap A} {K : AVal → AHeap A → Prop} (hk : K (.int .i64 n) h) : Tri Pr R n_totp_Step [.int .i64 x] h K := by
  refine totp_Step_ok x ?_
  rw [he]; exact hk
theorem bOk_code {m : Int} {ts r : List Bs} {secret step n e : Int} (h : bOk m ts) (he : tCode m ts secret step = (r, n, e)) : bOk m r := by
  have := tCode_ok (secret := secret) (step := step) h
  rwa [he] at this
end
theorem bTerm_iff {ts : List Bs} {x : Int} {r : Bs} : bTerm ts x = (r, 0) ↔ ∃ i : Nat, x = i ∧ ts[i]? = some r := by
  constructor
  · intro h
    unfold bTerm at h
    split at h
    · rename_i h1
      refine ⟨x.toNat, by omega, ?_⟩
      have h2 : x.toNat < ts.length := by omega
      simp [h2] at h
      rw [List.getElem?_eq_getElem h2, h]
    · simp at h
  · rintro ⟨i, rfl, h⟩; exact bTerm_get h
theorem bFind_some {ts : List Bs} {u : Bs} {i : Nat} (h : bFind ts u = some i) : ts[i]? = some u := by
  obtain ⟨h1, h2, _⟩ := List.idxOf?_eq_some_iff.1 h
  rw [List.getElem?_eq_getElem h1]; simpa using h2
theorem nd_get {ts : List Bs} (hn : ts.Nodup) {i j : Nat} {r : Bs} (h1 : ts[i]? = some r) (h2 : ts[j]? = some r) : i = j := by
  obtain ⟨a1, a2⟩ := List.getElem?_eq_some_iff.1 h1
  obtain ⟨b1, b2⟩ := List.getElem?_eq_some_iff.1 h2
  exact (List.getElem_inj hn).1 (a2.trans b2.symm)
theorem cIs_iff {ts : List Bs} (hn : ts.Nodup) {r : Bs} {x : Int} : cIs ts r x = true ↔ bTerm ts x = (r, 0) := by
  rw [bTerm_iff]
  unfold cIs
  constructor
  · intro h
    cases hf : bFind ts r with
    | none => simp [hf] at h
    | some i => simp [hf] at h; exact ⟨i, h.symm, bFind_some hf⟩
  · rintro ⟨i, rfl, h⟩
    obtain ⟨j, h1, _, h2⟩ := bFind_mem (List.mem_of_getElem? h)
    have := nd_get hn h h2
    subst this
    simp [h1]
end Go.AI
