/- Configs and events that are handed in (printed by gen/tie25.py). -/
import Derived.Test.YtmdlhohhimdkaaaGreatMaAudits
import Derived.Test.YtmdlhohhimdkaaaGreatAiT
import Derived.Test.YtmdlhohhimdkaaaGreatFns
import Derived.WalkKit
import Derived.LaidEql
import Derived.Stop.Asserts
import Derived.RowKitTokens
import Derived.Lib.IfaceEq
set_option linter.all false
namespace Go.AI
theorem len_s25 {α : Type} {l : List α} {n : Nat} (h : l.length = n + 1) : ∃ x r, l = x :: r ∧ r.length = n := by
  cases l with
  | nil => simp at h
  | cons x r => exact ⟨x, r, rfl, by simpa using h⟩
theorem ev25_TR2 {P : Program} {n B : Nat} {sl : Bool} {e i : TypeId} {f0 f1 f2 f3 f4 f5 f6 f7 : Field} {us : List AVal} (he : P.underlying e = some (.struct #[f0, f1, f2, f3, f4, f5, f6, f7])) (hi : P.underlying i = some (.int .i64)) (hc : P.cellsOf e = 8) (ci : P.cellsOf i = 1)
    (hf : (f0.type = i ∧ f0.offset = 0) ∧ (f1.type = i ∧ f1.offset = 1) ∧ (f2.type = i ∧ f2.offset = 2) ∧ (f3.type = i ∧ f3.offset = 3) ∧ (f4.type = i ∧ f4.offset = 4) ∧ (f5.type = i ∧ f5.offset = 5) ∧ (f6.type = i ∧ f6.offset = 6) ∧ (f7.type = i ∧ f7.offset = 7)) (h : TR2 P B (n + 2) sl e us) : ∃ x : Ev, us = x.row := by
  obtain ⟨⟨t0, o0⟩, ⟨t1, o1⟩, ⟨t2, o2⟩, ⟨t3, o3⟩, ⟨t4, o4⟩, ⟨t5, o5⟩, ⟨t6, o6⟩, ⟨t7, o7⟩⟩ := hf
  obtain ⟨hr, h6⟩ := TR2_struct he h
  rw [hc] at hr
  obtain ⟨r0, q0, rfl, h100⟩ := len_s25 hr
  obtain ⟨r1, q1, rfl, h101⟩ := len_s25 h100
  obtain ⟨r2, q2, rfl, h102⟩ := len_s25 h101
  obtain ⟨r3, q3, rfl, h103⟩ := len_s25 h102
  obtain ⟨r4, q4, rfl, h104⟩ := len_s25 h103
  obtain ⟨r5, q5, rfl, h105⟩ := len_s25 h104
  obtain ⟨r6, q6, rfl, h106⟩ := len_s25 h105
  obtain ⟨r7, q7, rfl, h107⟩ := len_s25 h106
  obtain rfl := List.length_eq_zero_iff.1 h107
  have g0 := h6 0 f0 rfl
  have g1 := h6 1 f1 rfl
  have g2 := h6 2 f2 rfl
  have g3 := h6 3 f3 rfl
  have g4 := h6 4 f4 rfl
  have g5 := h6 5 f5 rfl
  have g6 := h6 6 f6 rfl
  have g7 := h6 7 f7 rfl
  rw [t0, o0, ci] at g0
  rw [t1, o1, ci] at g1
  rw [t2, o2, ci] at g2
  rw [t3, o3, ci] at g3
  rw [t4, o4, ci] at g4
  rw [t5, o5, ci] at g5
  rw [t6, o6, ci] at g6
  rw [t7, o7, ci] at g7
  obtain ⟨x0, e0, _⟩ := TR2_int hi g0
  obtain ⟨x1, e1, _⟩ := TR2_int hi g1
  obtain ⟨x2, e2, _⟩ := TR2_int hi g2
  obtain ⟨x3, e3, _⟩ := TR2_int hi g3
  obtain ⟨x4, e4, _⟩ := TR2_int hi g4
  obtain ⟨x5, e5, _⟩ := TR2_int hi g5
  obtain ⟨x6, e6, _⟩ := TR2_int hi g6
  obtain ⟨x7, e7, _⟩ := TR2_int hi g7
  simp at e0 e1 e2 e3 e4 e5 e6 e7
  subst e0 e1 e2 e3 e4 e5 e6 e7
  exact ⟨⟨x0, x1, x2, x3, x4, x5, x6, x7⟩, rfl⟩
theorem cfg25_TR2 {P : Program} {n B : Nat} {sl : Bool} {e i : TypeId} {f0 f1 f2 f3 f4 f5 f6 f7 f8 f9 f10 f11 : Field} {us : List AVal} (he : P.underlying e = some (.struct #[f0, f1, f2, f3, f4, f5, f6, f7, f8, f9, f10, f11])) (hi : P.underlying i = some (.int .i64)) (hc : P.cellsOf e = 12) (ci : P.cellsOf i = 1)
    (hf : (f0.type = i ∧ f0.offset = 0) ∧ (f1.type = i ∧ f1.offset = 1) ∧ (f2.type = i ∧ f2.offset = 2) ∧ (f3.type = i ∧ f3.offset = 3) ∧ (f4.type = i ∧ f4.offset = 4) ∧ (f5.type = i ∧ f5.offset = 5) ∧ (f6.type = i ∧ f6.offset = 6) ∧ (f7.type = i ∧ f7.offset = 7) ∧ (f8.type = i ∧ f8.offset = 8) ∧ (f9.type = i ∧ f9.offset = 9) ∧ (f10.type = i ∧ f10.offset = 10) ∧ (f11.type = i ∧ f11.offset = 11)) (h : TR2 P B (n + 2) sl e us) : ∃ x : Cfg, us = x.row := by
  obtain ⟨⟨t0, o0⟩, ⟨t1, o1⟩, ⟨t2, o2⟩, ⟨t3, o3⟩, ⟨t4, o4⟩, ⟨t5, o5⟩, ⟨t6, o6⟩, ⟨t7, o7⟩, ⟨t8, o8⟩, ⟨t9, o9⟩, ⟨t10, o10⟩, ⟨t11, o11⟩⟩ := hf
  obtain ⟨hr, h6⟩ := TR2_struct he h
  rw [hc] at hr
  obtain ⟨r0, q0, rfl, h100⟩ := len_s25 hr
  obtain ⟨r1, q1, rfl, h101⟩ := len_s25 h100
  obtain ⟨r2, q2, rfl, h102⟩ := len_s25 h101
  obtain ⟨r3, q3, rfl, h103⟩ := len_s25 h102
  obtain ⟨r4, q4, rfl, h104⟩ := len_s25 h103
  obtain ⟨r5, q5, rfl, h105⟩ := len_s25 h104
  obtain ⟨r6, q6, rfl, h106⟩ := len_s25 h105
  obtain ⟨r7, q7, rfl, h107⟩ := len_s25 h106
  obtain ⟨r8, q8, rfl, h108⟩ := len_s25 h107
  obtain ⟨r9, q9, rfl, h109⟩ := len_s25 h108
  obtain ⟨r10, q10, rfl, h110⟩ := len_s25 h109
  obtain ⟨r11, q11, rfl, h111⟩ := len_s25 h110
  obtain rfl := List.length_eq_zero_iff.1 h111
  have g0 := h6 0 f0 rfl
  have g1 := h6 1 f1 rfl
  have g2 := h6 2 f2 rfl
  have g3 := h6 3 f3 rfl
  have g4 := h6 4 f4 rfl
  have g5 := h6 5 f5 rfl
  have g6 := h6 6 f6 rfl
  have g7 := h6 7 f7 rfl
  have g8 := h6 8 f8 rfl
  have g9 := h6 9 f9 rfl
  have g10 := h6 10 f10 rfl
  have g11 := h6 11 f11 rfl
  rw [t0, o0, ci] at g0
  rw [t1, o1, ci] at g1
  rw [t2, o2, ci] at g2
  rw [t3, o3, ci] at g3
  rw [t4, o4, ci] at g4
  rw [t5, o5, ci] at g5
  rw [t6, o6, ci] at g6
  rw [t7, o7, ci] at g7
  rw [t8, o8, ci] at g8
  rw [t9, o9, ci] at g9
  rw [t10, o10, ci] at g10
  rw [t11, o11, ci] at g11
  obtain ⟨x0, e0, _⟩ := TR2_int hi g0
  obtain ⟨x1, e1, _⟩ := TR2_int hi g1
  obtain ⟨x2, e2, _⟩ := TR2_int hi g2
  obtain ⟨x3, e3, _⟩ := TR2_int hi g3
  obtain ⟨x4, e4, _⟩ := TR2_int hi g4
  obtain ⟨x5, e5, _⟩ := TR2_int hi g5
  obtain ⟨x6, e6, _⟩ := TR2_int hi g6
  obtain ⟨x7, e7, _⟩ := TR2_int hi g7
  obtain ⟨x8, e8, _⟩ := TR2_int hi g8
  obtain ⟨x9, e9, _⟩ := TR2_int hi g9
  obtain ⟨x10, e10, _⟩ := TR2_int hi g10
  obtain ⟨x11, e11, _⟩ := TR2_int hi g11
  simp at e0 e1 e2 e3 e4 e5 e6 e7 e8 e9 e10 e11
  subst e0 e1 e2 e3 e4 e5 e6 e7 e8 e9 e10 e11
  exact ⟨⟨x0, x1, x2, x3, x4, x5, x6, x7, x8, x9, x10, x11⟩, rfl⟩
theorem rows25_of {α : Type} {f : α → List AVal} {q : List AVal → Prop} (he : ∀ r, q r → ∃ x : α, r = f x) : ∀ rows : List (List AVal), (∀ r ∈ rows, q r) → ∃ l : List α, rows = l.map f
  | [], _ => ⟨[], rfl⟩
  | r :: rs, h => by
    obtain ⟨l, rfl⟩ := rows25_of he rs fun r hr => h r (by simp [hr])
    obtain ⟨x, rfl⟩ := he _ (h r (by simp))
    exact ⟨x :: l, rfl⟩
theorem evs25_TR2 {P : Program} {n B : Nat} {sl : Bool} {t e i : TypeId} {f0 f1 f2 f3 f4 f5 f6 f7 : Field} {us : List AVal} (hu : P.underlying t = some (.slice e)) (he : P.underlying e = some (.struct #[f0, f1, f2, f3, f4, f5, f6, f7])) (hi : P.underlying i = some (.int .i64)) (hc : P.cellsOf e = 8) (ci : P.cellsOf i = 1)
    (hf : (f0.type = i ∧ f0.offset = 0) ∧ (f1.type = i ∧ f1.offset = 1) ∧ (f2.type = i ∧ f2.offset = 2) ∧ (f3.type = i ∧ f3.offset = 3) ∧ (f4.type = i ∧ f4.offset = 4) ∧ (f5.type = i ∧ f5.offset = 5) ∧ (f6.type = i ∧ f6.offset = 6) ∧ (f7.type = i ∧ f7.offset = 7)) (h : TR2 P B (n + 3) sl t us) : ∃ a l, us = [a] ∧ IsFz Ev.row a l ∧ l.length ≤ B := by
  rcases TR2_slice hu h with rfl | ⟨b', o, len, cap, rows, rfl, h1, h2, h2b, h3, h4⟩ | ⟨_, x, rfl⟩
  · exact ⟨_, [], rfl, .inl ⟨rfl, rfl⟩, by simp⟩
  · obtain ⟨l, rfl⟩ := rows25_of (f := Ev.row) (fun r hr => ev25_TR2 he hi hc ci hf hr) rows fun r hr => (h4 r hr).2
    subst h3
    refine ⟨_, l, rfl, .inr (.inl ⟨b', o, cap, ?_⟩), by simpa using h2b⟩
    rw [List.length_map, List.flatMap]
  · exact ⟨_, [], rfl, .inr (.inr ⟨rfl, x, rfl⟩), by simp⟩
end Go.AI

/- States: users and sessions that are found; new ones. -/
set_option linter.all false
namespace Go.AI
variable {A : Type} {R : Adts A}
theorem state_User_c1_ok (hR : R.Ok) (u : Usr) (x : Int) {h : AHeap A} {b : Nat} (hb : h[b]? = some (.cells t_int [.int .i64 x])) {K : AVal → AHeap A → Prop} (hk : K (.bool (decide (u.user = x))) h) : Tri Pr R n_state_User_c1 [.agg u.row, .ptr b 0] h K := by
  have hc : ∀ τ, (AObj.cells t_int [.int .i64 x] : AObj A).ren R τ = .cells t_int [.int .i64 x] := fun τ => by simp [AObj.ren, rens, AVal.ren]
  refine Tri.own hR (as2 := [.agg u.row, .ptr 0 0]) (o := .cells t_int [.int .i64 x]) (Q := fun v o => v = .bool (decide (u.user = x)) ∧ o = .cells t_int [.int .i64 x]) rfl (by show ixs 1 [AVal.int .i64 x] = true; rfl) (by rintro _ _ ⟨rfl, rfl⟩; exact ⟨rfl, hc⟩) hc ?_ hb (by simp [rens, AVal.ren, Usr.row]) (by rintro _ _ ⟨rfl, rfl⟩; rw [set_same hb]; exact hk)
  refine Tri.post ?_
  apply c_state_User_c1
  unfold p_state_User_c1
  simp -implicitDefEqProofs [Usr.row]
  refine Gives.cut hR (m := 1) (Nat.le_refl _) (by simp) rfl (by simp; exact low_cells rfl) ⟨_, rfl, _, ⟨?_, rfl⟩, rfl⟩
  congr 1
theorem state_Session_c1_ok (hR : R.Ok) (u : Ses) (x : Int) {h : AHeap A} {b : Nat} (hb : h[b]? = some (.cells t_int [.int .i64 x])) {K : AVal → AHeap A → Prop} (hk : K (.bool (decide (u.session = x))) h) : Tri Pr R n_state_Session_c1 [.agg u.row, .ptr b 0] h K := by
  have hc : ∀ τ, (AObj.cells t_int [.int .i64 x] : AObj A).ren R τ = .cells t_int [.int .i64 x] := fun τ => by simp [AObj.ren, rens, AVal.ren]
  refine Tri.own hR (as2 := [.agg u.row, .ptr 0 0]) (o := .cells t_int [.int .i64 x]) (Q := fun v o => v = .bool (decide (u.session = x)) ∧ o = .cells t_int [.int .i64 x]) rfl (by show ixs 1 [AVal.int .i64 x] = true; rfl) (by rintro _ _ ⟨rfl, rfl⟩; exact ⟨rfl, hc⟩) hc ?_ hb (by simp [rens, AVal.ren, Ses.row]) (by rintro _ _ ⟨rfl, rfl⟩; rw [set_same hb]; exact hk)
  refine Tri.post ?_
  apply c_state_Session_c1
  unfold p_state_Session_c1
  simp -implicitDefEqProofs [Ses.row]
  refine Gives.cut hR (m := 1) (Nat.le_refl _) (by simp) rfl (by simp; exact low_cells rfl) ⟨_, rfl, _, ⟨?_, rfl⟩, rfl⟩
  congr 1
/-- A field of a state that can be read, over whatever comes behind. -/
structure Fld (a : AVal) (k : Nat) (x : AVal) (h : AHeap A) : Prop where
  nn : ∀ K, nilP a K = K a
  fad : ∀ K, fadP k a K = K (a.fad k)
  ld : ∀ g : AHeap A, ldV 1 false (a.fad k) (h ++ g) = some x
theorem get_app {h g : AHeap A} {b : Nat} {o : AObj A} (hb : h[b]? = some o) : (h ++ g)[b]? = some o := by
  rw [List.getElem?_append_left (List.getElem?_eq_some_iff.1 hb).1]; exact hb
theorem Fld.ptr {b o k : Nat} {e : TypeId} {cs : List AVal} {x : AVal} {h : AHeap A} (hb : h[b]? = some (.cells e cs)) (hx : cs[o + k]? = some x) : Fld (.ptr b o) k x h :=
  ⟨fun K => rfl, fun K => rfl, fun g => by simp [AVal.fad, ldV, get_app hb, AObj.read, hx]⟩
theorem Fld.fp {b o k : Nat} {cs : List AVal} {x : AVal} {h : AHeap A} (hx : cs[k]? = some x) : Fld (.fp b o cs) k x h :=
  ⟨fun K => rfl, fun K => rfl, fun g => by simp [AVal.fad, ldV, hx]⟩
theorem state_User_ok (hR : R.Ok) {a x : AVal} {l : List Usr} {h : AHeap A} (hf : Fld a 3 x h) (hx : ∀ g : AHeap A, RdS Usr.row 9 x l (h ++ g)) (hn : l.length ≤ 2000000) (user : Int) {K : AVal → AHeap A → Prop}
    (hk0 : uAt l user = none → K .nilp (h ++ [.cells t_int [.int .i64 user]])) (hk1 : ∀ i p, uAt l user = some i → (∀ K, idxP 9 x (.int .i64 i) K = K p) → K p (h ++ [.cells t_int [.int .i64 user]])) : Tri Pr R n_state_User [a, .int .i64 user] h K := by
  apply c_state_User
  unfold p_state_User
  simp -implicitDefEqProofs [hf.nn, hf.fad, hf.ld]
  refine IndexFunc_api_User_ok hR (hx _) hn (by kernel_rfl) (fun u => decide (u.user = user)) (fun u _ K hK => state_User_c1_ok hR u user (by simp) hK) ?_
  cases hu : l.findIdx? fun u => decide (u.user = user) with
  | none =>
    simp -implicitDefEqProofs [idx1]
    exact hk0 hu
  | some i =>
    have hi : i < l.length := (List.findIdx?_eq_some_iff_getElem.1 hu).1
    obtain ⟨p, hp, _⟩ := (hx [.cells t_int [.int .i64 user]]).get i hi
    have h0 : ¬ ((i : Int) < 0) := by omega
    simp -implicitDefEqProofs [idx1, h0, hf.nn, hf.fad, hf.ld, hp]
    exact hk1 i p hu hp
theorem state_Session_ok (hR : R.Ok) {a x : AVal} {l : List Ses} {h : AHeap A} (hf : Fld a 4 x h) (hx : ∀ g : AHeap A, RdS Ses.row 4 x l (h ++ g)) (hn : l.length ≤ 2000000) (session : Int) {K : AVal → AHeap A → Prop}
    (hk0 : xAt l session = none → K .nilp (h ++ [.cells t_int [.int .i64 session]])) (hk1 : ∀ i p, xAt l session = some i → (∀ K, idxP 4 x (.int .i64 i) K = K p) → K p (h ++ [.cells t_int [.int .i64 session]])) : Tri Pr R n_state_Session [a, .int .i64 session] h K := by
  apply c_state_Session
  unfold p_state_Session
  simp -implicitDefEqProofs [hf.nn, hf.fad, hf.ld]
  refine IndexFunc_api_Session_ok hR (hx _) hn (by kernel_rfl) (fun u => decide (u.session = session)) (fun u _ K hK => state_Session_c1_ok hR u session (by simp) hK) ?_
  cases hu : l.findIdx? fun u => decide (u.session = session) with
  | none =>
    simp -implicitDefEqProofs [idx1]
    exact hk0 hu
  | some i =>
    have hi : i < l.length := (List.findIdx?_eq_some_iff_getElem.1 hu).1
    obtain ⟨p, hp, _⟩ := (hx [.cells t_int [.int .i64 session]]).get i hi
    have h0 : ¬ ((i : Int) < 0) := by omega
    simp -implicitDefEqProofs [idx1, h0, hf.nn, hf.fad, hf.ld, hp]
    exact hk1 i p hu hp
/-! New pools. -/
theorem bits_Mul_ok (hR : R.Ok) {n : Nat} (hn : n ≤ 16) {h : AHeap A} {K : AVal → AHeap A → Prop} (hk : K (.tup [.int .u64 0, .int .u64 n]) h) : Tri Pr R n_math_bits_Mul [.int .u64 1, .int .u64 n] h K := by
  refine Tri.fn1 hR _ rfl rfl ?_ hk
  apply c_math_bits_Mul
  unfold p_math_bits_Mul
  simp -implicitDefEqProofs
  apply c_math_bits_Mul64
  unfold p_math_bits_Mul64
  have : n = 0 ∨ n = 1 ∨ n = 2 ∨ n = 3 ∨ n = 4 ∨ n = 5 ∨ n = 6 ∨ n = 7 ∨ n = 8 ∨ n = 9 ∨ n = 10 ∨ n = 11 ∨ n = 12 ∨ n = 13 ∨ n = 14 ∨ n = 15 ∨ n = 16 := by omega
  have b1 : bits .u64 (· &&& ·) 1 4294967295 = 1 := by decide +kernel
  have b0 : bits .u64 (· &&& ·) 0 4294967295 = 0 := by decide +kernel
  have bn : bits .u64 (· &&& ·) n 4294967295 = n := by rcases this with rfl | rfl | rfl | rfl | rfl | rfl | rfl | rfl | rfl | rfl | rfl | rfl | rfl | rfl | rfl | rfl | rfl <;> decide +kernel
  have s1 : Int.fdiv 1 (2 ^ min 32 IntKind.u64.bits) = 0 := by decide +kernel
  have s0 : Int.fdiv 0 (2 ^ min 32 IntKind.u64.bits) = 0 := by decide +kernel
  have sn : Int.fdiv n (2 ^ min 32 IntKind.u64.bits) = 0 := by rcases this with rfl | rfl | rfl | rfl | rfl | rfl | rfl | rfl | rfl | rfl | rfl | rfl | rfl | rfl | rfl | rfl | rfl <;> decide +kernel
  have wn := wu64 (n := (n : Int)) (by omega)
  have w0 := wu64 (n := 0) (by omega)
  simp -implicitDefEqProofs [b1, b0, bn, s1, s0, sn, wn, w0]
  rfl
/-- Some that are there, the rest zero. -/
def repA (a z : Adr) (k n : Nat) : List Adr := List.replicate k a ++ List.replicate (n - k) z
theorem repA_over (a z : Adr) {k m n : Nat} (h : k + m ≤ n) : over ((repA a z k n).flatMap Adr.row) (k * 3) ((List.replicate m a).flatMap Adr.row) = (repA a z (k + m) n).flatMap Adr.row := by
  unfold over
  rw [rows_taken adrR, rows_len adrR, List.length_replicate, show k * 3 + m * 3 = (k + m) * 3 by omega, rows_dropn adrR]
  have e1 : (repA a z k n).take k = List.replicate k a := by simp [repA, List.take_append]
  have e2 : (repA a z k n).drop (k + m) = List.replicate (n - (k + m)) z := by
    simp only [repA, List.drop_append, List.length_replicate, List.drop_replicate]
    rw [show k - (k + m) = 0 by omega, show k + m - k = m by omega, show n - k - m = n - (k + m) by omega]
    simp
  rw [e1, e2]
  simp only [repA, List.flatMap_append, ← List.replicate_append_replicate]
theorem repA_len (a z : Adr) {k n : Nat} (h : k ≤ n) : (repA a z k n).length = n := by simp [repA]; omega
theorem rep_rows (z : Adr) (n : Nat) : (List.replicate n z.row).flatten = (List.replicate n z).flatMap Adr.row := by
  rw [List.flatMap, List.map_replicate]
abbrev rpH (A : Type) (a : Adr) (n k : Nat) : AHeap A := [.cells t_api_Address a.row, .cells t_api_Address ((repA a adr0 k n).flatMap Adr.row)]
def RpI (a : Adr) (n : Nat) (mm : Nat) (y : List AVal) (g : AHeap A) : Prop :=
  ∃ k : Nat, 1 ≤ k ∧ k ≤ n ∧ y = [.int .i64 k] ∧ g = [.cells t_api_Address a.row, .cells t_api_Address ((repA a adr0 k n).flatMap Adr.row)] ∧ mm = n - k
theorem Repeat_ok (hR : R.Ok) (a : Adr) {n : Nat} (hn : 1 ≤ n ∧ n ≤ 16) {K : AVal → AHeap A → Prop} (hk : K (.sl 1 0 n n true) [.cells t_api_Address a.row, .cells t_api_Address ((List.replicate n a).flatMap Adr.row)]) : Tri Pr R n_slices_Repeat_api_Address [.sl 0 0 1 1 true, .int .i64 n] [.cells t_api_Address a.row] K := by
  apply c_slices_Repeat_api_Address
  unfold p_slices_Repeat_api_Address
  have g0 : ¬ ((n : Int) < 0) := by omega
  have wu1 := wu64 (n := 1) (by omega)
  have wun := wu64 (n := (n : Int)) (by omega)
  have wn := w64 (n := (n : Int)) (by omega)
  refine joinP_go ?_
  simp -implicitDefEqProofs [g0, wu1, wun]
  refine bits_Mul_ok hR hn.2 ?_
  simp -implicitDefEqProofs
  refine joinP_go ?_
  have g1 : ¬ ((n : Int) > 9223372036854775807) := by omega
  simp -implicitDefEqProofs [g1, wn]
  have hz : [AVal.bool false, .int .i64 0, .int .i64 0] = adr0.row := rfl
  have mk : ∀ (h : AHeap A) (K : AVal → AHeap A → Prop), mkslP t_api_Address 3 24 [.bool false, .int .i64 0, .int .i64 0] (.int .i64 n) (.int .i64 n) h K = K (.sl h.length 0 n n true) (h ++ [.cells t_api_Address ((List.replicate n adr0).flatMap Adr.row)]) := by
    intro h K
    unfold mkslP
    dsimp only
    rw [if_pos ⟨by omega, by omega, by omega, by omega, rfl⟩, hz, Int.toNat_natCast, rep_rows]
  rw [mk]
  have src0 : ∀ h : AHeap A, h[0]? = some (.cells t_api_Address a.row) → srcOf 3 h (.sl 0 0 1 1 true) = some (1, (List.replicate 1 a).flatMap Adr.row) := by
    intro h hh
    simp [srcOf, cellsAt, hh, AObj.read, Adr.row]
  have e0 : (List.replicate n adr0).flatMap Adr.row = (repA a adr0 0 n).flatMap Adr.row := by simp [repA]
  have cp : ∀ (k m : Nat) (src : AVal) (KK : AVal → AHeap A → Prop), k + m ≤ n → k < n → (1 ≤ k ∧ m = min k (n - k)) ∨ (k = 0 ∧ m = 1) → srcOf 3 (rpH A a n k) src = some (if k = 0 then 1 else k, (List.replicate (if k = 0 then 1 else k) a).flatMap Adr.row) →
      KK (.int .i64 m) (rpH A a n (k + m)) → cpyP 3 (.sl 1 (k * 3) (n - k) (n - k) true) src (rpH A a n k) KK := by
    intro k m src KK h1 h2 h3 h4 h5
    unfold cpyP
    rw [h4]
    dsimp only
    have hm : min (if k = 0 then 1 else k) (n - k) = m := by split <;> omega
    rw [hm, rows_taken adrR]
    have ht : (List.replicate (if k = 0 then 1 else k) a).take m = List.replicate m a := by rw [List.take_replicate]; congr 1; split <;> omega
    rw [ht]
    have hset : setAt (rpH A a n k) 1 (k * 3) ((List.replicate m a).flatMap Adr.row) = some (rpH A a n (k + m)) := by
      unfold setAt
      simp only [List.getElem?_cons_succ, List.getElem?_cons_zero]
      rw [if_pos ⟨by rw [rows_len adrR, rows_len adrR, repA_len a adr0 (by omega), List.length_replicate]; omega, rows_sc adrR _⟩, repA_over a adr0 h1]
      rfl
    rw [hset]
    exact h5
  rw [e0]
  refine cp 0 1 _ _ (by omega) (by omega) (.inr ⟨rfl, rfl⟩) (src0 _ rfl) ?_
  refine loopP_go (RpI a n) (n - 1) (Gives.done (Nat.le_refl _) ⟨1, by omega, by omega, rfl, rfl, rfl⟩) ?_
  rintro m y g ⟨k, k1, k2, rfl, rfl, rfl⟩
  by_cases hkn : k < n
  · have e2 : (k : Int) < (n : Int) := by omega
    have r1 : ∀ K, rslP 3 (.sl 1 0 n n true) (some (.int .i64 k)) none none K = K (.sl 1 (k * 3) (n - k) (n - k) true) := by
      intro K; have : (k : Int) ≤ n := by omega
      simp [rslP, bnd, this, hkn, k2]
    have r2 : ∀ K, rslP 3 (.sl 1 0 n n true) none (some (.int .i64 k)) none K = K (.sl 1 0 k n true) := by
      intro K; have : (k : Int) ≤ n := by omega
      simp [rslP, bnd, this, k2]; try exact fun _ => k2
    simp -implicitDefEqProofs [e2, r1, r2]
    refine cp k (min k (n - k)) _ _ (by omega) hkn (.inl ⟨k1, rfl⟩) ?_ ?_
    · rw [if_neg (by omega)]
      simp only [srcOf, cellsAt, List.getElem?_cons_succ, List.getElem?_cons_zero, Option.bind_some, AObj.read, List.drop_zero, Nat.zero_add]
      rw [if_pos (by rw [rows_len adrR, repA_len a adr0 (by omega)]; omega), rows_taken adrR]
      simp [repA, List.take_append]
    · have w3 := w64 (n := (k : Int) + ((min k (n - k) : Nat) : Int)) (by omega)
      simp -implicitDefEqProofs [w3]
      refine Gives.done (by simp) ⟨n - (k + min k (n - k)), by omega, k + min k (n - k), by omega, by omega, by simp, rfl, rfl⟩
  · have hkn' : k = n := by omega
    subst hkn'
    simp -implicitDefEqProofs
    have e3 : repA a adr0 k k = List.replicate k a := by simp [repA]
    rw [e3]
    exact hk
theorem pool_New_ok (hR : R.Ok) (n : Int) {h : AHeap A} {K : AVal → AHeap A → Prop} (hk : pAns (pNew n) K h) : Tri Pr R n_pool_New [.int .i64 n] h K := by
  by_cases hn : 1 ≤ n ∧ n ≤ 16
  · have e : pNew n = some (List.replicate n.toNat ⟨false, -1, 0⟩) := by unfold pNew; rw [if_pos hn]
    rw [e] at hk
    refine Tri.fzfn hR (fun v => ∃ a', v = .tup [a', .int .i64 0] ∧ IsFz Adr.row a' (List.replicate n.toNat ⟨false, -1, 0⟩)) rfl ?_ (by rintro v ⟨a', rfl, ha'⟩ _; exact hk a' ha')
    obtain ⟨k, rfl⟩ : ∃ k : Nat, n = k := ⟨n.toNat, by omega⟩
    apply c_pool_New
    unfold p_pool_New
    have g1 : ¬ ((k : Int) < 1) := by omega
    have g2 : ¬ ((k : Int) > 16) := by omega
    simp -implicitDefEqProofs [g1, g2]
    refine Repeat_ok hR ⟨false, -1, 0⟩ (n := k) (by omega) ?_
    have own : Own Adr.row 3 t_api_Address (.sl 1 0 (List.replicate k (⟨false, -1, 0⟩ : Adr)).length k true) (List.replicate k ⟨false, -1, 0⟩) ([.cells t_api_Address (Adr.row ⟨false, -1, 0⟩), .cells t_api_Address ((List.replicate k (⟨false, -1, 0⟩ : Adr)).flatMap Adr.row)] : AHeap A) := Own.new adrR rfl (by simp)
    rw [List.length_replicate] at own
    exact Gives.fzO adrR (V := fun v => [.tup [v, .int .i64 0]]) own (fun b hb blk base spare cs => by simp [frzs, AVal.frz]) (Nat.zero_le _) fun a2 ha2 h3 _ _ => Gives.done (Nat.zero_le _) ⟨_, rfl, ⟨a2, rfl, by simpa using ha2⟩, by simp [AVal.ix, ixs, ha2.ix0]⟩
  · have e : pNew n = none := by unfold pNew; rw [if_neg hn]
    rw [e] at hk
    apply c_pool_New
    unfold p_pool_New
    by_cases g1 : n < 1
    · simp -implicitDefEqProofs [g1]; exact hk
    · have g2 : n > 16 := by omega
      simp -implicitDefEqProofs [g1, g2]; exact hk
theorem state_New_ok (hR : R.Ok) (n : Int) {h : AHeap A} {K : AVal → AHeap A → Prop} (hk0 : sNew n = none → K (.tup [.agg [.int .i64 0, .int .i64 0, .int .i64 0, .nils, .nils, .nils, .nils], .int .i64 2000]) h) (hk1 : ∀ s sv, sNew n = some s → IsSta sv s → K (.tup [sv, .int .i64 0]) h) : Tri Pr R n_state_New [.int .i64 n] h K := by
  cases hp : pNew n with
  | none =>
    refine Tri.fn1 hR _ rfl rfl ?_ (hk0 (by simp [sNew, hp]))
    apply c_state_New
    unfold p_state_New
    simp -implicitDefEqProofs
    refine pool_New_ok hR n ?_
    rw [hp]
    unfold pAns
    simp -implicitDefEqProofs
    rfl
  | some l =>
    refine Tri.fn hR (fun v => ∃ sv, v = .tup [sv, .int .i64 0] ∧ IsSta sv { sta0 with addrs := l }) rfl ?_ (by rintro v ⟨sv, rfl, hs⟩ _; exact hk1 _ sv (by simp [sNew, hp]) hs)
    apply c_state_New
    unfold p_state_New
    simp -implicitDefEqProofs
    refine pool_New_ok hR n ?_
    rw [hp]
    intro a' ha'
    have sa := ha'.sc
    have ca := sc_cs sa
    have ia := ha'.ix0
    simp -implicitDefEqProofs [sa, ca]
    exact ⟨⟨⟨_, _, _, _, rfl, IsFz.nil, IsFz.nil, ha', IsFz.nil⟩⟩, by simp [AVal.ix, ixs, ia]⟩
end Go.AI

/- States: a state of one's own that an event turns. -/
set_option linter.all false
namespace Go.AI
variable {A : Type} {R : Adts A}
/-- The turn's cells. -/
def tCells (c e : Nat) (s : Sta) (xu xs xa xp : AVal) : List AVal := [.ptr c 0, .int .i64 s.boots, .int .i64 s.epoch, .int .i64 s.next, xu, xs, xa, xp, .ptr e 0]
/-- Where a turn lies: the objects below m stay. -/
structure Tn (m t c e : Nat) (C : Cfg) (E : Ev) (h : AHeap A) (s : Sta) (xu xs xa xp : AVal) : Prop where
  tt : h[t]? = some (.cells t_state_turn (tCells c e s xu xs xa xp))
  cc : h[c]? = some (.cells t_api_Config C.row)
  ee : h[e]? = some (.cells t_api_Event E.row)
  u : Own Usr.row 9 t_api_User xu s.users h
  x : Own Ses.row 4 t_api_Session xs s.sess h
  a : IsFz Adr.row xa s.addrs
  p : Own iRow 1 t_int xp s.spent h
  mt : m ≤ t
  mc : c < m
  me : e < m
  bu : ∀ b, xu.blk = some b → m ≤ b ∧ b ≠ t
  bx : ∀ b, xs.blk = some b → m ≤ b ∧ b ≠ t
  bp : ∀ b, xp.blk = some b → m ≤ b ∧ b ≠ t
  ux : ∀ b, xu.blk = some b → xs.blk ≠ some b
  up : ∀ b, xu.blk = some b → xp.blk ≠ some b
  xp : ∀ b, xs.blk = some b → xp.blk ≠ some b
variable {m t c e : Nat} {C : Cfg} {E : Ev} {h : AHeap A} {s : Sta} {xu xs xa xp : AVal}
theorem Tn.tl (T : Tn m t c e C E h s xu xs xa xp) : t < h.length := (List.getElem?_eq_some_iff.1 T.tt).1
/-- What is there stays. -/
theorem Tn.move (T : Tn m t c e C E h s xu xs xa xp) {h' : AHeap A} (hh : ∀ k, k < h.length → h'[k]? = h[k]?) : Tn m t c e C E h' s xu xs xa xp :=
  { T with
    tt := (hh _ T.tl).trans T.tt
    cc := (hh _ (by have := T.mc; have := T.mt; have := T.tl; omega)).trans T.cc
    ee := (hh _ (by have := T.me; have := T.mt; have := T.tl; omega)).trans T.ee
    u := T.u.move' fun b hb => hh b (T.u.blt hb)
    x := T.x.move' fun b hb => hh b (T.x.blt hb)
    p := T.p.move' fun b hb => hh b (T.p.blt hb) }
/-- The turn's own cells are others: numbers, addresses. -/
theorem Tn.nums (T : Tn m t c e C E h s xu xs xa xp) {s' : Sta} {xa' : AVal} (hu : s'.users = s.users) (hx : s'.sess = s.sess) (hp : s'.spent = s.spent) (ha : IsFz Adr.row xa' s'.addrs) :
    Tn m t c e C E (h.set t (.cells t_state_turn (tCells c e s' xu xs xa' xp))) s' xu xs xa' xp :=
  { T with
    tt := List.getElem?_set_self T.tl
    cc := by rw [List.getElem?_set_ne (by have := T.mc; have := T.mt; omega)]; exact T.cc
    ee := by rw [List.getElem?_set_ne (by have := T.me; have := T.mt; omega)]; exact T.ee
    u := by rw [hu]; exact T.u.move' fun b hb => List.getElem?_set_ne (Ne.symm (T.bu b hb).2)
    x := by rw [hx]; exact T.x.move' fun b hb => List.getElem?_set_ne (Ne.symm (T.bx b hb).2)
    p := by rw [hp]; exact T.p.move' fun b hb => List.getElem?_set_ne (Ne.symm (T.bp b hb).2)
    a := ha }
theorem pFree_len {ps l : List Adr} {i u : Int} (h : pFree ps i u = some l) : l.length = ps.length := by
  unfold pFree at h
  split at h
  · simp at h; subst h; simp
  · simp at h
theorem pTake_len {ps l : List Adr} {i u : Int} (h : pTake ps i u = some l) : l.length = ps.length := by
  unfold pTake at h
  split at h
  · simp at h; subst h; simp
  · simp at h
theorem turn_free_ok (hR : R.Ok) (T : Tn m t c e C E h s xu xs xa xp) (hla : s.addrs.length ≤ 2000000) (i u : Int) {K : AVal → AHeap A → Prop} (hk0 : pFree s.addrs i u = none → K (.bool false) h)
    (hk1 : ∀ l xa', pFree s.addrs i u = some l → Tn m t c e C E (h.set t (.cells t_state_turn (tCells c e { s with addrs := l } xu xs xa' xp))) { s with addrs := l } xu xs xa' xp → K (.bool true) (h.set t (.cells t_state_turn (tCells c e { s with addrs := l } xu xs xa' xp)))) :
    Tri Pr R n_state_turn_free [.ptr t 0, .int .i64 i, .int .i64 u] h K := by
  have tt := T.tt
  unfold tCells at tt
  have r1 : ∀ o, (h.set t o)[t]? = some o := fun o => List.getElem?_set_self T.tl
  apply c_state_turn_free
  unfold p_state_turn_free
  simp -implicitDefEqProofs [tt, AObj.read]
  refine pool_Free_ok hR T.a hla i u ?_
  cases hp : pFree s.addrs i u with
  | none =>
    unfold pAns
    simp -implicitDefEqProofs
    refine joinP_go ?_
    simp -implicitDefEqProofs
    exact hk0 hp
  | some l =>
    intro xa' ha'
    have sa := ha'.sc
    have ca := sc_cs sa
    have s1 := T.u.sc
    have s2 := T.x.sc
    have s3 := T.p.sc
    simp -implicitDefEqProofs
    refine joinP_go ?_
    simp -implicitDefEqProofs [tt, AObj.read, sa, ca]
    exact hk1 l xa' hp (T.nums (s' := { s with addrs := l }) rfl rfl rfl ha')
theorem rises_ok (hR : R.Ok) {b o : Nat} {ty : TypeId} {cs : List AVal} {x : Int} (hb : h[b]? = some (.cells ty cs)) (hx : cs[o]? = some (.int .i64 x)) {K : AVal → AHeap A → Prop}
    (hk : if 0 ≤ x ∧ x < 1073741823 then K (.bool true) (h.set b (.cells ty (cs.set o (.int .i64 (x + 1))))) else K (.bool false) h) : Tri Pr R n_state_rises [.ptr b o] h K := by
  have ho := (List.getElem?_eq_some_iff.1 hx).1
  apply c_state_rises
  unfold p_state_rises
  simp -implicitDefEqProofs [hb, AObj.read, hx]
  refine state_between_ok hR _ _ _ ?_
  by_cases h1 : 0 ≤ x ∧ x < 1073741823
  · rw [if_pos h1] at hk
    have e1 : decide (0 ≤ x ∧ x ≤ 1073741822) = true := by simp; omega
    have w := w64 (n := x + 1) (by omega)
    have so : setO h b o [.int .i64 (x + 1)] (.cells ty cs) = some (h.set b (.cells ty (cs.set o (.int .i64 (x + 1))))) := setO_one h b o _ ty cs rfl ho
    rw [e1]
    simp -implicitDefEqProofs [hb, AObj.read, hx, w, so]
    exact hk
  · rw [if_neg h1] at hk
    have e1 : decide (0 ≤ x ∧ x ≤ 1073741822) = false := by simp; omega
    rw [e1]
    simp -implicitDefEqProofs
    exact hk
/-- What a turn's method answers. -/
def TK (m t c e : Nat) (C : Cfg) (E : Ev) (h : AHeap A) (o : Option Sta) (K : AVal → AHeap A → Prop) : Prop :=
  (o = none → ∀ h', (∀ k, k < m → h'[k]? = h[k]?) → K (.bool false) h') ∧ (∀ s', o = some s' → ∀ xu xs xa xp h', Tn m t c e C E h' s' xu xs xa xp → (∀ k, k < m → h'[k]? = h[k]?) → K (.bool true) h')
/-- What an event's numbers are. -/
structure EvIn (E : Ev) : Prop where
  tick : 0 ≤ E.tick ∧ E.tick ≤ 1048575
  a : 0 ≤ E.a ∧ E.a ≤ 1073741823
  user : 0 ≤ E.user ∧ E.user < 8
  session : 0 ≤ E.session ∧ E.session ≤ 1073741823
theorem evIn {E : Ev} (h : evMay E = true) : EvIn E := by
  obtain ⟨k, u, s, ad, a, b, c, t⟩ := E
  simp only [evMay, Bool.and_eq_true, decide_eq_true_eq] at h
  obtain ⟨⟨⟨⟨⟨⟨⟨hk, _⟩, hp⟩, h1⟩, h2⟩, h3⟩, h4⟩, h5⟩ := h
  have hk2 : k = 0 ∨ k = 1 ∨ k = 2 ∨ k = 3 ∨ k = 4 ∨ k = 5 ∨ k = 6 ∨ k = 7 ∨ k = 8 ∨ k = 9 := by omega
  rcases hk2 with rfl | rfl | rfl | rfl | rfl | rfl | rfl | rfl | rfl | rfl <;> simp [evPlain, evParts, evOf, ev0, nMay] at hp h5 <;> refine ⟨?_, ?_, ?_, ?_⟩ <;> dsimp only <;> omega
def BootI (m t c e : Nat) (C : Cfg) (E : Ev) (h : AHeap A) (s : Sta) (xu xs xp : AVal) (mm : Nat) (y : List AVal) (g : AHeap A) : Prop :=
  ∃ (i : Nat) (ps : List Adr) (xa : AVal), y = [.int .i64 i] ∧ i ≤ s.sess.length ∧ freeAll (E.tick + C.quarantine) (s.sess.drop i) ps = freeAll (E.tick + C.quarantine) s.sess s.addrs ∧ ps.length = s.addrs.length ∧ Tn m t c e C E g { s with addrs := ps } xu xs xa xp ∧ (∀ k, k < m → g[k]? = h[k]?) ∧ h.length ≤ g.length ∧ mm = s.sess.length - i
theorem turn_boot_ok (hR : R.Ok) (T : Tn m t c e C E h s xu xs xa xp) (hle : StaLe s 2000000) (hE : EvIn E) (hC : 1 ≤ C.quarantine ∧ C.quarantine ≤ 65536) {K : AVal → AHeap A → Prop}
    (hk : TK m t c e C E h (match freeAll (E.tick + C.quarantine) s.sess s.addrs with | some ps => if 0 ≤ s.boots ∧ s.boots < 1073741823 then some { s with boots := s.boots + 1, addrs := ps, sess := [] } else none | none => none) K) :
    Tri Pr R n_state_turn_boot [.ptr t 0] h K := by
  have tt := T.tt
  unfold tCells at tt
  have rd := T.x.rd sesR
  apply c_state_turn_boot
  unfold p_state_turn_boot
  simp -implicitDefEqProofs [tt, AObj.read, rd.len]
  refine loopP_go (BootI m t c e C E h s xu xs xp) s.sess.length (Gives.done (Nat.le_refl _) ⟨0, s.addrs, xa, rfl, by omega, by simp, rfl, T, fun _ _ => rfl, Nat.le_refl _, by omega⟩) ?_
  rintro mm y g ⟨i, ps, xa, rfl, hi, hfr, hpl, T, hkeep, hlg, rfl⟩
  have tt := T.tt
  unfold tCells at tt
  have rd := T.x.rd sesR
  by_cases h1 : i < s.sess.length
  · obtain ⟨p, hp, hat⟩ := rd.get i h1
    have hall : ldV 4 true p g = some (.agg (s.sess[i]).row) := hat.all
    have T2 := T.move (h' := g ++ [.cells t_api_Session (s.sess[i]).row]) (fun k hk => by rw [List.getElem?_append_left hk])
    have tt2 := T2.tt
    unfold tCells at tt2
    have ee2 := T2.ee
    have cc2 := T2.cc
    have w1 := w64 (n := E.tick + C.quarantine) (by have := hE.tick; omega)
    have w2 := w64 (n := (i : Int) + 1) (by have := hle.x; omega)
    unfold Ses.row at tt2 ee2 cc2 hall T2
    unfold Ev.row at ee2
    unfold Cfg.row at cc2
    simp -implicitDefEqProofs [h1, hp, hall, tt2, ee2, cc2, AObj.read, w1]
    have hd : s.sess.drop i = s.sess[i] :: s.sess.drop (i + 1) := List.drop_eq_getElem_cons h1
    rw [hd, freeAll] at hfr
    refine turn_free_ok hR T2 (by simpa [hpl] using hle.a) _ _ (fun hn => ?_) (fun l xa' hn T3 => ?_)
    · rw [show ({ s with addrs := ps } : Sta).addrs = ps from rfl] at hn
      rw [hn] at hfr
      simp -implicitDefEqProofs
      refine hk.1 (by rw [← hfr]) _ fun k hk => ?_
      rw [List.getElem?_append_left (by have := T.mt; have := T.tl; omega)]
      exact hkeep k hk
    · rw [show ({ s with addrs := ps } : Sta).addrs = ps from rfl] at hn
      rw [hn] at hfr
      simp -implicitDefEqProofs [w2]
      refine Gives.done (by simp; omega) ⟨s.sess.length - (i + 1), by omega, i + 1, l, xa', by simp, by omega, hfr, by rw [pFree_len hn, hpl], T3, fun k hk => ?_, by simp; omega, rfl⟩
      rw [List.getElem?_set_ne (by have := T.mt; omega), List.getElem?_append_left (by have := T.mt; have := T.tl; omega)]
      exact hkeep k hk
  · have hi2 : i = s.sess.length := by omega
    subst hi2
    rw [List.drop_length, freeAll] at hfr
    rw [← hfr] at hk
    dsimp only at hk
    have s1 := T.u.sc
    have s2 := T.x.sc
    have s3 := T.p.sc
    have s4 := T.a.sc
    simp -implicitDefEqProofs [tt, AObj.read]
    have T3 : Tn m t c e C E (g.set t (.cells t_state_turn (tCells c e { s with addrs := ps, sess := [] } xu .nils xa xp))) { s with addrs := ps, sess := [] } xu .nils xa xp :=
      { T.nums (s' := { s with addrs := ps, sess := s.sess }) rfl rfl rfl T.a with
        tt := List.getElem?_set_self T.tl
        cc := by rw [List.getElem?_set_ne (by have := T.mc; have := T.mt; omega)]; exact T.cc
        ee := by rw [List.getElem?_set_ne (by have := T.me; have := T.mt; omega)]; exact T.ee
        u := T.u.move' fun b hb => List.getElem?_set_ne (Ne.symm (T.bu b hb).2)
        x := Own.nil
        p := T.p.move' fun b hb => List.getElem?_set_ne (Ne.symm (T.bp b hb).2)
        bx := fun b hb => by simp [AVal.blk] at hb
        ux := fun b hb hb2 => by simp [AVal.blk] at hb2
        xp := fun b hb => by simp [AVal.blk] at hb }
    refine rises_ok hR (o := 1) (x := s.boots) T3.tt rfl ?_
    have hm : m ≤ t := T.mt
    by_cases hb : 0 ≤ s.boots ∧ s.boots < 1073741823
    · rw [if_pos hb]
      rw [if_pos hb] at hk
      simp -implicitDefEqProofs
      have T4 := T3.nums (s' := { s with boots := s.boots + 1, addrs := ps, sess := [] }) rfl rfl rfl T.a
      rw [List.set_set] at T4
      refine hk.2 _ rfl xu .nils xa xp _ T4 fun k hk => ?_
      rw [List.getElem?_set_ne (by omega)]
      exact hkeep k hk
    · rw [if_neg hb]
      rw [if_neg hb] at hk
      refine hk.1 rfl _ fun k hk => ?_
      rw [List.getElem?_set_ne (by omega)]
      exact hkeep k hk
end Go.AI

/- States: slices of a turn that are others; tickets that are spent, epochs, events of a user. -/
set_option linter.all false
namespace Go.AI
variable {A : Type} {R : Adts A}
variable {m t c e : Nat} {C : Cfg} {E : Ev} {h : AHeap A} {s : Sta} {xu xs xa xp : AVal}
theorem At.hd {p v : AVal} {c : List AVal} {h : AHeap A} (hat : At p (v :: c) h) : ldV 1 false p h = some v := by
  have := hat.cell 0 (by simp)
  have h9 : ldV 1 false (p.fad 0) h = ldV 1 false p h := by cases p <;> simp [AVal.fad, ldV]
  rw [h9] at this
  simpa using this
/-- Its users are others. -/
theorem Tn.set_u (T : Tn m t c e C E h s xu xs xa xp) {h' : AHeap A} {x' : AVal} {l : List Usr} (ho : Own Usr.row 9 t_api_User x' l h') (hf : ∀ k, k < h.length → xu.blk ≠ some k → h'[k]? = h[k]?) (hl : h.length ≤ h'.length) (hb : ∀ b, x'.blk = some b → xu.blk = some b ∨ h.length ≤ b) :
    Tn m t c e C E (h'.set t (.cells t_state_turn (tCells c e { s with users := l } x' xs xa xp))) { s with users := l } x' xs xa xp := by
  have tl := T.tl
  have mt := T.mt
  have mc := T.mc
  have me := T.me
  have nt : ∀ b, xu.blk = some b → b ≠ t := fun b hb => (T.bu b hb).2
  have ft : ∀ k, k < h.length → k ≠ t → xu.blk ≠ some k → (h'.set t (.cells t_state_turn (tCells c e { s with users := l } x' xs xa xp)))[k]? = h[k]? := fun k hk hkt hkv => by
    rw [List.getElem?_set_ne (Ne.symm hkt)]; exact hf k hk hkv
  have xt : ∀ b, x'.blk = some b → m ≤ b ∧ b ≠ t := fun b hb2 => by
    rcases hb b hb2 with h1 | h1
    · exact T.bu b h1
    · exact ⟨by omega, by omega⟩
  exact { T with
    tt := List.getElem?_set_self (by omega)
    cc := (ft c (by omega) (by omega) fun h1 => by have := (T.bu c h1).1; omega).trans T.cc
    ee := (ft e (by omega) (by omega) fun h1 => by have := (T.bu e h1).1; omega).trans T.ee
    u := ho.move' fun b hb2 => List.getElem?_set_ne (Ne.symm (xt b hb2).2)
    bu := xt
    x := T.x.move' fun b hb2 => ft b (T.x.blt hb2) (T.bx b hb2).2 (fun h1 => T.ux b h1 hb2)
    ux := fun b hb1 hb2 => by
      rcases hb b hb1 with h1 | h1
      · exact T.ux b h1 hb2
      · have := T.x.blt hb2; omega
    p := T.p.move' fun b hb2 => ft b (T.p.blt hb2) (T.bp b hb2).2 (fun h1 => T.up b h1 hb2)
    up := fun b hb1 hb2 => by
      rcases hb b hb1 with h1 | h1
      · exact T.up b h1 hb2
      · have := T.p.blt hb2; omega }
/-- Its sess are others. -/
theorem Tn.set_x (T : Tn m t c e C E h s xu xs xa xp) {h' : AHeap A} {x' : AVal} {l : List Ses} (ho : Own Ses.row 4 t_api_Session x' l h') (hf : ∀ k, k < h.length → xs.blk ≠ some k → h'[k]? = h[k]?) (hl : h.length ≤ h'.length) (hb : ∀ b, x'.blk = some b → xs.blk = some b ∨ h.length ≤ b) :
    Tn m t c e C E (h'.set t (.cells t_state_turn (tCells c e { s with sess := l } xu x' xa xp))) { s with sess := l } xu x' xa xp := by
  have tl := T.tl
  have mt := T.mt
  have mc := T.mc
  have me := T.me
  have nt : ∀ b, xs.blk = some b → b ≠ t := fun b hb => (T.bx b hb).2
  have ft : ∀ k, k < h.length → k ≠ t → xs.blk ≠ some k → (h'.set t (.cells t_state_turn (tCells c e { s with sess := l } xu x' xa xp)))[k]? = h[k]? := fun k hk hkt hkv => by
    rw [List.getElem?_set_ne (Ne.symm hkt)]; exact hf k hk hkv
  have xt : ∀ b, x'.blk = some b → m ≤ b ∧ b ≠ t := fun b hb2 => by
    rcases hb b hb2 with h1 | h1
    · exact T.bx b h1
    · exact ⟨by omega, by omega⟩
  exact { T with
    tt := List.getElem?_set_self (by omega)
    cc := (ft c (by omega) (by omega) fun h1 => by have := (T.bx c h1).1; omega).trans T.cc
    ee := (ft e (by omega) (by omega) fun h1 => by have := (T.bx e h1).1; omega).trans T.ee
    x := ho.move' fun b hb2 => List.getElem?_set_ne (Ne.symm (xt b hb2).2)
    bx := xt
    u := T.u.move' fun b hb2 => ft b (T.u.blt hb2) (T.bu b hb2).2 (T.ux b hb2)
    ux := fun b hb2 hb1 => by
      rcases hb b hb1 with h1 | h1
      · exact T.ux b hb2 h1
      · have := T.u.blt hb2; omega
    p := T.p.move' fun b hb2 => ft b (T.p.blt hb2) (T.bp b hb2).2 (fun h1 => T.xp b h1 hb2)
    xp := fun b hb1 hb2 => by
      rcases hb b hb1 with h1 | h1
      · exact T.xp b h1 hb2
      · have := T.p.blt hb2; omega }
/-- Its spent are others. -/
theorem Tn.set_p (T : Tn m t c e C E h s xu xs xa xp) {h' : AHeap A} {x' : AVal} {l : List Int} (ho : Own iRow 1 t_int x' l h') (hf : ∀ k, k < h.length → xp.blk ≠ some k → h'[k]? = h[k]?) (hl : h.length ≤ h'.length) (hb : ∀ b, x'.blk = some b → xp.blk = some b ∨ h.length ≤ b) :
    Tn m t c e C E (h'.set t (.cells t_state_turn (tCells c e { s with spent := l } xu xs xa x'))) { s with spent := l } xu xs xa x' := by
  have tl := T.tl
  have mt := T.mt
  have mc := T.mc
  have me := T.me
  have nt : ∀ b, xp.blk = some b → b ≠ t := fun b hb => (T.bp b hb).2
  have ft : ∀ k, k < h.length → k ≠ t → xp.blk ≠ some k → (h'.set t (.cells t_state_turn (tCells c e { s with spent := l } xu xs xa x')))[k]? = h[k]? := fun k hk hkt hkv => by
    rw [List.getElem?_set_ne (Ne.symm hkt)]; exact hf k hk hkv
  have xt : ∀ b, x'.blk = some b → m ≤ b ∧ b ≠ t := fun b hb2 => by
    rcases hb b hb2 with h1 | h1
    · exact T.bp b h1
    · exact ⟨by omega, by omega⟩
  exact { T with
    tt := List.getElem?_set_self (by omega)
    cc := (ft c (by omega) (by omega) fun h1 => by have := (T.bp c h1).1; omega).trans T.cc
    ee := (ft e (by omega) (by omega) fun h1 => by have := (T.bp e h1).1; omega).trans T.ee
    p := ho.move' fun b hb2 => List.getElem?_set_ne (Ne.symm (xt b hb2).2)
    bp := xt
    u := T.u.move' fun b hb2 => ft b (T.u.blt hb2) (T.bu b hb2).2 (T.up b hb2)
    up := fun b hb2 hb1 => by
      rcases hb b hb1 with h1 | h1
      · exact T.up b hb2 h1
      · have := T.u.blt hb2; omega
    x := T.x.move' fun b hb2 => ft b (T.x.blt hb2) (T.bx b hb2).2 (T.xp b hb2)
    xp := fun b hb2 hb1 => by
      rcases hb b hb1 with h1 | h1
      · exact T.xp b hb2 h1
      · have := T.x.blt hb2; omega }
theorem Index_int_ok {a : AVal} {l : List Int} {h : AHeap A} (ha : RdS iRow 1 a l h) (hn : l.length ≤ 10000000) (x : Int) {K : AVal → AHeap A → Prop} (hk : K (.int .i64 (idx1 (l.findIdx? fun y => decide (x = y)))) h) : Tri Pr R n_slices_Index_int [a, .int .i64 x] h K := by
  apply c_slices_Index_int
  unfold p_slices_Index_int
  simp -implicitDefEqProofs [ha.len]
  refine loopP_go (fun m y g => ∃ i : Nat, y = [.int .i64 i] ∧ g = h ∧ i ≤ l.length ∧ (∀ j (hj : j < l.length), j < i → decide (x = l[j]) = false) ∧ m = l.length - i) l.length (Gives.done (Nat.le_refl _) ⟨0, rfl, rfl, by omega, fun j _ hj => by omega, by omega⟩) ?_
  rintro m y g2 ⟨i, rfl, rfl, hi, hb, rfl⟩
  have e1 := w64 (n := (i : Int) + 1) (by omega)
  by_cases h1 : i < l.length
  · obtain ⟨p, hp, hat⟩ := ha.get i h1
    have hl0 : ldV 1 false p g2 = some (.int .i64 l[i]) := At.hd hat
    by_cases h2 : x = l[i]
    · have h2' : (x == l[i]) = true := by simpa using h2
      simp -implicitDefEqProofs [h1, hp, hl0, h2']
      have : l.findIdx? (fun y => decide (x = y)) = some i := by
        rw [List.findIdx?_eq_some_iff_getElem]
        exact ⟨h1, by simpa using h2, fun j hj => by simp only [Bool.not_eq_true]; exact hb j (by omega) hj⟩
      rw [this] at hk
      exact hk
    · have h2' : (x == l[i]) = false := by simpa using h2
      simp -implicitDefEqProofs [h1, hp, hl0, h2', e1]
      refine Gives.done (Nat.le_refl _) ⟨l.length - (i + 1), by omega, i + 1, by simp, rfl, by omega, fun j hj hji => ?_, rfl⟩
      by_cases hj2 : j = i
      · subst hj2; simpa using h2
      · simpa using hb j hj (by omega)
  · simp -implicitDefEqProofs [h1]
    have : l.findIdx? (fun y => decide (x = y)) = none := by
      rw [List.findIdx?_eq_none_iff]
      intro y hy
      obtain ⟨j, hj, rfl⟩ := List.mem_iff_getElem.1 hy
      exact hb j hj (by omega)
    rw [this] at hk
    exact hk
theorem Contains_int_ok {a : AVal} {l : List Int} {h : AHeap A} (ha : RdS iRow 1 a l h) (hn : l.length ≤ 10000000) (x : Int) {K : AVal → AHeap A → Prop} (hk : K (.bool (decide (x ∈ l))) h) : Tri Pr R n_slices_Contains_int [a, .int .i64 x] h K := by
  apply c_slices_Contains_int
  unfold p_slices_Contains_int
  refine Index_int_ok ha hn x ?_
  have e : decide (idx1 (l.findIdx? fun y => decide (x = y)) ≥ 0) = decide (x ∈ l) := by
    cases hf : l.findIdx? fun y => decide (x = y) with
    | none =>
      rw [List.findIdx?_eq_none_iff] at hf
      have : x ∉ l := fun hx => by have := hf x hx; simp at this
      simp [idx1, this]
    | some i =>
      rw [List.findIdx?_eq_some_iff_getElem] at hf
      obtain ⟨hi, hq, _⟩ := hf
      have : x ∈ l := by rw [of_decide_eq_true hq]; exact List.getElem_mem hi
      simp [idx1, this]
  simp -implicitDefEqProofs
  rw [e]
  exact hk
theorem turn_spend_ok (hR : R.Ok) (T : Tn m t c e C E h s xu xs xa xp) (hle : StaLe s 2000000) {K : AVal → AHeap A → Prop}
    (hk : TK m t c e C E h (if E.session ∈ s.spent then none else some { s with spent := s.spent ++ [E.session] }) K) : Tri Pr R n_state_turn_spend [.ptr t 0] h K := by
  have tt := T.tt
  have ee := T.ee
  unfold tCells at tt
  unfold Ev.row at ee
  apply c_state_turn_spend
  unfold p_state_turn_spend
  simp -implicitDefEqProofs [tt, ee, AObj.read]
  refine Contains_int_ok (T.p.rd intR) (by have := hle.p; omega) _ ?_
  by_cases h1 : E.session ∈ s.spent
  · rw [if_pos h1] at hk
    simp -implicitDefEqProofs [h1]
    exact hk.1 rfl h fun _ _ => rfl
  · rw [if_neg h1] at hk
    have T2 := T.move (h' := h ++ [.cells t_int [.int .i64 E.session]]) (fun k hk => by rw [List.getElem?_append_left hk])
    have tt2 := T2.tt
    unfold tCells at tt2
    simp -implicitDefEqProofs [h1, tt, ee, tt2, AObj.read]
    refine app_own intR (l2 := [E.session]) T2.p (by omega) (by simp [srcOf, AObj.read, iRow]) (by have := hle.p; simp; omega) fun a' h' ho hf hl hb => ?_
    have tl := T2.tl
    have tt3 := (hf t tl (fun h1 => (T2.bp t h1).2 rfl)).trans tt2
    have sa := ho.sc
    have ca := sc_cs sa
    have s1 := T.u.sc
    have s2 := T.x.sc
    have s3 := T.a.sc
    simp -implicitDefEqProofs [tt3, AObj.read, sa, ca]
    refine hk.2 _ rfl xu xs xa a' _ (T2.set_p ho hf hl hb) fun k hk => ?_
    have := T.mt
    have := T.tl
    rw [List.getElem?_set_ne (by omega), hf k (by simp; omega) (fun h1 => by have := (T.bp k h1).1; omega), List.getElem?_append_left (by omega)]
theorem rotate_ok (hR : R.Ok) (T : Tn m t c e C E h s xu xs xa xp) (hb : s.epoch < 1073741823) (hlo : -9223372036854775808 ≤ s.epoch) {K : AVal → AHeap A → Prop}
    (hk : ∀ h', Tn m t c e C E h' { s with epoch := s.epoch + 1 } xu xs xa xp → (∀ k, k < m → h'[k]? = h[k]?) → K (.bool true) h') : Tri Pr R n_state_rotate [.ptr t 1] h K := by
  have tt := T.tt
  unfold tCells at tt
  have w := w64 (n := s.epoch + 1) (by omega)
  apply c_state_rotate
  unfold p_state_rotate
  simp -implicitDefEqProofs [tt, AObj.read, w]
  refine hk _ (T.nums (s' := { s with epoch := s.epoch + 1 }) rfl rfl rfl T.a) fun k hk => ?_
  rw [List.getElem?_set_ne (by have := T.mt; omega)]
end Go.AI

/- States: events of a user. -/
set_option linter.all false
namespace Go.AI
variable {A : Type} {R : Adts A}
variable {m t c e : Nat} {C : Cfg} {E : Ev} {h : AHeap A} {s : Sta} {xu xs xa xp : AVal}
theorem idx_uniq {w : Nat} {a p q i : AVal} (h1 : ∀ K, idxP w a i K = K p) (h2 : ∀ K, idxP w a i K = K q) : p = q := by
  have := (h1 (· = q)).symm.trans (h2 (· = q))
  simpa using this
theorem rises_own (hR : R.Ok) {α : Type} {f : α → List AVal} {w : Nat} (hf : RowOk f w) {ty : TypeId} {a : AVal} {l : List α} {h : AHeap A} (ho : Own f w ty a l h) {i : Nat} (hi : i < l.length) {b : Nat} (hb : a.blk = some b) {off o : Nat} (hoff : off < w) (hoo : o = i * w + off) {x : Int} (hx : (f l[i])[off]? = some (.int .i64 x)) (y : α)
    (hy : 0 ≤ x ∧ x < 1073741823 → over (f l[i]) off [.int .i64 (x + 1)] = f y) {K : AVal → AHeap A → Prop} (hk1 : 0 ≤ x ∧ x < 1073741823 → ∀ h', Own f w ty a (l.set i y) h' → (∀ k, k ≠ b → h'[k]? = h[k]?) → h'.length = h.length → K (.bool true) h') (hk0 : ¬ (0 ≤ x ∧ x < 1073741823) → K (.bool false) h) :
    Tri Pr R n_state_rises [.ptr b o] h K := by
  subst hoo
  obtain ⟨b', hb', _, hat⟩ := ho.el hf hi
  obtain rfl : b = b' := by rw [hb] at hb'; simpa using hb'
  have hlen := hf.len l[i]
  have hld : ldV 1 false (.ptr b (i * w + off)) h = some (.int .i64 x) := by
    have := hat.cell off (by omega)
    rw [← List.getElem?_eq_getElem (by omega), hx] at this
    simpa [AVal.fad] using this
  have hld2 : (h[b]?.bind AObj.read).bind (fun cs => cs[i * w + off]?) = some (.int .i64 x) := by simpa using hld
  apply c_state_rises
  unfold p_state_rises
  simp -implicitDefEqProofs [hld2]
  refine state_between_ok hR _ _ _ ?_
  by_cases h1 : 0 ≤ x ∧ x < 1073741823
  · have e1 : decide (0 ≤ x ∧ x ≤ 1073741822) = true := by simp; omega
    have wr := w64 (n := x + 1) (by omega)
    rw [e1]
    simp -implicitDefEqProofs [hld2, wr]
    refine ho.sth hf hi hb (off := off) y rfl (by simp; omega) (hy h1) rfl fun h' o1 o2 o3 => hk1 h1 h' o1 o2 o3
  · have e1 : decide (0 ≤ x ∧ x ≤ 1073741822) = false := by simp; omega
    rw [e1]
    simp -implicitDefEqProofs
    exact hk0 h1
/-- A user of a turn is another one. -/
theorem Tn.put_u (T : Tn m t c e C E h s xu xs xa xp) {h' : AHeap A} {l : List Usr} (ho : Own Usr.row 9 t_api_User xu l h') {b : Nat} (hb : xu.blk = some b) (hf : ∀ k, k < h.length → k ≠ b → h'[k]? = h[k]?) : Tn m t c e C E h' { s with users := l } xu xs xa xp := by
  have bt := T.bu b hb
  have tl := T.tl
  have mt := T.mt
  have mc := T.mc
  have me := T.me
  exact { T with
    tt := (hf t tl (Ne.symm bt.2)).trans T.tt
    cc := (hf c (by omega) (by omega)).trans T.cc
    ee := (hf e (by omega) (by omega)).trans T.ee
    u := ho
    x := T.x.move' fun k hk => hf k (T.x.blt hk) fun h1 => T.ux b hb (by rw [← h1]; exact hk)
    p := T.p.move' fun k hk => hf k (T.p.blt hk) fun h1 => T.up b hb (by rw [← h1]; exact hk) }
theorem turn_of_ok (hR : R.Ok) (T : Tn m t c e C E h s xu xs xa xp) {i : Nat} (hi : i < s.users.length) {b : Nat} (hb : xu.blk = some b) (hE : EvIn E) {K : AVal → AHeap A → Prop}
    (hk : TK m t c e C E h ((uTurn C s.users[i] E).map fun u => { s with users := s.users.set i u }) K) : Tri Pr R n_state_turn_of [.ptr t 0, .ptr b (i * 9)] h K := by
  have tt := T.tt
  have ee := T.ee
  have cc := T.cc
  unfold tCells at tt
  unfold Ev.row at ee
  unfold Cfg.row at cc
  have mt := T.mt
  have tl := T.tl
  have mb := (T.bu b hb).1
  obtain ⟨b', hb', _, hat⟩ := T.u.el usrR hi
  obtain rfl : b = b' := by rw [hb] at hb'; simpa using hb'
  have rd : ∀ g : AHeap A, g[b]? = h[b]? → ∀ off (ho : off < 9), (g[b]?.bind AObj.read).bind (fun cs => cs[i * 9 + off]?) = some ((Usr.row s.users[i])[off]'(by simpa [Usr.row] using ho)) := by
    intro g hg off ho
    have := hat.cell off (by simpa [Usr.row] using ho)
    rw [hg]
    simpa [AVal.fad] using this
  have fin : ∀ (u : Usr) (h' : AHeap A), uTurn C s.users[i] E = some u → Own Usr.row 9 t_api_User xu (s.users.set i u) h' → (∀ k, k < h.length → k ≠ b → h'[k]? = h[k]?) → K (.bool true) h' := by
    intro u h' hu ho hf
    refine hk.2 { s with users := s.users.set i u } (by rw [hu]; rfl) xu xs xa xp h' (T.put_u ho hb hf) fun k hk => hf k (by omega) (by omega)
  apply c_state_turn_of
  unfold p_state_turn_of
  simp -implicitDefEqProofs
  refine joinP_go ?_
  simp -implicitDefEqProofs [tt, ee, AObj.read]
  refine joinP_go ?_
  by_cases k7 : E.kind = 7
  · simp -implicitDefEqProofs [k7]
    refine rises_own hR usrR T.u hi hb (off := 8) (by omega) rfl (x := s.users[i].gen) rfl { s.users[i] with gen := s.users[i].gen + 1 } (fun _ => rfl) (fun h1 h' o1 o2 o3 => ?_) (fun h1 => ?_)
    · exact fin _ h' (by unfold uTurn; rw [if_neg (by omega), if_neg (by omega), if_neg (by omega), if_pos k7, if_pos h1]) o1 fun k _ hkb => o2 k hkb
    · exact hk.1 (by unfold uTurn; rw [if_neg (by omega), if_neg (by omega), if_neg (by omega), if_pos k7, if_neg h1]; rfl) h fun _ _ => rfl
  have k7' : (E.kind == 7) = false := by simpa using k7
  by_cases k2 : E.kind = 2
  · have r5 : (h[b]?.bind AObj.read).bind (fun cs => if i * 9 + 5 + 2 ≤ cs.length then some (AVal.agg ((cs.drop (i * 9 + 5)).take 2)) else none) = some (.agg [.int .i64 s.users[i].fails, .int .i64 s.users[i].unt]) := by
      have := hat.sub 5 2 (by simp [Usr.row])
      simpa [AVal.fad, Usr.row] using this
    obtain ⟨er, c1, c2, hkf, hka⟩ : ∃ er c1 c2 : Int, (kFail s.users[i].fails s.users[i].unt E.tick C.fails C.lockout = if er = 0 then some (c1, c2) else none) ∧ kAns (kFail s.users[i].fails s.users[i].unt E.tick C.fails C.lockout) = .tup [.agg [.int .i64 c1, .int .i64 c2], .int .i64 er] := by
      cases hq : kFail s.users[i].fails s.users[i].unt E.tick C.fails C.lockout with
      | none => exact ⟨1300, 0, 0, rfl, rfl⟩
      | some k => exact ⟨0, k.1, k.2, rfl, rfl⟩
    simp -implicitDefEqProofs [k2]
    refine joinP_all (fun vs g => vs = [.ptr h.length 0, .int .i64 er] ∧ g = h ++ [.cells t_api_Lock [.int .i64 c1, .int .i64 c2]]) ?_ ?_
    · have T2 := T.move (h' := h ++ [.cells t_api_Lock [.int .i64 0, .int .i64 0]]) (fun k hk => by rw [List.getElem?_append_left hk])
      have tt2 := T2.tt
      have ee2 := T2.ee
      have cc2 := T2.cc
      unfold tCells at tt2
      unfold Ev.row at ee2
      unfold Cfg.row at cc2
      have gb : (h ++ [.cells t_api_Lock [.int .i64 0, .int .i64 0]] : AHeap A)[b]? = h[b]? := by rw [List.getElem?_append_left (T.u.blt hb)]
      simp -implicitDefEqProofs [tt, ee, cc, tt2, ee2, cc2, AObj.read, r5, gb]
      refine ⟨?_, ?_⟩
      · refine lock_Fail_ok hR _ _ _ _ _ ?_
        rw [hka]
        simp -implicitDefEqProofs
        all_goals exact ⟨rfl, rfl⟩
      · refine lock_Fail_ok hR _ _ _ _ _ ?_
        rw [hka]
        simp -implicitDefEqProofs
        all_goals exact ⟨rfl, rfl⟩
    · rintro _ g ⟨rfl, rfl⟩
      refine ⟨by simp, ?_⟩
      have T2 := T.move (h' := h ++ [.cells t_api_Lock [.int .i64 c1, .int .i64 c2]]) (fun k hk => by rw [List.getElem?_append_left hk])
      simp -implicitDefEqProofs
      refine joinP_go ?_
      by_cases h1 : er = 0
      · rw [if_pos h1] at hkf
        simp -implicitDefEqProofs [h1]
        refine T2.u.sth usrR hi hb (off := 5) { s.users[i] with fails := c1, unt := c2 } rfl (by simp) rfl rfl fun h3 o4 o5 o6 => ?_
        simp -implicitDefEqProofs [o6]
        refine fin _ h3 (by unfold uTurn; rw [if_pos k2, hkf]; rfl) o4 fun k hk hkb => ?_
        rw [o5 k hkb, List.getElem?_append_left hk]
      · rw [if_neg h1] at hkf
        have h1' : (er == 0) = false := by simpa using h1
        simp -implicitDefEqProofs [h1']
        refine hk.1 (by unfold uTurn; rw [if_pos k2, hkf]; rfl) _ fun k hk => ?_
        rw [List.getElem?_append_left (by omega)]
  have k2' : (E.kind == 2) = false := by simpa using k2
  by_cases k3 : E.kind = 3
  · have r7 := rd h rfl 7 (by omega)
    simp only [Usr.row, List.getElem_cons_succ, List.getElem_cons_zero] at r7
    simp -implicitDefEqProofs [k7', k2', k3, tt, ee, AObj.read, r7]
    by_cases h1 : E.a ≤ s.users[i].step
    · simp -implicitDefEqProofs [h1]
      exact hk.1 (by unfold uTurn; rw [if_neg (by omega), if_pos k3, if_pos h1]; rfl) h fun _ _ => rfl
    · simp -implicitDefEqProofs [h1, tt, ee, AObj.read]
      refine T.u.sth usrR hi hb (off := 7) { s.users[i] with step := E.a } rfl (by simp) rfl rfl fun h2 o1 o2 o3 => ?_
      simp -implicitDefEqProofs [o3]
      have hi2 : i < (s.users.set i { s.users[i] with step := E.a }).length := by simpa using hi
      refine o1.sth usrR hi2 hb (off := 5) { s.users[i] with step := E.a, fails := 0, unt := 0 } rfl (by simp) (by simp [Usr.row]) rfl fun h3 o4 o5 o6 => ?_
      simp -implicitDefEqProofs [o6, o3]
      rw [List.set_set] at o4
      exact fin _ h3 (by unfold uTurn; rw [if_neg (by omega), if_pos k3, if_neg h1]) o4 fun k _ hkb => (o5 k hkb).trans (o2 k hkb)
  have k3' : (E.kind == 3) = false := by simpa using k3
  by_cases k4 : E.kind = 4
  · simp -implicitDefEqProofs [k7', k2', k3', k4]
    refine T.u.sth usrR hi hb (off := 5) { s.users[i] with fails := 0, unt := 0 } rfl (by simp) rfl rfl fun h3 o4 o5 o6 => ?_
    simp -implicitDefEqProofs [o6]
    exact fin _ h3 (by unfold uTurn; rw [if_neg (by omega), if_neg (by omega), if_pos k4]) o4 fun k _ hkb => o5 k hkb
  have k4' : (E.kind == 4) = false := by simpa using k4
  simp -implicitDefEqProofs [k7', k2', k3', k4']
  refine fin s.users[i] h (by unfold uTurn; rw [if_neg k2, if_neg k3, if_neg k4, if_neg k7]) ?_ fun _ _ _ => rfl
  rw [List.set_getElem_self]; exact T.u
end Go.AI

/- States: leases. -/
set_option linter.all false
namespace Go.AI
variable {A : Type} {R : Adts A}
variable {m t c e : Nat} {C : Cfg} {E : Ev} {h : AHeap A} {s : Sta} {xu xs xa xp : AVal}
theorem Tn.fldU (T : Tn m t c e C E h s xu xs xa xp) : Fld (.ptr t 1) 3 xu h := Fld.ptr T.tt rfl
theorem Tn.rdU (T : Tn m t c e C E h s xu xs xa xp) (g : AHeap A) : RdS Usr.row 9 xu s.users (h ++ g) := (T.move (h' := h ++ g) (fun k hk => by rw [List.getElem?_append_left hk])).u.rd usrR
def leaseOk (C : Cfg) (E : Ev) (s : Sta) (er : Int) : Bool := decide (E.session = s.next) && (uAt s.users E.user).isSome && decide (er = 0) && decide ((s.sess.length : Int) < C.sessions)
def JL (C : Cfg) (E : Ev) (s : Sta) (er : Int) (h : AHeap A) (vs : List AVal) (g : AHeap A) : Prop := vs = [.bool (!leaseOk C E s er)] ∧ (∀ k, k < h.length → g[k]? = h[k]?) ∧ h.length ≤ g.length
theorem turn_lease_ok (hR : R.Ok) (T : Tn m t c e C E h s xu xs xa xp) (hle : StaLe s 2000000) (hE : EvIn E) {K : AVal → AHeap A → Prop}
    (hk : TK m t c e C E h (match pTake s.addrs E.address E.user with
      | some ps => if E.session = s.next ∧ (uAt s.users E.user).isSome = true ∧ (s.sess.length : Int) < C.sessions then some { s with addrs := ps, sess := s.sess ++ [⟨E.session, E.user, E.address, E.tick⟩], next := s.next + 1 } else none
      | none => none) K) : Tri Pr R n_state_turn_lease [.ptr t 0] h K := by
  have tt := T.tt
  have ee := T.ee
  have cc := T.cc
  unfold tCells at tt
  unfold Ev.row at ee
  unfold Cfg.row at cc
  have mt := T.mt
  have tl := T.tl
  obtain ⟨er, x', ps, hpt, hpa, hx'⟩ : ∃ (er : Int) (x' : AVal → Prop) (ps : List Adr), (pTake s.addrs E.address E.user = if er = 0 then some ps else none) ∧ (∀ K : AVal → AHeap A → Prop, ∀ h, (∀ y, x' y → K (.tup [y, .int .i64 er]) h) → pAns (pTake s.addrs E.address E.user) K h) ∧ (∀ y, x' y → y.scalar = true ∧ (er = 0 → IsFz Adr.row y ps)) := by
    cases hq : pTake s.addrs E.address E.user with
    | none => exact ⟨1600, fun y => y = .nils, [], rfl, fun K h hh => hh _ rfl, by rintro _ rfl; exact ⟨rfl, by simp⟩⟩
    | some ps => exact ⟨0, fun y => IsFz Adr.row y ps, ps, rfl, fun K h hh y hy => hh y hy, fun y hy => ⟨hy.sc, fun _ => hy⟩⟩
  apply c_state_turn_lease
  unfold p_state_turn_lease
  simp -implicitDefEqProofs [tt, ee, AObj.read]
  refine pool_Take_ok hR T.a hle.a _ _ (hpa _ _ fun y hy => ?_)
  obtain ⟨sy, fy⟩ := hx' y hy
  have cy := sc_cs sy
  have rdx := T.x.rd sesR
  simp -implicitDefEqProofs
  refine joinP_all (JL C E s er h) ?_ ?_
  · simp -implicitDefEqProofs [tt, ee, AObj.read]
    by_cases h1 : E.session = s.next
    case neg =>
      have h1' : (E.session != s.next) = true := by simpa using h1
      simp -implicitDefEqProofs [h1']
      exact ⟨by simp [leaseOk, h1], fun _ _ => rfl, Nat.le_refl _⟩
    have h1' : (E.session != s.next) = false := by simpa using h1
    simp -implicitDefEqProofs [h1', tt, ee, AObj.read]
    refine state_User_ok hR T.fldU T.rdU hle.u E.user (fun hu => ?_) (fun i p hu hp => ?_)
    · simp -implicitDefEqProofs
      exact ⟨by simp [leaseOk, hu], fun k hk => by rw [List.getElem?_append_left hk], by simp⟩
    · have hi : i < s.users.length := (List.findIdx?_eq_some_iff_getElem.1 hu).1
      obtain ⟨b, hb, hix, hat⟩ := T.u.el usrR hi
      obtain rfl := idx_uniq hp hix
      have T2 := T.move (h' := h ++ [.cells t_int [.int .i64 E.user]]) (fun k hk => by rw [List.getElem?_append_left hk])
      have tt2 := T2.tt
      have cc2 := T2.cc
      unfold tCells at tt2
      unfold Cfg.row at cc2
      simp -implicitDefEqProofs
      by_cases h2 : er = 0
      case neg =>
        have h2' : (er != 0) = true := by simpa using h2
        simp -implicitDefEqProofs [h2']
        exact ⟨by simp [leaseOk, h2], fun k hk => by rw [List.getElem?_append_left hk], by simp⟩
      have h2' : (er != 0) = false := by simpa using h2
      have ln := (T2.x.rd sesR).len
      simp -implicitDefEqProofs [h2', tt2, cc2, AObj.read, ln]
      refine ⟨?_, fun k hk => by rw [List.getElem?_append_left hk], by simp⟩
      congr 2
      simp only [leaseOk, h1, h2, hu]
      simp
      by_cases h3 : (s.sess.length : Int) < C.sessions
      · simp [h3]
      · simp [h3]; omega
  · rintro _ g ⟨rfl, hg, hlg⟩
    refine ⟨hlg, ?_⟩
    have T2 := T.move hg
    by_cases hok : leaseOk C E s er = true
    case neg =>
      have hok' : leaseOk C E s er = false := by simpa using hok
      simp -implicitDefEqProofs [hok']
      refine hk.1 ?_ g fun k hk => hg k (by omega)
      rw [hpt]
      by_cases h2 : er = 0
      · rw [if_pos h2]
        dsimp only
        rw [if_neg]
        rintro ⟨a, b, d⟩
        rw [leaseOk, a, b, h2] at hok'
        simp at hok'
        omega
      · rw [if_neg h2]
    simp only [leaseOk, Bool.and_eq_true, decide_eq_true_eq] at hok
    obtain ⟨⟨⟨k1, k2⟩, k3⟩, k4⟩ := hok
    have e1 : leaseOk C E s er = true := by simp [leaseOk, k1, k2, k3, k4]
    rw [hpt, if_pos k3] at hk
    dsimp only at hk
    rw [if_pos ⟨k1, k2, k4⟩] at hk
    have T3 := T2.nums (s' := { s with addrs := ps }) (xa' := y) rfl rfl rfl (fy k3)
    have tt2 := T2.tt
    have s1 := T.u.sc
    have s2 := T.x.sc
    have s3 := T.p.sc
    have s4 := T.a.sc
    unfold tCells at tt2
    simp -implicitDefEqProofs [e1, tt2, AObj.read, sy, cy]
    obtain ⟨g2, hg2⟩ : ∃ g2, g2 = g.set t (.cells t_state_turn (tCells c e { s with addrs := ps } xu xs y xp)) := ⟨_, rfl⟩
    have hg2' : g2 = g.set t (.cells t_state_turn [.ptr c 0, .int .i64 s.boots, .int .i64 s.epoch, .int .i64 s.next, xu, xs, y, xp, .ptr e 0]) := hg2
    rw [← hg2']
    rw [← hg2] at T3
    have lg2 : g.length = g2.length := by rw [hg2, List.length_set]
    have tt3 := T3.tt
    have ee3 := T3.ee
    unfold tCells at tt3
    unfold Ev.row at ee3
    have T4 := T3.move (h' := g2 ++ [.cells t_api_Session [.int .i64 E.session, .int .i64 E.user, .int .i64 E.address, .int .i64 E.tick]]) (fun k hk => by rw [List.getElem?_append_left hk])
    have tt4 := T4.tt
    unfold tCells at tt4
    simp -implicitDefEqProofs [tt3, ee3, tt4, AObj.read]
    refine app_own sesR (l2 := [⟨E.session, E.user, E.address, E.tick⟩]) T4.x (by omega) (by simp [srcOf, AObj.read, Ses.row, lg2]) (by have := hle.x; simp; omega) fun a' h' ho hf hl hb => ?_
    have T5 := T4.set_x ho hf hl hb
    have tl4 := T4.tl
    have tt5 := (hf t tl4 (fun h1 => (T4.bx t h1).2 rfl)).trans tt4
    have sa := ho.sc
    have ca := sc_cs sa
    have lt' : t < h'.length := by omega
    have r1 : ∀ o, (h'.set t o)[t]? = some o := fun o => List.getElem?_set_self lt'
    have w := w64 (n := s.next + 1) (by have := hE.session; omega)
    simp -implicitDefEqProofs [tt5, AObj.read, sa, ca, r1, w]
    have T6 := T5.nums (s' := { s with addrs := ps, sess := s.sess ++ [⟨E.session, E.user, E.address, E.tick⟩], next := s.next + 1 }) rfl rfl rfl T5.a
    rw [List.set_set] at T6
    refine hk.2 _ rfl xu a' y xp _ T6 fun k hk => ?_
    rw [List.getElem?_set_ne (by omega), hf k (by simp [hg2]; omega) (fun h1 => by have := (T.bx k h1).1; omega), List.getElem?_append_left (by simp [hg2]; omega), hg2, List.getElem?_set_ne (by omega)]
    exact hg k (by omega)
end Go.AI

/- States: a session is taken out; closes. -/
set_option linter.all false
namespace Go.AI
variable {A : Type} {R : Adts A}
variable {m t c e : Nat} {C : Cfg} {E : Ev} {h : AHeap A} {s : Sta} {xu xs xa xp : AVal}
theorem del_cells {α : Type} {f : α → List AVal} {w : Nat} (hf : RowOk f w) {l : List α} {cs : List AVal} {cap i : Nat} (hl : cs.length = cap * w) (hc : l.length ≤ cap) (ht : cs.take (l.length * w) = l.flatMap f) (hi : i < l.length) (z : List AVal) (hz : z.length = w) (hzi : ixs 0 z = true) (hx : ixs 0 cs = true) :
    (cs.drop ((i + 1) * w)).take ((l.length - (i + 1)) * w) = (l.drop (i + 1)).flatMap f ∧ (over cs (i * w) ((l.drop (i + 1)).flatMap f)).length = cap * w ∧
    (over (over cs (i * w) ((l.drop (i + 1)).flatMap f)) ((l.length - 1) * w) z).length = cap * w ∧
    (over (over cs (i * w) ((l.drop (i + 1)).flatMap f)) ((l.length - 1) * w) z).take ((l.length - 1) * w) = (l.eraseIdx i).flatMap f ∧
    ixs 0 (over (over cs (i * w) ((l.drop (i + 1)).flatMap f)) ((l.length - 1) * w) z) = true := by
  have hn : l.length * w ≤ cs.length := by rw [hl]; exact Nat.mul_le_mul_right w hc
  have h1 : (i + 1) * w ≤ l.length * w := Nat.mul_le_mul_right w hi
  have e0 : (l.length - (i + 1)) * w + (i + 1) * w = l.length * w := by rw [← Nat.add_mul]; congr 1; omega
  have e1 : (l.length - 1) * w + w = l.length * w := by rw [← Nat.succ_mul]; congr 1; omega
  have e2 : i * w + (l.length - (i + 1)) * w = (l.length - 1) * w := by rw [← Nat.add_mul]; congr 1; omega
  have a1 : (cs.drop ((i + 1) * w)).take ((l.length - (i + 1)) * w) = (l.drop (i + 1)).flatMap f := by
    have : l.length * w - (i + 1) * w = (l.length - (i + 1)) * w := by omega
    rw [← this, ← List.drop_take, ht, rows_dropn hf]
  have a2 : cs.take (i * w) = (l.take i).flatMap f := by
    have : cs.take (i * w) = (cs.take (l.length * w)).take (i * w) := by rw [List.take_take, Nat.min_eq_left (by have := Nat.mul_le_mul_right w (Nat.le_of_lt hi); omega)]
    rw [this, ht, rows_taken hf]
  have a3 : ((l.drop (i + 1)).flatMap f).length = (l.length - (i + 1)) * w := by rw [rows_len hf, List.length_drop]
  have a4 : over cs (i * w) ((l.drop (i + 1)).flatMap f) = (l.eraseIdx i).flatMap f ++ cs.drop ((l.length - 1) * w) := by
    unfold over
    rw [a2, a3, e2, List.eraseIdx_eq_take_drop_succ, List.flatMap_append]
  have a5 : ((l.eraseIdx i).flatMap f).length = (l.length - 1) * w := by rw [rows_len hf, List.length_eraseIdx, if_pos hi]
  have a6 : (over cs (i * w) ((l.drop (i + 1)).flatMap f)).length = cap * w := by rw [a4, List.length_append, a5, List.length_drop, hl]; omega
  have a7 : over (over cs (i * w) ((l.drop (i + 1)).flatMap f)) ((l.length - 1) * w) z = (l.eraseIdx i).flatMap f ++ z ++ cs.drop (l.length * w) := by
    rw [a4]
    unfold over
    rw [← a5, List.take_left, List.drop_append, List.drop_of_length_le (by omega), a5, hz, List.nil_append, List.drop_drop]
    congr 2
    omega
  refine ⟨a1, a6, ?_, ?_, ?_⟩
  · rw [a7, List.length_append, List.length_append, a5, hz, List.length_drop, hl]; omega
  · rw [a7, List.append_assoc, ← a5, List.take_left]
  · rw [a7, ixs_all, List.all_append, List.all_append, Bool.and_eq_true, Bool.and_eq_true]
    rw [ixs_all, List.all_eq_true] at hx
    rw [ixs_all] at hzi
    refine ⟨⟨?_, hzi⟩, List.all_eq_true.2 fun y hy => hx y (List.mem_of_mem_drop hy)⟩
    rw [← ixs_all]; exact rows_ix hf _
theorem Delete_Session_ok {a : AVal} {l : List Ses} {h : AHeap A} (ha : Own Ses.row 4 t_api_Session a l h) {i : Nat} (hi : i < l.length) (hn : l.length ≤ 2000000) {K : AVal → AHeap A → Prop}
    (hk : ∀ a' h', Own Ses.row 4 t_api_Session a' (l.eraseIdx i) h' → (∀ k, a.blk ≠ some k → h'[k]? = h[k]?) → h'.length = h.length → a'.blk = a.blk → K a' h') : Tri Pr R n_slices_Delete_api_Session [a, .int .i64 i, .int .i64 ((i : Int) + 1)] h K := by
  rcases ha with ⟨rfl, rfl⟩ | ⟨b, cap, ex, cs, rfl, hb, hl, hc, ht, hx⟩
  · simp at hi
  have hblt := (List.getElem?_eq_some_iff.1 hb).1
  obtain ⟨d1, d2, d3, d4, d5⟩ := del_cells sesR hl hc ht hi [.int .i64 0, .int .i64 0, .int .i64 0, .int .i64 0] rfl rfl hx
  have hlen : (l.eraseIdx i).length = l.length - 1 := by rw [List.length_eraseIdx, if_pos hi]
  apply c_slices_Delete_api_Session
  unfold p_slices_Delete_api_Session
  have r1 : ∀ K, rslP 4 (.sl b 0 l.length cap ex) (some (.int .i64 i)) (some (.int .i64 ((i : Int) + 1))) (some (.int .i64 l.length)) K = K (.sl b (0 + i * 4) ((i : Int) + 1 - i).toNat ((l.length : Int) - i).toNat (ex || true)) := by
    intro K
    simp only [rslP, bnd]
    rw [if_pos (by omega), if_pos (by omega)]
    simp
  have r2 : ∀ K, rslP 4 (.sl b 0 l.length cap ex) none (some (.int .i64 i)) none K = K (.sl b 0 i cap ex) := by
    intro K
    simp only [rslP, bnd]
    rw [if_pos (by omega), if_pos (by omega)]
    simp
  have r3 : ∃ y, (∀ K, rslP 4 (.sl b 0 l.length cap ex) (some (.int .i64 ((i : Int) + 1))) none none K = K y) ∧ srcOf 4 h y = some (l.length - (i + 1), (l.drop (i + 1)).flatMap Ses.row) := by
    have hca : cellsAt h b = some cs := by simp [cellsAt, hb, AObj.read]
    by_cases h1 : i + 1 < cap
    · refine ⟨.sl b (0 + (i + 1) * 4) (l.length - (i + 1)) (cap - (i + 1)) ex, fun K => ?_, ?_⟩
      · simp only [rslP, bnd]
        rw [if_pos (by omega), if_pos (by omega)]
        congr 1
        simp
        omega
      · simp only [srcOf, hca, Nat.zero_add]
        rw [if_pos (by omega), d1]
    · have h2 : l.length = i + 1 := by omega
      have h3 : cap = i + 1 := by omega
      have h4 : l.drop (i + 1) = [] := List.drop_eq_nil_iff.2 (by omega)
      by_cases h5 : ex = true
      · refine ⟨.sl b 0 0 0 true, fun K => ?_, ?_⟩
        · simp only [rslP, bnd]
          rw [if_pos (by omega), if_neg (by omega), h5]
          rfl
        · simp only [srcOf, hca]
          rw [if_pos (by omega), h4, h2]
          simp
      · refine ⟨.empt b 0 ((i + 1) * 4), fun K => ?_, ?_⟩
        · simp only [rslP, bnd]
          rw [if_pos (by omega), if_neg (by omega)]
          simp [h5]
        · simp [srcOf, h4, h2]
  obtain ⟨y, hy, hs⟩ := r3
  have hne : ((i : Int) == (i : Int) + 1) = false := by simp; omega
  simp -implicitDefEqProofs [r1, hne, r2, hy]
  have hset : setAt h b (0 + i * 4) ((l.drop (i + 1)).flatMap Ses.row) = some (h.set b (.cells t_api_Session (over cs (i * 4) ((l.drop (i + 1)).flatMap Ses.row)))) := by
    unfold setAt
    rw [hb]
    dsimp only
    rw [if_pos ⟨by rw [rows_len sesR, List.length_drop, hl]; omega, rows_sc sesR _⟩, Nat.zero_add]
  have happ : ∀ K : AVal → AHeap A → Prop, appP t_api_Session 4 32 (.sl b 0 i cap ex) y h K = K (.sl b 0 (l.length - 1) cap ex) (h.set b (.cells t_api_Session (over cs (i * 4) ((l.drop (i + 1)).flatMap Ses.row)))) := by
    intro K
    unfold appP appV
    rw [hs]
    dsimp only
    rw [if_pos (by omega), hset]
    simp only [Option.map_some, optH]
    congr 2
    omega
  rw [happ]
  obtain ⟨cs1, hc1⟩ : ∃ cs1, cs1 = over cs (i * 4) ((l.drop (i + 1)).flatMap Ses.row) := ⟨_, rfl⟩
  rw [← hc1] at d2 d3 d4 d5 ⊢
  have r4 : ∀ K, rslP 4 (.sl b 0 (l.length - 1) cap ex) (some (.int .i64 ((l.length - 1 : Nat) : Int))) (some (.int .i64 l.length)) none K = K (.sl b ((l.length - 1) * 4) 1 (cap - (l.length - 1)) ex) := by
    intro K
    simp only [rslP, bnd]
    rw [if_pos (by omega), if_pos (by omega)]
    congr 1
    simp only [AVal.sl.injEq, Nat.zero_add, Int.toNat_natCast, true_and, Option.isSome_none, Bool.or_false, and_true]
    omega
  simp -implicitDefEqProofs [r4]
  have hset2 : setAt (h.set b (.cells t_api_Session cs1)) b ((l.length - 1) * 4) [.int .i64 0, .int .i64 0, .int .i64 0, .int .i64 0] = some (h.set b (.cells t_api_Session (over cs1 ((l.length - 1) * 4) [.int .i64 0, .int .i64 0, .int .i64 0, .int .i64 0]))) := by
    unfold setAt
    rw [List.getElem?_set_self hblt]
    dsimp only
    rw [if_pos ⟨by rw [d2]; simp; omega, rfl⟩, List.set_set]
  have hclr : ∀ K : AHeap A → Prop, clrP 4 [.int .i64 0, .int .i64 0, .int .i64 0, .int .i64 0] (.sl b ((l.length - 1) * 4) 1 (cap - (l.length - 1)) ex) (h.set b (.cells t_api_Session cs1)) K = K (h.set b (.cells t_api_Session (over cs1 ((l.length - 1) * 4) [.int .i64 0, .int .i64 0, .int .i64 0, .int .i64 0]))) := by
    intro K
    unfold clrP
    dsimp only
    rw [if_neg (by omega), if_pos (show ([.int .i64 0, .int .i64 0, .int .i64 0, .int .i64 0] : List AVal).length = 4 from rfl)]
    simp only [List.replicate_one, List.flatten_cons, List.flatten_nil, List.append_nil]
    rw [hset2]
    rfl
  rw [hclr]
  refine hk _ _ (.inr ⟨b, cap, ex, _, by rw [hlen], List.getElem?_set_self hblt, d3, by rw [hlen]; omega, by rw [hlen]; exact d4, d5⟩) (fun k hk => by rw [List.getElem?_set_ne (fun h => hk (by rw [h]; rfl))]) (by simp) rfl
end Go.AI

/- States: slices.IndexFunc whose predicate leaves something in memory. -/
set_option linter.all false
namespace Go.AI
variable {A : Type} {R : Adts A}
variable {m t c e : Nat} {C : Cfg} {E : Ev} {s : Sta} {xu xs xa xp : AVal}
def IxI_Usr (l : List Usr) (q : Usr → Bool) (h : AHeap A) (mm : Nat) (y : List AVal) (g : AHeap A) : Prop :=
  ∃ (i : Nat) (g0 : AHeap A), y = [.int .i64 i] ∧ g = h ++ g0 ∧ i ≤ l.length ∧ (∀ j (hj : j < l.length), j < i → q l[j] = false) ∧ mm = l.length - i
theorem IndexFunc_api_User_ext (hR : R.Ok) {a : AVal} {l : List Usr} {h : AHeap A} (ha : ∀ g : AHeap A, RdS Usr.row 9 a l (h ++ g)) (hn : l.length ≤ 2000000) {f : FuncId} {cap : List AVal} (ho : callOk Pr f = true) (q : Usr → Bool)
    (hq : ∀ u ∈ l, ∀ (g : AHeap A) (K : AVal → AHeap A → Prop), (∀ g', K (.bool (q u)) (h ++ g')) → Tri Pr R f ([] ++ ([.agg u.row] ++ cap)) (h ++ g) K) {K : AVal → AHeap A → Prop} (hk : ∀ g, K (.int .i64 (idx1 (l.findIdx? q))) (h ++ g)) : Tri Pr R n_slices_IndexFunc_api_User [a, .fn (.func f) [] cap] h K := by
  have ha0 := ha []
  rw [List.append_nil] at ha0
  apply c_slices_IndexFunc_api_User
  unfold p_slices_IndexFunc_api_User
  simp -implicitDefEqProofs [ha0.len]
  refine loopP_go (IxI_Usr l q h) l.length (Gives.done (Nat.le_refl _) ⟨0, [], rfl, by simp, by omega, fun j _ hj => by omega, by omega⟩) ?_
  rintro m y g2 ⟨i, g0, rfl, rfl, hi, hb, rfl⟩
  have e1 := w64 (n := (i : Int) + 1) (by omega)
  by_cases h1 : i < l.length
  · obtain ⟨p, hp, hat⟩ := (ha g0).get i h1
    have hall : ldV 9 true p (h ++ g0) = some (.agg l[i].row) := hat.all
    simp -implicitDefEqProofs [h1, hp, hall]
    with_reducible refine dynP_go ho ?_
    refine hq l[i] (List.getElem_mem h1) _ _ fun g' => ?_
    by_cases h2 : q l[i] = true
    · simp -implicitDefEqProofs [h2]
      have : l.findIdx? q = some i := by
        rw [List.findIdx?_eq_some_iff_getElem]
        exact ⟨h1, h2, fun j hj => by simp [hb j (by omega) hj]⟩
      have hk2 := hk g'
      rw [this] at hk2
      exact hk2
    · have h2 : q l[i] = false := by simpa using h2
      simp -implicitDefEqProofs [h2, e1]
      refine Gives.done (by simp) ⟨l.length - (i + 1), by omega, i + 1, g', by simp, rfl, by omega, fun j hj hji => ?_, rfl⟩
      by_cases hj2 : j = i
      · subst hj2; exact h2
      · exact hb j hj (by omega)
  · simp -implicitDefEqProofs [h1]
    have : l.findIdx? q = none := by
      rw [List.findIdx?_eq_none_iff]
      intro x hx
      obtain ⟨j, hj, rfl⟩ := List.mem_iff_getElem.1 hx
      exact hb j hj (by omega)
    have hk2 := hk g0
    rw [this] at hk2
    exact hk2
def IxI_Ses (l : List Ses) (q : Ses → Bool) (h : AHeap A) (mm : Nat) (y : List AVal) (g : AHeap A) : Prop :=
  ∃ (i : Nat) (g0 : AHeap A), y = [.int .i64 i] ∧ g = h ++ g0 ∧ i ≤ l.length ∧ (∀ j (hj : j < l.length), j < i → q l[j] = false) ∧ mm = l.length - i
theorem IndexFunc_api_Session_ext (hR : R.Ok) {a : AVal} {l : List Ses} {h : AHeap A} (ha : ∀ g : AHeap A, RdS Ses.row 4 a l (h ++ g)) (hn : l.length ≤ 2000000) {f : FuncId} {cap : List AVal} (ho : callOk Pr f = true) (q : Ses → Bool)
    (hq : ∀ u ∈ l, ∀ (g : AHeap A) (K : AVal → AHeap A → Prop), (∀ g', K (.bool (q u)) (h ++ g')) → Tri Pr R f ([] ++ ([.agg u.row] ++ cap)) (h ++ g) K) {K : AVal → AHeap A → Prop} (hk : ∀ g, K (.int .i64 (idx1 (l.findIdx? q))) (h ++ g)) : Tri Pr R n_slices_IndexFunc_api_Session [a, .fn (.func f) [] cap] h K := by
  have ha0 := ha []
  rw [List.append_nil] at ha0
  apply c_slices_IndexFunc_api_Session
  unfold p_slices_IndexFunc_api_Session
  simp -implicitDefEqProofs [ha0.len]
  refine loopP_go (IxI_Ses l q h) l.length (Gives.done (Nat.le_refl _) ⟨0, [], rfl, by simp, by omega, fun j _ hj => by omega, by omega⟩) ?_
  rintro m y g2 ⟨i, g0, rfl, rfl, hi, hb, rfl⟩
  have e1 := w64 (n := (i : Int) + 1) (by omega)
  by_cases h1 : i < l.length
  · obtain ⟨p, hp, hat⟩ := (ha g0).get i h1
    have hall : ldV 4 true p (h ++ g0) = some (.agg l[i].row) := hat.all
    simp -implicitDefEqProofs [h1, hp, hall]
    with_reducible refine dynP_go ho ?_
    refine hq l[i] (List.getElem_mem h1) _ _ fun g' => ?_
    by_cases h2 : q l[i] = true
    · simp -implicitDefEqProofs [h2]
      have : l.findIdx? q = some i := by
        rw [List.findIdx?_eq_some_iff_getElem]
        exact ⟨h1, h2, fun j hj => by simp [hb j (by omega) hj]⟩
      have hk2 := hk g'
      rw [this] at hk2
      exact hk2
    · have h2 : q l[i] = false := by simpa using h2
      simp -implicitDefEqProofs [h2, e1]
      refine Gives.done (by simp) ⟨l.length - (i + 1), by omega, i + 1, g', by simp, rfl, by omega, fun j hj hji => ?_, rfl⟩
      by_cases hj2 : j = i
      · subst hj2; exact h2
      · exact hb j hj (by omega)
  · simp -implicitDefEqProofs [h1]
    have : l.findIdx? q = none := by
      rw [List.findIdx?_eq_none_iff]
      intro x hx
      obtain ⟨j, hj, rfl⟩ := List.mem_iff_getElem.1 hx
      exact hb j hj (by omega)
    have hk2 := hk g0
    rw [this] at hk2
    exact hk2
theorem turn_closes_c1_ok (hR : R.Ok) (u : Ses) {h : AHeap A} (T : Tn m t c e C E h s xu xs xa xp) {bx : Nat} (hb : h[bx]? = some (.cells t_p_state_turn [.ptr t 0])) (g : AHeap A) {K : AVal → AHeap A → Prop} (hk : ∀ g', K (.bool (decide (u.session = E.session))) (h ++ g')) : Tri Pr R n_state_turn_closes_c1 [.agg u.row, .ptr bx 0] (h ++ g) K := by
  have T2 := T.move (h' := h ++ (g ++ [.cells t_api_Session u.row])) (fun k hk => by rw [List.getElem?_append_left hk])
  have tt2 := T2.tt
  have ee2 := T2.ee
  have hb2 : (h ++ (g ++ [.cells t_api_Session u.row]) : AHeap A)[bx]? = some (.cells t_p_state_turn [.ptr t 0]) := get_app hb
  have e0 : (h ++ (g ++ [.cells t_api_Session u.row]) : AHeap A)[h.length + g.length]? = some (.cells t_api_Session u.row) := by rw [List.getElem?_append_right (by omega), List.getElem?_append_right (by omega)]; simp
  unfold tCells at tt2
  unfold Ev.row at ee2
  unfold Ses.row at tt2 ee2 hb2 e0
  apply c_state_turn_closes_c1
  unfold p_state_turn_closes_c1
  unfold Ses.row
  simp -implicitDefEqProofs [tt2, ee2, hb2, e0, AObj.read]
  have := hk (g ++ [.cells t_api_Session u.row])
  unfold Ses.row at this
  exact this
theorem turn_user_c1_ok (hR : R.Ok) (u : Usr) {h : AHeap A} (T : Tn m t c e C E h s xu xs xa xp) {bx : Nat} (hb : h[bx]? = some (.cells t_p_state_turn [.ptr t 0])) (g : AHeap A) {K : AVal → AHeap A → Prop} (hk : ∀ g', K (.bool (decide (u.user > E.user))) (h ++ g')) : Tri Pr R n_state_turn_user_c1 [.agg u.row, .ptr bx 0] (h ++ g) K := by
  have T2 := T.move (h' := h ++ (g ++ [.cells t_api_User u.row])) (fun k hk => by rw [List.getElem?_append_left hk])
  have tt2 := T2.tt
  have ee2 := T2.ee
  have hb2 : (h ++ (g ++ [.cells t_api_User u.row]) : AHeap A)[bx]? = some (.cells t_p_state_turn [.ptr t 0]) := get_app hb
  have e0 : (h ++ (g ++ [.cells t_api_User u.row]) : AHeap A)[h.length + g.length]? = some (.cells t_api_User u.row) := by rw [List.getElem?_append_right (by omega), List.getElem?_append_right (by omega)]; simp
  unfold tCells at tt2
  unfold Ev.row at ee2
  unfold Usr.row at tt2 ee2 hb2 e0
  apply c_state_turn_user_c1
  unfold p_state_turn_user_c1
  unfold Usr.row
  simp -implicitDefEqProofs [tt2, ee2, hb2, e0, AObj.read]
  have := hk (g ++ [.cells t_api_User u.row])
  unfold Usr.row at this
  exact this
end Go.AI

/- States: closes. -/
set_option linter.all false
namespace Go.AI
variable {A : Type} {R : Adts A}
variable {m t c e : Nat} {C : Cfg} {E : Ev} {h : AHeap A} {s : Sta} {xu xs xa xp : AVal}
/-- How far a close came: its address let free. -/
def JC1 (m t c e : Nat) (C : Cfg) (E : Ev) (h : AHeap A) (s : Sta) (xu xs xp : AVal) (k : Option Nat) (bx L : Nat) (vs : List AVal) (g : AHeap A) : Prop :=
  (vs = [.bool true] ∧ (∀ i, i < m → g[i]? = h[i]?) ∧ L ≤ g.length ∧ ∀ i, k = some i → pFree s.addrs (s.sess.getD i ses0).address E.tick = none) ∨
  ∃ (i : Nat) (ps : List Adr) (xa : AVal), vs = [.bool false] ∧ k = some i ∧ i < s.sess.length ∧ pFree s.addrs (s.sess.getD i ses0).address E.tick = some ps ∧ Tn m t c e C E g { s with addrs := ps } xu xs xa xp ∧ (∀ i, i < m → g[i]? = h[i]?) ∧ L ≤ g.length ∧ g[bx]? = some (.cells t_p_state_turn [.ptr t 0])
def sesUsed (s : Sta) (i : Nat) (a : Int) : List Usr :=
  match uAt s.users (s.sess.getD i ses0).user with
  | some j => s.users.set j { s.users.getD j usr0 with used := sum (s.users.getD j usr0).used a }
  | none => s.users
def JC2 (m t c e : Nat) (C : Cfg) (E : Ev) (h : AHeap A) (s : Sta) (ps : List Adr) (i : Nat) (xu xs xa xp : AVal) (bx L : Nat) (vs : List AVal) (g : AHeap A) : Prop :=
  vs = [] ∧ Tn m t c e C E g { s with addrs := ps, users := sesUsed s i E.a } xu xs xa xp ∧ (∀ i, i < m → g[i]? = h[i]?) ∧ L ≤ g.length ∧ g[bx]? = some (.cells t_p_state_turn [.ptr t 0])
theorem usr_get {l : List Usr} {i : Nat} (hi : i < l.length) : l.getD i usr0 = l[i] := by rw [List.getD_eq_getElem?_getD, List.getElem?_eq_getElem hi]; rfl
theorem ses_get {l : List Ses} {i : Nat} (hi : i < l.length) : l.getD i ses0 = l[i] := by rw [List.getD_eq_getElem?_getD, List.getElem?_eq_getElem hi]; rfl
theorem turn_closes_ok (hR : R.Ok) (T : Tn m t c e C E h s xu xs xa xp) (hle : StaLe s 2000000) (hE : EvIn E) (hU : ∀ u ∈ s.users, -9223372036854775808 ≤ u.used) {K : AVal → AHeap A → Prop}
    (hk : TK m t c e C E h (match xAt s.sess E.session with
      | some k => match pFree s.addrs (s.sess.getD k ses0).address E.tick with
        | some ps => some { s with addrs := ps, sess := s.sess.eraseIdx k, users := sesUsed s k E.a }
        | none => none
      | none => none) K) : Tri Pr R n_state_turn_closes [.ptr t 0] h K := by
  have mt := T.mt
  have tl := T.tl
  have T1 := T.move (h' := h ++ [.cells t_p_state_turn [.ptr t 0]]) (fun k hk => by rw [List.getElem?_append_left hk])
  have tt1 := T1.tt
  unfold tCells at tt1
  have bx1 : (h ++ [.cells t_p_state_turn [.ptr t 0]] : AHeap A)[h.length]? = some (.cells t_p_state_turn [.ptr t 0]) := by simp
  apply c_state_turn_closes
  unfold p_state_turn_closes
  simp -implicitDefEqProofs [tt1, AObj.read]
  refine IndexFunc_api_Session_ext hR (fun g => (T1.move (h' := (h ++ [.cells t_p_state_turn [.ptr t 0]]) ++ g) (fun k hk => by rw [List.getElem?_append_left hk])).x.rd sesR) hle.x (by kernel_rfl) (fun x => decide (x.session = E.session)) (fun u _ g K hK => turn_closes_c1_ok hR u T1 bx1 g hK) fun g1 => ?_
  obtain ⟨h1, hh1⟩ : ∃ h1 : AHeap A, h1 = (h ++ [.cells t_p_state_turn [.ptr t 0]]) ++ g1 := ⟨_, rfl⟩
  have T2 : Tn m t c e C E h1 s xu xs xa xp := T1.move (fun k hk => by rw [hh1, List.getElem?_append_left hk])
  have bx2 : h1[h.length]? = some (.cells t_p_state_turn [.ptr t 0]) := by rw [hh1]; exact get_app bx1
  have kp2 : ∀ k, k < h.length → h1[k]? = h[k]? := fun k hk => by rw [hh1, List.append_assoc, List.getElem?_append_left hk]
  have hl2 : h.length ≤ h1.length := by rw [hh1]; simp
  rw [← hh1]
  have tt2 := T2.tt
  have ee2 := T2.ee
  unfold tCells at tt2
  unfold Ev.row at ee2
  rw [show (s.sess.findIdx? fun x => decide (x.session = E.session)) = xAt s.sess E.session from rfl]
  simp -implicitDefEqProofs
  refine joinP_all (JC1 m t c e C E h s xu xs xp (xAt s.sess E.session) h.length h1.length) ?_ ?_
  · cases hx : xAt s.sess E.session with
    | none =>
      simp -implicitDefEqProofs [idx1]
      exact .inl ⟨rfl, fun i hi => kp2 i (by omega), Nat.le_refl _, by simp⟩
    | some i =>
      have hi : i < s.sess.length := (List.findIdx?_eq_some_iff_getElem.1 hx).1
      have n0 : ¬ ((i : Int) < 0) := by omega
      obtain ⟨p, hp, hat⟩ := (T2.x.rd sesR).get i hi
      have c2 := hat.cell 2 (by simp [Ses.row])
      simp only [Ses.row, List.getElem_cons_succ, List.getElem_cons_zero] at c2
      have eg := ses_get hi
      simp -implicitDefEqProofs [idx1, n0, bx2, tt2, ee2, AObj.read, hp, hat.fad, c2]
      refine turn_free_ok hR T2 hle.a _ _ (fun hn => ?_) (fun l xa' hn T3 => ?_)
      · simp -implicitDefEqProofs
        exact .inl ⟨rfl, fun i hi => kp2 i (by omega), Nat.le_refl _, fun j hj => by simp at hj; subst hj; rw [eg]; exact hn⟩
      · simp -implicitDefEqProofs
        refine .inr ⟨i, l, xa', rfl, rfl, hi, by rw [eg]; exact hn, T3, fun k hk => ?_, by simp, ?_⟩
        · rw [List.getElem?_set_ne (by omega)]; exact kp2 k (by omega)
        · rw [List.getElem?_set_ne (by omega)]; exact bx2
  · rintro _ g (⟨rfl, hg, hlg, hno⟩ | ⟨i, ps, xa2, rfl, hx, hi, hfr, T4, hg, hlg, bx4⟩)
    · refine ⟨hlg, ?_⟩
      simp -implicitDefEqProofs
      refine hk.1 ?_ g hg
      cases hx : xAt s.sess E.session with
      | none => rfl
      | some i => dsimp only; rw [hno i hx]
    · refine ⟨hlg, ?_⟩
      rw [hx] at hk ⊢
      dsimp only at hk
      rw [hfr] at hk
      dsimp only at hk
      have tt4 := T4.tt
      have ee4 := T4.ee
      unfold tCells at tt4
      unfold Ev.row at ee4
      have eg := ses_get hi
      have n0 : ¬ ((i : Int) < 0) := by omega
      simp -implicitDefEqProofs [idx1]
      refine joinP_all (JC2 m t c e C E h s ps i xu xs xa2 xp h.length g.length) ?_ ?_
      · obtain ⟨p, hp, hat⟩ := (T4.x.rd sesR).get i hi
        have c1 := hat.cell 1 (by simp [Ses.row])
        simp only [Ses.row, List.getElem_cons_succ, List.getElem_cons_zero] at c1
        simp -implicitDefEqProofs [bx4, tt4, AObj.read, hp, hat.fad, c1]
        refine state_User_ok hR T4.fldU T4.rdU hle.u _ (fun hu => ?_) (fun j p2 hu hp2 => ?_)
        · have T5 := T4.move (h' := g ++ [.cells t_int [.int .i64 s.sess[i].user]]) (fun k hk => by rw [List.getElem?_append_left hk])
          simp -implicitDefEqProofs
          refine ⟨rfl, ?_, fun k hk => ?_, by simp, get_app bx4⟩
          · have : sesUsed s i E.a = s.users := by unfold sesUsed; rw [eg]; rw [show uAt s.users s.sess[i].user = none from hu]
            rw [this]; exact T5
          · rw [List.getElem?_append_left (by omega)]; exact hg k hk
        · have hj : j < s.users.length := (List.findIdx?_eq_some_iff_getElem.1 hu).1
          obtain ⟨b, hb, hix, _⟩ := T4.u.el usrR hj
          obtain rfl := idx_uniq hp2 hix
          have T5 := T4.move (h' := g ++ [.cells t_int [.int .i64 s.sess[i].user]]) (fun k hk => by rw [List.getElem?_append_left hk])
          have tt5 := T5.tt
          have ee5 := T5.ee
          unfold tCells at tt5
          unfold Ev.row at ee5
          have bx5 : (g ++ [.cells t_int [.int .i64 s.sess[i].user]] : AHeap A)[h.length]? = some (.cells t_p_state_turn [.ptr t 0]) := get_app bx4
          obtain ⟨b', hb', _, hat5⟩ := T5.u.el usrR hj
          obtain rfl : b = b' := by rw [hb] at hb'; simpa using hb'
          have r4 := hat5.cell 4 (by simp [Usr.row])
          have r4 : (((g ++ [.cells t_int [.int .i64 s.sess[i].user]] : AHeap A)[b]?.bind AObj.read).bind fun cs => cs[j * 9 + 4]?) = some (.int .i64 s.users[j].used) := by
            simpa [AVal.fad, Usr.row] using r4
          have w1 := w64 (n := 1073741823 - E.a) (by have := hE.a; omega)
          have huj := hU s.users[j] (List.getElem_mem hj)
          have esu : ∀ v, v = sum s.users[j].used E.a → sesUsed s i E.a = s.users.set j { s.users[j] with used := v } := by
            intro v hv
            unfold sesUsed
            rw [eg, show uAt s.users s.sess[i].user = some j from hu]
            dsimp only
            rw [usr_get hj, hv]
          have fin : ∀ (v : Int) (h6 : AHeap A), v = sum s.users[j].used E.a → Own Usr.row 9 t_api_User xu (s.users.set j { s.users[j] with used := v }) h6 → (∀ k, k ≠ b → h6[k]? = (g ++ [.cells t_int [.int .i64 s.sess[i].user]] : AHeap A)[k]?) → h6.length = (g ++ [.cells t_int [.int .i64 s.sess[i].user]] : AHeap A).length → JC2 m t c e C E h s ps i xu xs xa2 xp h.length g.length [] h6 := by
            intro v h6 hv o1 o2 o3
            have T6 := T5.put_u o1 hb (fun k _ hkb => o2 k hkb)
            rw [← esu v hv] at T6
            have mb := (T5.bu b hb).1
            refine ⟨rfl, T6, fun k hk => ?_, by rw [o3]; simp, ?_⟩
            · rw [o2 k (by omega), List.getElem?_append_left (by omega)]; exact hg k hk
            · have hbx : h.length ≠ b := by
                intro hc
                have := T5.u.at hb
                rw [← hc, bx5] at this
                obtain ⟨cs, hcs⟩ := this
                simp only [Option.some.injEq, AObj.cells.injEq] at hcs
                exact absurd hcs.1 (by decide)
              rw [o2 _ hbx]; exact bx5
          simp -implicitDefEqProofs [bx5, tt5, ee5, AObj.read, r4, w1]
          by_cases h9 : 1073741823 - E.a < s.users[j].used
          · have h9' : s.users[j].used > 1073741823 - E.a := h9
            simp -implicitDefEqProofs [h9']
            refine T5.u.sth usrR hj hb (off := 4) { s.users[j] with used := 1073741823 } rfl (by simp) rfl rfl fun h6 o1 o2 o3 => ?_
            exact fin 1073741823 h6 (by unfold sum; rw [if_pos h9]) o1 o2 o3
          · have h9' : ¬ s.users[j].used > 1073741823 - E.a := h9
            have w2 := w64 (n := s.users[j].used + E.a) (by have := hE.a; omega)
            simp -implicitDefEqProofs [h9', bx5, tt5, ee5, AObj.read, r4, w2]
            refine T5.u.sth usrR hj hb (off := 4) { s.users[j] with used := s.users[j].used + E.a } rfl (by simp) rfl rfl fun h6 o1 o2 o3 => ?_
            exact fin _ h6 (by unfold sum; rw [if_neg h9]) o1 o2 o3
      · rintro _ g5 ⟨rfl, T5, hg5, hlg5, bx5⟩
        refine ⟨hlg5, ?_⟩
        have tt5 := T5.tt
        unfold tCells at tt5
        have w3 := w64 (n := (i : Int) + 1) (by have := hle.x; omega)
        simp -implicitDefEqProofs [w3, bx5, tt5, AObj.read]
        refine Delete_Session_ok T5.x hi hle.x fun a' h6 o6 f6 l6 b6 => ?_
        have tl5 := T5.tl
        have T6 := T5.set_x o6 (fun k _ hk => f6 k hk) (by omega) (fun b hb => .inl (by rw [← b6]; exact hb))
        have tt6 := (f6 t (fun h1 => (T5.bx t h1).2 rfl)).trans tt5
        have bx6 : h6[h.length]? = some (.cells t_p_state_turn [.ptr t 0]) := by
          rw [f6 _ (fun h1 => ?_)]; exact bx5
          obtain ⟨cs, hcs⟩ := T5.x.at h1
          rw [bx5] at hcs
          simp only [Option.some.injEq, AObj.cells.injEq] at hcs
          exact absurd hcs.1 (by decide)
        have sa := o6.sc
        have ca := sc_cs sa
        simp -implicitDefEqProofs [bx6, tt6, AObj.read, sa, ca]
        refine hk.2 _ rfl xu a' xa2 xp _ T6 fun k hk => ?_
        rw [List.getElem?_set_ne (by omega), f6 k (fun h1 => by have := (T.bx k h1).1; omega)]
        exact hg5 k hk
end Go.AI

/- States: a user is put into its row (slices.Insert). -/
set_option linter.all false
namespace Go.AI
variable {A : Type} {R : Adts A}
theorem ins_cells {α : Type} {f : α → List AVal} {w : Nat} (hf : RowOk f w) {l : List α} {cs : List AVal} {cap i : Nat} (x : α) (hl : cs.length = cap * w) (hc : l.length + 1 ≤ cap) (ht : cs.take (l.length * w) = l.flatMap f) (hi : i < l.length) (hx : ixs 0 cs = true) :
    ((cs.drop (i * w)).take ((l.length + 1 - i) * w)).take ((l.length - i) * w) = (l.drop i).flatMap f ∧
    (over cs ((i + 1) * w) ((l.drop i).flatMap f)).length = cap * w ∧
    (over (over cs ((i + 1) * w) ((l.drop i).flatMap f)) (i * w) (f x)).length = cap * w ∧
    (over (over cs ((i + 1) * w) ((l.drop i).flatMap f)) (i * w) (f x)).take ((l.length + 1) * w) = (l.take i ++ x :: l.drop i).flatMap f ∧
    ixs 0 (over (over cs ((i + 1) * w) ((l.drop i).flatMap f)) (i * w) (f x)) = true := by
  have hn : (l.length + 1) * w ≤ cs.length := by rw [hl]; exact Nat.mul_le_mul_right w hc
  have s0 : (l.length + 1) * w = l.length * w + w := Nat.succ_mul _ _
  have s1 : (i + 1) * w = i * w + w := Nat.succ_mul _ _
  have e1 : i * w + (l.length - i) * w = l.length * w := by rw [← Nat.add_mul]; congr 1; omega
  have e2 : (l.length + 1 - i) * w = (l.length - i) * w + w := by rw [← Nat.succ_mul]; congr 1; omega
  have a3 : ((l.drop i).flatMap f).length = (l.length - i) * w := by rw [rows_len hf, List.length_drop]
  have a2 : cs.take (i * w) = (l.take i).flatMap f := by
    have : cs.take (i * w) = (cs.take (l.length * w)).take (i * w) := by rw [List.take_take, Nat.min_eq_left (by omega)]
    rw [this, ht, rows_taken hf]
  have a1 : (cs.drop (i * w)).take ((l.length - i) * w) = (l.drop i).flatMap f := by
    have : l.length * w - i * w = (l.length - i) * w := by omega
    rw [← this, ← List.drop_take, ht, rows_dropn hf]
  have a4 : over cs ((i + 1) * w) ((l.drop i).flatMap f) = cs.take ((i + 1) * w) ++ (l.drop i).flatMap f ++ cs.drop ((l.length + 1) * w) := by
    unfold over; rw [a3]; congr 2; omega
  have a5 : (over cs ((i + 1) * w) ((l.drop i).flatMap f)).length = cap * w := by
    rw [a4, List.length_append, List.length_append, a3, List.length_take, List.length_drop]; omega
  have a6 : over (over cs ((i + 1) * w) ((l.drop i).flatMap f)) (i * w) (f x) = (l.take i ++ x :: l.drop i).flatMap f ++ cs.drop ((l.length + 1) * w) := by
    rw [a4]
    have q1 : (cs.take ((i + 1) * w) ++ (l.drop i).flatMap f ++ cs.drop ((l.length + 1) * w)).take (i * w) = (l.take i).flatMap f := by
      rw [List.append_assoc, List.take_append_of_le_length (by rw [List.length_take]; omega), List.take_take, Nat.min_eq_left (by omega), a2]
    have q2 : (cs.take ((i + 1) * w) ++ (l.drop i).flatMap f ++ cs.drop ((l.length + 1) * w)).drop (i * w + w) = (l.drop i).flatMap f ++ cs.drop ((l.length + 1) * w) := by
      have : (cs.take ((i + 1) * w)).length = i * w + w := by rw [List.length_take]; omega
      rw [List.append_assoc, ← this, List.drop_left]
    unfold over
    rw [q1, hf.len, q2]
    simp [List.flatMap_append]
  refine ⟨by rw [List.take_take, Nat.min_eq_left (by omega)]; exact a1, a5, ?_, ?_, ?_⟩
  · rw [a6, List.length_append, rows_len hf, List.length_drop, List.length_append, List.length_take, List.length_cons, List.length_drop, Nat.min_eq_left (by omega), show i + (l.length - i + 1) = l.length + 1 by omega]; omega
  · have : ((l.take i ++ x :: l.drop i).flatMap f).length = (l.length + 1) * w := by
      rw [rows_len hf, List.length_append, List.length_take, List.length_cons, List.length_drop, Nat.min_eq_left (by omega), show i + (l.length - i + 1) = l.length + 1 by omega]
    rw [a6, ← this, List.take_left]
  · rw [a6, ixs_all, List.all_append, Bool.and_eq_true]
    rw [ixs_all, List.all_eq_true] at hx
    refine ⟨?_, List.all_eq_true.2 fun y hy => hx y (List.mem_of_mem_drop hy)⟩
    rw [← ixs_all]; exact rows_ix hf _
def isStruct (P : Program) (t : TypeId) : Bool := match P.underlying t with | some (.struct _) => true | _ => false
theorem isStruct_und {P : Program} {t : TypeId} (h : isStruct P t = true) : ∃ fs, P.underlying t = some (.struct fs) := by
  unfold isStruct at h
  split at h
  · exact ⟨_, by assumption⟩
  · simp at h
theorem und_User : ∃ fs, Pr.underlying t_api_User = some (.struct fs) := isStruct_und (by kernel_rfl)
set_option maxRecDepth 100000 in
theorem ovl_User : IsOvl Pr n_slices_overlaps_api_User := by
  obtain ⟨fs, hfs⟩ := und_User
  exact ⟨_, t_sl_api_User, t_bool, t_api_User, _, rfl, by kernel_rfl, by kernel_rfl, by kernel_rfl, by kernel_rfl, by kernel_rfl, hfs⟩
theorem rsl_lo {w b o len cap : Nat} {ex : Bool} {l : Nat} (h1 : l ≤ len) (h2 : len ≤ cap) (h3 : l < cap ∨ l = 0) (K : AVal → Prop) : rslP w (.sl b o len cap ex) (some (.int .i64 l)) none none K = K (.sl b (o + l * w) (len - l) (cap - l) ex) := by
  simp only [rslP, bnd]
  rw [if_pos (by omega), if_pos (by omega)]
  congr 1
  simp <;> omega
theorem rsl_hi {w b o len cap : Nat} {ex : Bool} {h : Nat} (h2 : h ≤ cap) (K : AVal → Prop) : rslP w (.sl b o len cap ex) none (some (.int .i64 h)) none K = K (.sl b o h cap ex) := by
  simp only [rslP, bnd]
  rw [if_pos (by omega), if_pos (by omega)]
  simp
theorem rsl_any {w : Nat} {b o len cap : Nat} {ex : Bool} {l : Nat} (h1 : l ≤ len) (h2 : len ≤ cap) : ∃ y, ∀ K, rslP w (.sl b o len cap ex) (some (.int .i64 l)) none none K = K y := by
  by_cases h3 : l < cap ∨ l = 0
  · exact ⟨_, fun K => rsl_lo h1 h2 h3 K⟩
  · by_cases h5 : ex = true
    · refine ⟨.sl b o 0 0 true, fun K => ?_⟩
      simp only [rslP, bnd]
      rw [if_pos (by omega), if_neg (by omega), h5]
      rfl
    · refine ⟨.empt b o (l * w), fun K => ?_⟩
      simp only [rslP, bnd]
      rw [if_pos (by omega), if_neg (by omega)]
      simp [h5]
theorem cpy_sl {w b o len cap : Nat} {ex : Bool} {y : AVal} {h : AHeap A} {n k : Nat} {cs c : List AVal} {ty : TypeId} {dst : List AVal} (hs : srcOf w h y = some (n, cs)) (hm : min n len = k) (hc : cs.take (k * w) = c) (hb : h[b]? = some (.cells ty dst)) (hl : o + c.length ≤ dst.length) (hsc : c.all AVal.scalar = true) (K : AVal → AHeap A → Prop) :
    cpyP w (.sl b o len cap ex) y h K = K (.int .i64 k) (h.set b (.cells ty (over dst o c))) := by
  unfold cpyP
  rw [hs]
  dsimp only
  rw [hm, hc]
  have : setAt h b o c = some (h.set b (.cells ty (over dst o c))) := by
    unfold setAt
    rw [hb]
    dsimp only
    rw [if_pos ⟨hl, hsc⟩]
  rw [this]
  rfl
/-- Insert, where the capacity is told. -/
theorem Insert_exact (hR : R.Ok) {l : List Usr} {h : AHeap A} {b cap i q : Nat} {cs : List AVal} (hb : h[b]? = some (.cells t_api_User cs)) (hl : cs.length = cap * 9) (hc : l.length ≤ cap) (ht : cs.take (l.length * 9) = l.flatMap Usr.row) (hx : ixs 0 cs = true) (hi : i < l.length) (hn : l.length ≤ 2000000) (u : Usr) (hq : h[q]? = some (.cells t_api_User u.row)) (hqb : q ≠ b) {K : AVal → AHeap A → Prop}
    (hk : ∀ a' h', Own Usr.row 9 t_api_User a' (l.take i ++ u :: l.drop i) h' → (∀ k, k < h.length → k ≠ b → h'[k]? = h[k]?) → h.length ≤ h'.length → (∀ k, a'.blk = some k → k = b ∨ h.length ≤ k) → K a' h') : Tri Pr R n_slices_Insert_api_User [.sl b 0 l.length cap true, .int .i64 i, .sl q 0 1 1 true] h K := by
  have hblt := (List.getElem?_eq_some_iff.1 hb).1
  have hqlt := (List.getElem?_eq_some_iff.1 hq).1
  obtain ⟨fs, hfs⟩ := und_User
  have hll : (l.take i ++ u :: l.drop i).length = l.length + 1 := by rw [List.length_append, List.length_take, List.length_cons, List.length_drop]; omega
  have r0 := fun K => rsl_lo (w := 9) (b := b) (o := 0) (len := l.length) (cap := cap) (ex := true) (l := i) (by omega) hc (by omega) K
  simp only [Nat.zero_add] at r0
  have srcq : ∀ g : AHeap A, g[q]? = some (.cells t_api_User u.row) → srcOf 9 g (.sl q 0 1 1 true) = some (1, u.row) := by
    intro g hg
    simp [srcOf, cellsAt, hg, AObj.read, Usr.row]
  have w1 := w64 (n := (l.length : Int) + 1) (by omega)
  have w2 := w64 (n := (i : Int) + 1) (by omega)
  have n1 : ((i : Int) == (l.length : Int)) = false := by simp; omega
  apply c_slices_Insert_api_User
  unfold p_slices_Insert_api_User
  simp -implicitDefEqProofs [r0, n1, w1]
  have c1 : (i : Int) + 1 = ((i + 1 : Nat) : Int) := by omega
  have c2 : (l.length : Int) + 1 = ((l.length + 1 : Nat) : Int) := by omega
  by_cases hfit : l.length + 1 ≤ cap
  · have g1 : ¬ ((l.length : Int) + 1 > cap) := by omega
    obtain ⟨d1, d2, d3, d4, d5⟩ := ins_cells usrR u hl hfit ht hi hx
    have hcs9 : l.length * 9 + 9 ≤ cs.length := by omega
    have r1 := fun K => rsl_hi (w := 9) (b := b) (o := 0) (len := l.length) (cap := cap) (ex := true) (h := l.length + 1) hfit K
    have r2 := fun K => rsl_lo (w := 9) (b := b) (o := 0) (len := l.length + 1) (cap := cap) (ex := true) (l := i + 1) (by omega) hfit (by omega) K
    have r3 := fun K => rsl_lo (w := 9) (b := b) (o := 0) (len := l.length + 1) (cap := cap) (ex := true) (l := i) (by omega) hfit (by omega) K
    rw [← c2] at r1
    rw [← c1] at r2
    simp -implicitDefEqProofs [g1, r1, w2, r2]
    refine ⟨ovl_User, ?_⟩
    dsimp only
    rw [hq, hb]
    dsimp only
    refine ⟨hqb, by rw [hfs]; simp, by intro hc0; rw [hc0] at hcs9; simp at hcs9, ?_⟩
    simp only [Nat.zero_add] at r3
    simp -implicitDefEqProofs [r3]
    have src : srcOf 9 h (.sl b (i * 9) (l.length + 1 - i) (cap - i) true) = some (l.length + 1 - i, (cs.drop (i * 9)).take ((l.length + 1 - i) * 9)) := by
      simp only [srcOf, cellsAt, hb, Option.bind_some, AObj.read]
      rw [if_pos (by omega)]
    rw [cpy_sl (k := l.length - i) src (by omega) d1 hb (by rw [rows_len usrR, List.length_drop]; omega) (rows_sc usrR _)]
    obtain ⟨cs1, hc1⟩ : ∃ cs1, cs1 = over cs ((i + 1) * 9) ((l.drop i).flatMap Usr.row) := ⟨_, rfl⟩
    rw [← hc1] at d2 d3 d4 d5 ⊢
    have hq2 : (h.set b (.cells t_api_User cs1))[q]? = some (.cells t_api_User u.row) := by rw [List.getElem?_set_ne (Ne.symm hqb)]; exact hq
    rw [cpy_sl (k := 1) (srcq _ hq2) (by omega) (by rfl) (List.getElem?_set_self hblt) (by rw [d2]; simp [Usr.row]; omega) rfl, List.set_set]
    refine hk _ _ (.inr ⟨b, cap, true, _, by rw [hll], List.getElem?_set_self hblt, d3, by rw [hll]; exact hfit, by rw [hll]; exact d4, d5⟩) (fun k _ hkb => List.getElem?_set_ne (Ne.symm hkb)) (by simp) (fun k hk => .inl (by simpa [AVal.blk] using hk.symm))
  · have hcap : cap = l.length := by omega
    subst hcap
    have g1 : ((l.length : Int) + 1 > (l.length : Int)) := by omega
    have w3 := w64 (n := (l.length : Int) + 1 - i) (by omega)
    have r1 := fun K => rsl_hi (w := 9) (b := b) (o := 0) (len := l.length) (cap := l.length) (ex := true) (h := i) (by omega) K
    have hz : (([.int .i64 0, .int .i64 0, .int .i64 0, .int .i64 0, .int .i64 0, .int .i64 0, .int .i64 0, .int .i64 0, .int .i64 0] : List AVal)) = usr0.row := rfl
    have hca : cellsAt h b = some cs := by simp [cellsAt, hb, AObj.read]
    have htk : (cs.drop 0).take (i * 9) = (l.take i).flatMap Usr.row := by
      have : cs.take (i * 9) = (cs.take (l.length * 9)).take (i * 9) := by rw [List.take_take, Nat.min_eq_left (by omega)]
      rw [List.drop_zero, this, ht, rows_taken usrR]
    have hrep : (List.replicate (l.length + 1 - i) usr0.row).flatten = (List.replicate (l.length + 1 - i) usr0).flatMap Usr.row := by rw [List.flatMap, List.map_replicate]
    have hapz : ∀ K : AVal → AHeap A → Prop, apzP t_api_User 9 72 usr0.row (.sl b 0 i l.length true) (.int .i64 ((l.length : Int) + 1 - i)) h K = K (.sl h.length 0 (l.length + 1) (l.length + 1) false) (h ++ [.cells t_api_User ((l.take i ++ List.replicate (l.length + 1 - i) usr0).flatMap Usr.row)]) := by
      intro K
      unfold apzP apzV
      dsimp only
      rw [hca]
      have e1 : ((l.length : Int) + 1 - i).toNat = l.length + 1 - i := by omega
      dsimp only
      rw [e1, if_pos ⟨by omega, by omega, by omega, by omega, by omega, by omega, rfl⟩]
      simp only [optH]
      rw [htk, hrep, ← List.flatMap_append]
      rw [show i + (l.length + 1 - i) = l.length + 1 by omega]
    have lenA : (l.take i ++ List.replicate (l.length + 1 - i) usr0).length = l.length + 1 := by rw [List.length_append, List.length_take, List.length_replicate]; omega
    obtain ⟨G, hG⟩ : ∃ G, G = h.length := ⟨_, rfl⟩
    have r2 := fun K => rsl_lo (w := 9) (b := G) (o := 0) (len := l.length + 1) (cap := l.length + 1) (ex := false) (l := i) (by omega) (Nat.le_refl _) (by omega) K
    have r3 := fun K => rsl_lo (w := 9) (b := G) (o := 0) (len := l.length + 1) (cap := l.length + 1) (ex := false) (l := i + 1) (by omega) (Nat.le_refl _) (by omega) K
    have r4 := fun K => rsl_lo (w := 9) (b := b) (o := 0) (len := l.length) (cap := l.length) (ex := true) (l := i) (by omega) (Nat.le_refl _) (by omega) K
    rw [← c1] at r3
    simp only [Nat.zero_add] at r2 r3 r4
    have hqG : q ≠ G := by omega
    have hbG : b ≠ G := by omega
    have hq3 : (h ++ [.cells t_api_User ((l.take i ++ List.replicate (l.length + 1 - i) usr0).flatMap Usr.row)] : AHeap A)[q]? = some (.cells t_api_User u.row) := get_app hq
    have hb3 : (h ++ [.cells t_api_User ((l.take i ++ List.replicate (l.length + 1 - i) usr0).flatMap Usr.row)] : AHeap A)[b]? = some (.cells t_api_User cs) := get_app hb
    have hG3 : (h ++ [.cells t_api_User ((l.take i ++ List.replicate (l.length + 1 - i) usr0).flatMap Usr.row)] : AHeap A)[G]? = some (.cells t_api_User ((l.take i ++ List.replicate (l.length + 1 - i) usr0).flatMap Usr.row)) := by rw [hG]; simp
    simp -implicitDefEqProofs [g1, r1, w3]
    rw [hz, hapz, ← hG]
    have kp3 : ∀ k, k < h.length → (h ++ [.cells t_api_User ((l.take i ++ List.replicate (l.length + 1 - i) usr0).flatMap Usr.row)] : AHeap A)[k]? = h[k]? := fun k hk => List.getElem?_append_left hk
    have ln3 : (h ++ [.cells t_api_User ((l.take i ++ List.replicate (l.length + 1 - i) usr0).flatMap Usr.row)] : AHeap A).length = h.length + 1 := by simp
    generalize (h ++ [.cells t_api_User ((l.take i ++ List.replicate (l.length + 1 - i) usr0).flatMap Usr.row)] : AHeap A) = h3 at *
    have eA : over ((l.take i ++ List.replicate (l.length + 1 - i) usr0).flatMap Usr.row) (i * 9) u.row = (l.take i ++ u :: List.replicate (l.length - i) usr0).flatMap Usr.row := by
      rw [rows_set usrR _ i (by rw [lenA]; omega), show l.length + 1 - i = (l.length - i) + 1 by omega, List.replicate_succ, List.set_append_right _ _ (by rw [List.length_take]; omega)]
      rw [show i - (l.take i).length = 0 by rw [List.length_take]; omega, List.set_cons_zero]
    have eB : over ((l.take i ++ u :: List.replicate (l.length - i) usr0).flatMap Usr.row) ((i + 1) * 9) ((l.drop i).flatMap Usr.row) = (l.take i ++ u :: l.drop i).flatMap Usr.row := by
      unfold over
      rw [rows_taken usrR, rows_len usrR, List.length_drop, ← Nat.add_mul, rows_dropn usrR]
      have q1 : (l.take i ++ u :: List.replicate (l.length - i) usr0).take (i + 1) = l.take i ++ [u] := by
        rw [List.take_append, List.length_take, List.take_of_length_le (by rw [List.length_take]; omega), show i + 1 - min i l.length = 1 by omega]
        rfl
      have q2 : (l.take i ++ u :: List.replicate (l.length - i) usr0).drop (i + 1 + (l.length - i)) = [] := by
        rw [List.drop_eq_nil_iff, List.length_append, List.length_take, List.length_cons, List.length_replicate]; omega
      rw [q1, q2]
      simp [List.flatMap_append]
    have lt3 : G < h3.length := by omega
    have rw1 := rows_len usrR (l.take i ++ List.replicate (l.length + 1 - i) usr0)
    rw [lenA] at rw1
    have rw2 : ((l.take i ++ u :: List.replicate (l.length - i) usr0).flatMap Usr.row).length = (l.length + 1) * 9 := by
      rw [rows_len usrR, List.length_append, List.length_take, List.length_cons, List.length_replicate, show min i l.length + (l.length - i + 1) = l.length + 1 by omega]
    simp -implicitDefEqProofs [r2]
    rw [cpy_sl (k := 1) (srcq _ hq3) (by omega) (by rfl) hG3 (by rw [rw1]; simp [Usr.row]; omega) rfl]
    obtain ⟨h4, hh4⟩ : ∃ h4, h4 = h3.set G (.cells t_api_User (over ((l.take i ++ List.replicate (l.length + 1 - i) usr0).flatMap Usr.row) (i * 9) (u.row.take (1 * 9)))) := ⟨_, rfl⟩
    rw [← hh4]
    have hh4' : h4 = h3.set G (.cells t_api_User ((l.take i ++ u :: List.replicate (l.length - i) usr0).flatMap Usr.row)) := by rw [hh4, ← eA]; rfl
    have hG4 : h4[G]? = some (.cells t_api_User ((l.take i ++ u :: List.replicate (l.length - i) usr0).flatMap Usr.row)) := by rw [hh4']; exact List.getElem?_set_self lt3
    have hb4 : h4[b]? = some (.cells t_api_User cs) := by rw [hh4', List.getElem?_set_ne (Ne.symm hbG)]; exact hb3
    have kp4 : ∀ k, k < h.length → h4[k]? = h[k]? := fun k hk => by rw [hh4', List.getElem?_set_ne (by omega)]; exact kp3 k hk
    have ln4 : h4.length = h.length + 1 := by rw [hh4', List.length_set]; exact ln3
    simp -implicitDefEqProofs [w2, r3, r4]
    have src : srcOf 9 h4 (.sl b (i * 9) (l.length - i) (l.length - i) true) = some (l.length - i, (l.drop i).flatMap Usr.row) := by
      simp only [srcOf, cellsAt, hb4, Option.bind_some, AObj.read]
      rw [if_pos (by omega)]
      have : l.length * 9 - i * 9 = (l.length - i) * 9 := by omega
      rw [← this, ← List.drop_take, ht, rows_dropn usrR]
    rw [cpy_sl (k := l.length - i) src (by omega) (List.take_of_length_le (by rw [rows_len usrR, List.length_drop]; exact Nat.le_refl _)) hG4 (by rw [rows_len usrR, List.length_drop, rw2]; omega) (rows_sc usrR _), eB]
    have own := Own.new usrR (e := t_api_User) (b := G) (cap := l.length + 1) (ex := false) (l := l.take i ++ u :: l.drop i) (h := h4.set G (.cells t_api_User ((l.take i ++ u :: l.drop i).flatMap Usr.row))) (List.getElem?_set_self (by omega)) hll.symm
    rw [hll] at own
    exact hk _ _ own (fun k hk _ => by rw [List.getElem?_set_ne (by omega)]; exact kp4 k hk) (by simp; omega) (fun k hk => .inr (by simp [AVal.blk] at hk; omega))
end Go.AI

/- States: users that are put. -/
set_option linter.all false
namespace Go.AI
variable {A : Type} {R : Adts A}
variable {m t c e : Nat} {C : Cfg} {E : Ev} {h : AHeap A} {s : Sta} {xu xs xa xp : AVal}
theorem src_one {u : Usr} {q : Nat} {g : AHeap A} (hg : g[q]? = some (.cells t_api_User u.row)) : srcOf 9 g (.sl q 0 1 1 true) = some (([u] : List Usr).length, ([u] : List Usr).flatMap Usr.row) := by
  simp [srcOf, cellsAt, hg, AObj.read, Usr.row]
theorem Insert_ok (hR : R.Ok) {a : AVal} {l : List Usr} {h : AHeap A} (ha : Own Usr.row 9 t_api_User a l h) {i q : Nat} (hi : i ≤ l.length) (hn : l.length ≤ 2000000) (u : Usr) (hq : h[q]? = some (.cells t_api_User u.row)) (hqa : a.blk ≠ some q) {K : AVal → AHeap A → Prop}
    (hk : ∀ a' h', Own Usr.row 9 t_api_User a' (l.take i ++ u :: l.drop i) h' → (∀ k, k < h.length → a.blk ≠ some k → h'[k]? = h[k]?) → h.length ≤ h'.length → (∀ k, a'.blk = some k → a.blk = some k ∨ h.length ≤ k) → K a' h') : Tri Pr R n_slices_Insert_api_User [a, .int .i64 i, .sl q 0 1 1 true] h K := by
  by_cases hil : i = l.length
  · subst hil
    have rd := ha.rd usrR
    obtain ⟨y, hy⟩ : ∃ y, ∀ K, rslP 9 a (some (.int .i64 l.length)) none none K = K y := by
      rcases ha with ⟨rfl, rfl⟩ | ⟨b, cap, ex, cs, rfl, hb, hl, hc, ht, hx⟩
      · exact ⟨.nils, fun K => by simp [rslP, bnd]⟩
      · exact rsl_any (Nat.le_refl _) hc
    apply c_slices_Insert_api_User
    unfold p_slices_Insert_api_User
    simp -implicitDefEqProofs [hy, rd.len]
    refine app_own usrR (l2 := [u]) ha (by omega) (src_one hq) (by simp; omega) fun a' h' o1 f1 l1 b1 => ?_
    refine hk a' h' ?_ f1 l1 b1
    rw [List.take_length, List.drop_length]; exact o1
  · have hi2 : i < l.length := by omega
    rcases ha with ⟨rfl, rfl⟩ | ⟨b, cap, ex, cs, rfl, hb, hl, hc, ht, hx⟩
    · simp at hi2
    have hblt := (List.getElem?_eq_some_iff.1 hb).1
    have hqlt := (List.getElem?_eq_some_iff.1 hq).1
    have hqb : q ≠ b := fun h => hqa (by rw [h]; rfl)
    by_cases hex : ex = true
    · subst hex
      exact Insert_exact hR hb hl hc ht hx hi2 hn u hq hqb fun a' h' o1 f1 l1 b1 => hk a' h' o1 (fun k hk2 hkb => f1 k hk2 fun h => hkb (by rw [h]; rfl)) l1 (fun k hk2 => by
        rcases b1 k hk2 with h | h
        · exact .inl (by rw [h]; rfl)
        · exact .inr h)
    · have hex' : ex = false := by simpa using hex
      subst hex'
      have hco : Pr.cellsOf t_api_User = 9 := by kernel_rfl
      refine Tri.pre (Gives.exact b hb (Nat.le_refl _) fun sp raws hlr => Gives.done (by simp) ?_)
      rw [hco] at hlr
      have ex1 : xcts b h.length sp [.sl b 0 l.length cap false, .int .i64 i, .sl q 0 1 1 true] = [.sl h.length 0 l.length (cap + sp) true, .int .i64 i, .sl q 0 1 1 true] := by
        simp [xcts, AVal.xct, hqb]
      rw [ex1]
      have hq2 : (h.set b .dead ++ [.cells t_api_User (cs ++ raws.map .raw)] : AHeap A)[q]? = some (.cells t_api_User u.row) := by
        rw [List.getElem?_append_left (by simpa using hqlt), List.getElem?_set_ne (Ne.symm hqb)]; exact hq
      refine Insert_exact hR (b := h.length) (cap := cap + sp) (cs := cs ++ raws.map .raw) (by rw [List.getElem?_append_right (by simp)]; simp) (by rw [List.length_append, List.length_map, hl, hlr, Nat.add_mul]) (by omega) ?_ ?_ hi2 hn u hq2 (by omega) fun a' h' o1 f1 l1 b1 => ?_
      · have : l.length * 9 ≤ cs.length := by omega
        rw [List.take_append_of_le_length this]; exact ht
      · rw [ixs_all, List.all_append, Bool.and_eq_true]
        refine ⟨by rw [← ixs_all]; exact hx, List.all_eq_true.2 fun x hx => ?_⟩
        obtain ⟨v, _, rfl⟩ := List.mem_map.1 hx
        rfl
      · simp only [List.length_append, List.length_set, List.length_singleton] at f1 l1 b1
        refine hk a' h' o1 (fun k hk2 hkb => ?_) (by omega) (fun k hk2 => by rcases b1 k hk2 with h | h <;> exact .inr (by omega))
        rw [f1 k (by omega) (by omega), List.getElem?_append_left (by simpa using hk2), List.getElem?_set_ne (fun h => hkb (by rw [h]; rfl))]
theorem uPut_eq (u : Usr) (l : List Usr) : uPut u l = l.take ((l.findIdx? fun v => decide (v.user > u.user)).getD l.length) ++ u :: l.drop ((l.findIdx? fun v => decide (v.user > u.user)).getD l.length) := by
  induction l with
  | nil => rfl
  | cons v r ih =>
    by_cases h1 : u.user < v.user
    · simp [uPut, h1, List.findIdx?_cons]
    · rw [uPut, if_neg h1, ih, List.findIdx?_cons]
      have : decide (v.user > u.user) = false := by simpa using h1
      rw [this]
      cases hf : List.findIdx? (fun v => decide (v.user > u.user)) r with
      | none => simp
      | some k => simp
def JU (m t c e : Nat) (C : Cfg) (E : Ev) (h : AHeap A) (s : Sta) (xu xs xa xp : AVal) (bx L : Nat) (vs : List AVal) (g : AHeap A) : Prop :=
  vs = [.int .i64 (((s.users.findIdx? fun v => decide (v.user > E.user)).getD s.users.length : Nat) : Int)] ∧ Tn m t c e C E g s xu xs xa xp ∧ (∀ i, i < m → g[i]? = h[i]?) ∧ L ≤ g.length ∧ g[bx]? = some (.cells t_p_state_turn [.ptr t 0])
theorem turn_user_ok (hR : R.Ok) (T : Tn m t c e C E h s xu xs xa xp) (hle : StaLe s 2000000) {K : AVal → AHeap A → Prop}
    (hk : TK m t c e C E h (if (uAt s.users E.user).isSome = true then none else some { s with users := uPut ⟨E.user, E.a, E.b, E.c, 0, 0, 0, 0, 0⟩ s.users }) K) : Tri Pr R n_state_turn_user [.ptr t 0] h K := by
  have mt := T.mt
  have tl := T.tl
  have T1 := T.move (h' := h ++ [.cells t_p_state_turn [.ptr t 0]]) (fun k hk => by rw [List.getElem?_append_left hk])
  have tt1 := T1.tt
  have ee1 := T1.ee
  unfold tCells at tt1
  unfold Ev.row at ee1
  have bx1 : (h ++ [.cells t_p_state_turn [.ptr t 0]] : AHeap A)[h.length]? = some (.cells t_p_state_turn [.ptr t 0]) := by simp
  have kp1 : ∀ k, k < h.length → (h ++ [.cells t_p_state_turn [.ptr t 0]] : AHeap A)[k]? = h[k]? := fun k hk => by rw [List.getElem?_append_left hk]
  have ln1 : (h ++ [.cells t_p_state_turn [.ptr t 0]] : AHeap A).length = h.length + 1 := by simp
  apply c_state_turn_user
  unfold p_state_turn_user
  simp -implicitDefEqProofs [tt1, ee1, AObj.read]
  generalize (h ++ [.cells t_p_state_turn [.ptr t 0]] : AHeap A) = h1 at *
  refine state_User_ok hR T1.fldU T1.rdU hle.u _ (fun hu => ?_) (fun j p2 hu hp2 => ?_)
  · rw [hu] at hk
    rw [if_neg (by simp)] at hk
    have T2 := T1.move (h' := h1 ++ [.cells t_int [.int .i64 E.user]]) (fun k hk => by rw [List.getElem?_append_left hk])
    have tt2 := T2.tt
    unfold tCells at tt2
    have bx2 : (h1 ++ [.cells t_int [.int .i64 E.user]] : AHeap A)[h.length]? = some (.cells t_p_state_turn [.ptr t 0]) := get_app bx1
    have kp2 : ∀ k, k < h.length → (h1 ++ [.cells t_int [.int .i64 E.user]] : AHeap A)[k]? = h[k]? := fun k hk => by rw [List.getElem?_append_left (by omega)]; exact kp1 k hk
    have ln2 : (h1 ++ [.cells t_int [.int .i64 E.user]] : AHeap A).length = h.length + 2 := by simp [ln1]
    simp -implicitDefEqProofs [bx2, tt2, AObj.read]
    generalize (h1 ++ [.cells t_int [.int .i64 E.user]] : AHeap A) = h2 at *
    refine IndexFunc_api_User_ext hR (fun g => (T2.move (h' := h2 ++ g) (fun k hk => by rw [List.getElem?_append_left hk])).u.rd usrR) hle.u (by kernel_rfl) (fun v => decide (v.user > E.user)) (fun u _ g K hK => turn_user_c1_ok hR u T2 bx2 g hK) fun g1 => ?_
    have T3 := T2.move (h' := h2 ++ g1) (fun k hk => by rw [List.getElem?_append_left hk])
    have tt3 := T3.tt
    unfold tCells at tt3
    have bx3 : (h2 ++ g1 : AHeap A)[h.length]? = some (.cells t_p_state_turn [.ptr t 0]) := get_app bx2
    have kp3 : ∀ k, k < h.length → (h2 ++ g1 : AHeap A)[k]? = h[k]? := fun k hk => by rw [List.getElem?_append_left (by omega)]; exact kp2 k hk
    have ln3 : h.length + 2 ≤ (h2 ++ g1 : AHeap A).length := by rw [List.length_append, ln2]; omega
    generalize (h2 ++ g1 : AHeap A) = h3 at *
    refine joinP_all (JU m t c e C E h s xu xs xa xp h.length h3.length) ?_ ?_
    · cases hf : s.users.findIdx? fun v => decide (v.user > E.user) with
      | none =>
        simp -implicitDefEqProofs [idx1, bx3, tt3, AObj.read, (T3.u.rd usrR).len]
        exact ⟨by rw [hf]; rfl, T3, fun k hk => kp3 k (by omega), Nat.le_refl _, bx3⟩
      | some i =>
        have n0 : ¬ ((i : Int) < 0) := by omega
        simp -implicitDefEqProofs [idx1, n0]
        exact ⟨by rw [hf]; rfl, T3, fun k hk => kp3 k (by omega), Nat.le_refl _, bx3⟩
    · rintro _ g ⟨rfl, T4, kp4, lg, bx4⟩
      refine ⟨lg, ?_⟩
      have tt4 := T4.tt
      have ee4 := T4.ee
      unfold tCells at tt4
      unfold Ev.row at ee4
      obtain ⟨at_, hat_⟩ : ∃ at_ : Nat, at_ = (s.users.findIdx? fun v => decide (v.user > E.user)).getD s.users.length := ⟨_, rfl⟩
      have hatl : at_ ≤ s.users.length := by
        rw [hat_]
        cases hf : s.users.findIdx? fun v => decide (v.user > E.user) with
        | none => exact Nat.le_refl _
        | some i => exact Nat.le_of_lt (List.findIdx?_eq_some_iff_getElem.1 hf).1
      rw [← hat_]
      have hrow : ([.int .i64 E.user, .int .i64 E.a, .int .i64 E.b, .int .i64 E.c, .int .i64 0, .int .i64 0, .int .i64 0, .int .i64 0, .int .i64 0] : List AVal) = Usr.row ⟨E.user, E.a, E.b, E.c, 0, 0, 0, 0, 0⟩ := rfl
      have T5 := T4.move (h' := g ++ [.cells t_api_User [.int .i64 E.user, .int .i64 E.a, .int .i64 E.b, .int .i64 E.c, .int .i64 0, .int .i64 0, .int .i64 0, .int .i64 0, .int .i64 0]]) (fun k hk => by rw [List.getElem?_append_left hk])
      have tt5 := T5.tt
      unfold tCells at tt5
      have bx5 : (g ++ [.cells t_api_User [.int .i64 E.user, .int .i64 E.a, .int .i64 E.b, .int .i64 E.c, .int .i64 0, .int .i64 0, .int .i64 0, .int .i64 0, .int .i64 0]] : AHeap A)[h.length]? = some (.cells t_p_state_turn [.ptr t 0]) := get_app bx4
      simp -implicitDefEqProofs [bx4, tt4, ee4, bx5, tt5, AObj.read]
      refine Insert_ok hR T5.u hatl hle.u ⟨E.user, E.a, E.b, E.c, 0, 0, 0, 0, 0⟩ (by simp [Usr.row]) (fun h1 => by have := T4.u.blt h1; omega) fun a' h' o1 f1 l1 b1 => ?_
      have T6 := T5.set_u o1 f1 l1 b1
      have tl5 := T5.tl
      have tt6 := (f1 t tl5 (fun h1 => (T5.bu t h1).2 rfl)).trans tt5
      have nbx : xu.blk ≠ some h.length := fun h1 => by
        obtain ⟨cs, hcs⟩ := T4.u.at h1
        rw [bx4] at hcs
        simp only [Option.some.injEq, AObj.cells.injEq] at hcs
        exact absurd hcs.1 (by decide)
      have bx6 : h'[h.length]? = some (.cells t_p_state_turn [.ptr t 0]) := (f1 _ (List.getElem?_eq_some_iff.1 bx5).1 nbx).trans bx5
      have sa := o1.sc
      have ca := sc_cs sa
      simp -implicitDefEqProofs [bx6, tt6, AObj.read, sa, ca]
      rw [hat_, ← uPut_eq ⟨E.user, E.a, E.b, E.c, 0, 0, 0, 0, 0⟩] at T6
      refine hk.2 _ rfl a' xs xa xp _ T6 fun k hk => ?_
      rw [List.getElem?_set_ne (by omega), f1 k (by simp; omega) (fun h1 => by have := (T.bu k h1).1; omega), List.getElem?_append_left (by omega)]
      exact kp4 k hk
  · rw [hu, if_pos (by rfl)] at hk
    have hj : j < s.users.length := (List.findIdx?_eq_some_iff_getElem.1 hu).1
    obtain ⟨b, hb, hix, _⟩ := T1.u.el usrR hj
    obtain rfl := idx_uniq hp2 hix
    simp -implicitDefEqProofs
    refine hk.1 rfl _ fun k hk => ?_
    rw [List.getElem?_append_left (by omega)]
    exact kp1 k (by omega)
end Go.AI

/- Numbers are read. -/
set_option linter.all false
namespace Go.AI
variable {A : Type} {R : Adts A}
end Go.AI

/- The program reads numbers. -/
set_option linter.all false
namespace Go.AI
variable {A : Type} {R : Adts A}
end Go.AI

/- Readers. -/
set_option linter.all false
namespace Go.AI
variable {A : Type} {R : Adts A}
end Go.AI

/- Events: may one be (printed by gen/event_gen.py)? -/
set_option linter.all false
namespace Go.AI
variable {A : Type} {R : Adts A}
theorem shEv (e f : Ev) : shEq (Sh.st [(0, 1, Sh.i), (1, 1, Sh.i), (2, 1, Sh.i), (3, 1, Sh.i), (4, 1, Sh.i), (5, 1, Sh.i), (6, 1, Sh.i), (7, 1, Sh.i)]) e.row f.row = some (decide (e = f)) := by
  obtain ⟨k, u, s, ad, a, b, c, t⟩ := e
  obtain ⟨k2, u2, s2, ad2, a2, b2, c2, t2⟩ := f
  simp [Ev.row, shEq, shEqs]
  rfl
theorem event_May_0 (hR : R.Ok) (u s ad a b c t : Int) {h : AHeap A} {K : AVal → AHeap A → Prop} (hk : K (.bool (evMay ⟨0, u, s, ad, a, b, c, t⟩)) h) : Tri Pr R n_event_May [.agg (Ev.row ⟨0, u, s, ad, a, b, c, t⟩)] h K := by
  refine Tri.fn1 hR _ rfl rfl ?_ hk
  apply c_event_May
  unfold p_event_May
  simp -implicitDefEqProofs [Ev.row]
  apply c_event_parts
  unfold p_event_parts
  simp -implicitDefEqProofs [appP, appV, srcOf, cellsAt]
  repeat (first | refine joinP_go ?_ | simp -implicitDefEqProofs [appP, appV, srcOf, cellsAt])
  refine loopP_unr 5 ?_
  rw [unr]
  simp -implicitDefEqProofs
  refine field_NumMay_ok _ ?_
  cases h0 : nMay t with
  | false => simp -implicitDefEqProofs; exact Ans.of (by simp [evMay, evParts, h0])
  | true =>
    simp -implicitDefEqProofs
    refine Gives.done (by simp) ?_
    rw [unr]
    simp -implicitDefEqProofs
    refine joinP_go ?_
    by_cases c1 : u < 8
    · by_cases c2 : ad < 16
      · by_cases c3 : t ≤ 1048575
        · by_cases c4 : c ≤ 1048576
          · simp -implicitDefEqProofs [c1, c2, c3, c4]
            apply c_event_plain
            unfold p_event_plain
            simp -implicitDefEqProofs
            apply c_event_parts
            unfold p_event_parts
            simp -implicitDefEqProofs [appP, appV, srcOf, cellsAt]
            repeat (first | refine joinP_go ?_ | simp -implicitDefEqProofs [appP, appV, srcOf, cellsAt])
            apply c_event_parts
            unfold p_event_parts
            simp -implicitDefEqProofs [appP, appV, srcOf, cellsAt]
            repeat (first | refine joinP_go ?_ | simp -implicitDefEqProofs [appP, appV, srcOf, cellsAt])
            refine loopP_unr 5 ?_
            rw [unr]
            simp -implicitDefEqProofs
            refine Gives.done (by simp) ?_
            rw [unr]
            simp -implicitDefEqProofs
            have he := shEv ⟨0, u, s, ad, a, b, c, t⟩ ⟨0, 0, 0, 0, 0, 0, 0, t⟩
            simp only [Ev.row] at he
            simp -implicitDefEqProofs [he]
            exact Ans.of (by simp [evMay, evPlain, evOf, evParts, ev0, c1, c2, c3, c4, h0])
          · simp -implicitDefEqProofs [c1, c2, c3, c4]; exact Ans.of (by simp [evMay, c4])
        · simp -implicitDefEqProofs [c1, c2, c3]; exact Ans.of (by simp [evMay, c3])
      · simp -implicitDefEqProofs [c1, c2]; exact Ans.of (by simp [evMay, c2])
    · simp -implicitDefEqProofs [c1]; exact Ans.of (by simp [evMay, c1])
theorem event_May_1 (hR : R.Ok) (u s ad a b c t : Int) {h : AHeap A} {K : AVal → AHeap A → Prop} (hk : K (.bool (evMay ⟨1, u, s, ad, a, b, c, t⟩)) h) : Tri Pr R n_event_May [.agg (Ev.row ⟨1, u, s, ad, a, b, c, t⟩)] h K := by
  refine Tri.fn1 hR _ rfl rfl ?_ hk
  apply c_event_May
  unfold p_event_May
  simp -implicitDefEqProofs [Ev.row]
  apply c_event_parts
  unfold p_event_parts
  simp -implicitDefEqProofs [appP, appV, srcOf, cellsAt]
  repeat (first | refine joinP_go ?_ | simp -implicitDefEqProofs [appP, appV, srcOf, cellsAt])
  refine loopP_unr 5 ?_
  rw [unr]
  simp -implicitDefEqProofs
  refine field_NumMay_ok _ ?_
  cases h0 : nMay u with
  | false => simp -implicitDefEqProofs; exact Ans.of (by simp [evMay, evParts, h0])
  | true =>
    simp -implicitDefEqProofs
    refine Gives.done (by simp) ?_
    rw [unr]
    simp -implicitDefEqProofs
    refine field_NumMay_ok _ ?_
    cases h1 : nMay a with
    | false => simp -implicitDefEqProofs; exact Ans.of (by simp [evMay, evParts, h0, h1])
    | true =>
      simp -implicitDefEqProofs
      refine Gives.done (by simp) ?_
      rw [unr]
      simp -implicitDefEqProofs
      refine field_NumMay_ok _ ?_
      cases h2 : nMay b with
      | false => simp -implicitDefEqProofs; exact Ans.of (by simp [evMay, evParts, h0, h1, h2])
      | true =>
        simp -implicitDefEqProofs
        refine Gives.done (by simp) ?_
        rw [unr]
        simp -implicitDefEqProofs
        refine field_NumMay_ok _ ?_
        cases h3 : nMay c with
        | false => simp -implicitDefEqProofs; exact Ans.of (by simp [evMay, evParts, h0, h1, h2, h3])
        | true =>
          simp -implicitDefEqProofs
          refine Gives.done (by simp) ?_
          rw [unr]
          simp -implicitDefEqProofs
          refine joinP_go ?_
          by_cases c1 : u < 8
          · by_cases c2 : ad < 16
            · by_cases c3 : t ≤ 1048575
              · by_cases c4 : c ≤ 1048576
                · simp -implicitDefEqProofs [c1, c2, c3, c4]
                  apply c_event_plain
                  unfold p_event_plain
                  simp -implicitDefEqProofs
                  apply c_event_parts
                  unfold p_event_parts
                  simp -implicitDefEqProofs [appP, appV, srcOf, cellsAt]
                  repeat (first | refine joinP_go ?_ | simp -implicitDefEqProofs [appP, appV, srcOf, cellsAt])
                  apply c_event_parts
                  unfold p_event_parts
                  simp -implicitDefEqProofs [appP, appV, srcOf, cellsAt]
                  repeat (first | refine joinP_go ?_ | simp -implicitDefEqProofs [appP, appV, srcOf, cellsAt])
                  refine loopP_unr 5 ?_
                  rw [unr]
                  simp -implicitDefEqProofs
                  refine Gives.done (by simp) ?_
                  rw [unr]
                  simp -implicitDefEqProofs
                  refine Gives.done (by simp) ?_
                  rw [unr]
                  simp -implicitDefEqProofs
                  refine Gives.done (by simp) ?_
                  rw [unr]
                  simp -implicitDefEqProofs
                  refine Gives.done (by simp) ?_
                  rw [unr]
                  simp -implicitDefEqProofs
                  have he := shEv ⟨1, u, s, ad, a, b, c, t⟩ ⟨1, u, 0, 0, a, b, c, 0⟩
                  simp only [Ev.row] at he
                  simp -implicitDefEqProofs [he]
                  exact Ans.of (by simp [evMay, evPlain, evOf, evParts, ev0, c1, c2, c3, c4, h0, h1, h2, h3])
                · simp -implicitDefEqProofs [c1, c2, c3, c4]; exact Ans.of (by simp [evMay, c4])
              · simp -implicitDefEqProofs [c1, c2, c3]; exact Ans.of (by simp [evMay, c3])
            · simp -implicitDefEqProofs [c1, c2]; exact Ans.of (by simp [evMay, c2])
          · simp -implicitDefEqProofs [c1]; exact Ans.of (by simp [evMay, c1])
theorem event_May_2 (hR : R.Ok) (u s ad a b c t : Int) {h : AHeap A} {K : AVal → AHeap A → Prop} (hk : K (.bool (evMay ⟨2, u, s, ad, a, b, c, t⟩)) h) : Tri Pr R n_event_May [.agg (Ev.row ⟨2, u, s, ad, a, b, c, t⟩)] h K := by
  refine Tri.fn1 hR _ rfl rfl ?_ hk
  apply c_event_May
  unfold p_event_May
  simp -implicitDefEqProofs [Ev.row]
  apply c_event_parts
  unfold p_event_parts
  simp -implicitDefEqProofs [appP, appV, srcOf, cellsAt]
  repeat (first | refine joinP_go ?_ | simp -implicitDefEqProofs [appP, appV, srcOf, cellsAt])
  refine loopP_unr 5 ?_
  rw [unr]
  simp -implicitDefEqProofs
  refine field_NumMay_ok _ ?_
  cases h0 : nMay u with
  | false => simp -implicitDefEqProofs; exact Ans.of (by simp [evMay, evParts, h0])
  | true =>
    simp -implicitDefEqProofs
    refine Gives.done (by simp) ?_
    rw [unr]
    simp -implicitDefEqProofs
    refine field_NumMay_ok _ ?_
    cases h1 : nMay t with
    | false => simp -implicitDefEqProofs; exact Ans.of (by simp [evMay, evParts, h0, h1])
    | true =>
      simp -implicitDefEqProofs
      refine Gives.done (by simp) ?_
      rw [unr]
      simp -implicitDefEqProofs
      refine joinP_go ?_
      by_cases c1 : u < 8
      · by_cases c2 : ad < 16
        · by_cases c3 : t ≤ 1048575
          · by_cases c4 : c ≤ 1048576
            · simp -implicitDefEqProofs [c1, c2, c3, c4]
              apply c_event_plain
              unfold p_event_plain
              simp -implicitDefEqProofs
              apply c_event_parts
              unfold p_event_parts
              simp -implicitDefEqProofs [appP, appV, srcOf, cellsAt]
              repeat (first | refine joinP_go ?_ | simp -implicitDefEqProofs [appP, appV, srcOf, cellsAt])
              apply c_event_parts
              unfold p_event_parts
              simp -implicitDefEqProofs [appP, appV, srcOf, cellsAt]
              repeat (first | refine joinP_go ?_ | simp -implicitDefEqProofs [appP, appV, srcOf, cellsAt])
              refine loopP_unr 5 ?_
              rw [unr]
              simp -implicitDefEqProofs
              refine Gives.done (by simp) ?_
              rw [unr]
              simp -implicitDefEqProofs
              refine Gives.done (by simp) ?_
              rw [unr]
              simp -implicitDefEqProofs
              have he := shEv ⟨2, u, s, ad, a, b, c, t⟩ ⟨2, u, 0, 0, 0, 0, 0, t⟩
              simp only [Ev.row] at he
              simp -implicitDefEqProofs [he]
              exact Ans.of (by simp [evMay, evPlain, evOf, evParts, ev0, c1, c2, c3, c4, h0, h1])
            · simp -implicitDefEqProofs [c1, c2, c3, c4]; exact Ans.of (by simp [evMay, c4])
          · simp -implicitDefEqProofs [c1, c2, c3]; exact Ans.of (by simp [evMay, c3])
        · simp -implicitDefEqProofs [c1, c2]; exact Ans.of (by simp [evMay, c2])
      · simp -implicitDefEqProofs [c1]; exact Ans.of (by simp [evMay, c1])
theorem event_May_3 (hR : R.Ok) (u s ad a b c t : Int) {h : AHeap A} {K : AVal → AHeap A → Prop} (hk : K (.bool (evMay ⟨3, u, s, ad, a, b, c, t⟩)) h) : Tri Pr R n_event_May [.agg (Ev.row ⟨3, u, s, ad, a, b, c, t⟩)] h K := by
  refine Tri.fn1 hR _ rfl rfl ?_ hk
  apply c_event_May
  unfold p_event_May
  simp -implicitDefEqProofs [Ev.row]
  apply c_event_parts
  unfold p_event_parts
  simp -implicitDefEqProofs [appP, appV, srcOf, cellsAt]
  repeat (first | refine joinP_go ?_ | simp -implicitDefEqProofs [appP, appV, srcOf, cellsAt])
  refine loopP_unr 5 ?_
  rw [unr]
  simp -implicitDefEqProofs
  refine field_NumMay_ok _ ?_
  cases h0 : nMay u with
  | false => simp -implicitDefEqProofs; exact Ans.of (by simp [evMay, evParts, h0])
  | true =>
    simp -implicitDefEqProofs
    refine Gives.done (by simp) ?_
    rw [unr]
    simp -implicitDefEqProofs
    refine field_NumMay_ok _ ?_
    cases h1 : nMay a with
    | false => simp -implicitDefEqProofs; exact Ans.of (by simp [evMay, evParts, h0, h1])
    | true =>
      simp -implicitDefEqProofs
      refine Gives.done (by simp) ?_
      rw [unr]
      simp -implicitDefEqProofs
      refine joinP_go ?_
      by_cases c1 : u < 8
      · by_cases c2 : ad < 16
        · by_cases c3 : t ≤ 1048575
          · by_cases c4 : c ≤ 1048576
            · simp -implicitDefEqProofs [c1, c2, c3, c4]
              apply c_event_plain
              unfold p_event_plain
              simp -implicitDefEqProofs
              apply c_event_parts
              unfold p_event_parts
              simp -implicitDefEqProofs [appP, appV, srcOf, cellsAt]
              repeat (first | refine joinP_go ?_ | simp -implicitDefEqProofs [appP, appV, srcOf, cellsAt])
              apply c_event_parts
              unfold p_event_parts
              simp -implicitDefEqProofs [appP, appV, srcOf, cellsAt]
              repeat (first | refine joinP_go ?_ | simp -implicitDefEqProofs [appP, appV, srcOf, cellsAt])
              refine loopP_unr 5 ?_
              rw [unr]
              simp -implicitDefEqProofs
              refine Gives.done (by simp) ?_
              rw [unr]
              simp -implicitDefEqProofs
              refine Gives.done (by simp) ?_
              rw [unr]
              simp -implicitDefEqProofs
              have he := shEv ⟨3, u, s, ad, a, b, c, t⟩ ⟨3, u, 0, 0, a, 0, 0, 0⟩
              simp only [Ev.row] at he
              simp -implicitDefEqProofs [he]
              exact Ans.of (by simp [evMay, evPlain, evOf, evParts, ev0, c1, c2, c3, c4, h0, h1])
            · simp -implicitDefEqProofs [c1, c2, c3, c4]; exact Ans.of (by simp [evMay, c4])
          · simp -implicitDefEqProofs [c1, c2, c3]; exact Ans.of (by simp [evMay, c3])
        · simp -implicitDefEqProofs [c1, c2]; exact Ans.of (by simp [evMay, c2])
      · simp -implicitDefEqProofs [c1]; exact Ans.of (by simp [evMay, c1])
theorem event_May_4 (hR : R.Ok) (u s ad a b c t : Int) {h : AHeap A} {K : AVal → AHeap A → Prop} (hk : K (.bool (evMay ⟨4, u, s, ad, a, b, c, t⟩)) h) : Tri Pr R n_event_May [.agg (Ev.row ⟨4, u, s, ad, a, b, c, t⟩)] h K := by
  refine Tri.fn1 hR _ rfl rfl ?_ hk
  apply c_event_May
  unfold p_event_May
  simp -implicitDefEqProofs [Ev.row]
  apply c_event_parts
  unfold p_event_parts
  simp -implicitDefEqProofs [appP, appV, srcOf, cellsAt]
  repeat (first | refine joinP_go ?_ | simp -implicitDefEqProofs [appP, appV, srcOf, cellsAt])
  refine loopP_unr 5 ?_
  rw [unr]
  simp -implicitDefEqProofs
  refine field_NumMay_ok _ ?_
  cases h0 : nMay u with
  | false => simp -implicitDefEqProofs; exact Ans.of (by simp [evMay, evParts, h0])
  | true =>
    simp -implicitDefEqProofs
    refine Gives.done (by simp) ?_
    rw [unr]
    simp -implicitDefEqProofs
    refine joinP_go ?_
    by_cases c1 : u < 8
    · by_cases c2 : ad < 16
      · by_cases c3 : t ≤ 1048575
        · by_cases c4 : c ≤ 1048576
          · simp -implicitDefEqProofs [c1, c2, c3, c4]
            apply c_event_plain
            unfold p_event_plain
            simp -implicitDefEqProofs
            apply c_event_parts
            unfold p_event_parts
            simp -implicitDefEqProofs [appP, appV, srcOf, cellsAt]
            repeat (first | refine joinP_go ?_ | simp -implicitDefEqProofs [appP, appV, srcOf, cellsAt])
            apply c_event_parts
            unfold p_event_parts
            simp -implicitDefEqProofs [appP, appV, srcOf, cellsAt]
            repeat (first | refine joinP_go ?_ | simp -implicitDefEqProofs [appP, appV, srcOf, cellsAt])
            refine loopP_unr 5 ?_
            rw [unr]
            simp -implicitDefEqProofs
            refine Gives.done (by simp) ?_
            rw [unr]
            simp -implicitDefEqProofs
            have he := shEv ⟨4, u, s, ad, a, b, c, t⟩ ⟨4, u, 0, 0, 0, 0, 0, 0⟩
            simp only [Ev.row] at he
            simp -implicitDefEqProofs [he]
            exact Ans.of (by simp [evMay, evPlain, evOf, evParts, ev0, c1, c2, c3, c4, h0])
          · simp -implicitDefEqProofs [c1, c2, c3, c4]; exact Ans.of (by simp [evMay, c4])
        · simp -implicitDefEqProofs [c1, c2, c3]; exact Ans.of (by simp [evMay, c3])
      · simp -implicitDefEqProofs [c1, c2]; exact Ans.of (by simp [evMay, c2])
    · simp -implicitDefEqProofs [c1]; exact Ans.of (by simp [evMay, c1])
theorem event_May_5 (hR : R.Ok) (u s ad a b c t : Int) {h : AHeap A} {K : AVal → AHeap A → Prop} (hk : K (.bool (evMay ⟨5, u, s, ad, a, b, c, t⟩)) h) : Tri Pr R n_event_May [.agg (Ev.row ⟨5, u, s, ad, a, b, c, t⟩)] h K := by
  refine Tri.fn1 hR _ rfl rfl ?_ hk
  apply c_event_May
  unfold p_event_May
  simp -implicitDefEqProofs [Ev.row]
  apply c_event_parts
  unfold p_event_parts
  simp -implicitDefEqProofs [appP, appV, srcOf, cellsAt]
  repeat (first | refine joinP_go ?_ | simp -implicitDefEqProofs [appP, appV, srcOf, cellsAt])
  refine loopP_unr 5 ?_
  rw [unr]
  simp -implicitDefEqProofs
  refine field_NumMay_ok _ ?_
  cases h0 : nMay s with
  | false => simp -implicitDefEqProofs; exact Ans.of (by simp [evMay, evParts, h0])
  | true =>
    simp -implicitDefEqProofs
    refine Gives.done (by simp) ?_
    rw [unr]
    simp -implicitDefEqProofs
    refine field_NumMay_ok _ ?_
    cases h1 : nMay u with
    | false => simp -implicitDefEqProofs; exact Ans.of (by simp [evMay, evParts, h0, h1])
    | true =>
      simp -implicitDefEqProofs
      refine Gives.done (by simp) ?_
      rw [unr]
      simp -implicitDefEqProofs
      refine field_NumMay_ok _ ?_
      cases h2 : nMay ad with
      | false => simp -implicitDefEqProofs; exact Ans.of (by simp [evMay, evParts, h0, h1, h2])
      | true =>
        simp -implicitDefEqProofs
        refine Gives.done (by simp) ?_
        rw [unr]
        simp -implicitDefEqProofs
        refine field_NumMay_ok _ ?_
        cases h3 : nMay t with
        | false => simp -implicitDefEqProofs; exact Ans.of (by simp [evMay, evParts, h0, h1, h2, h3])
        | true =>
          simp -implicitDefEqProofs
          refine Gives.done (by simp) ?_
          rw [unr]
          simp -implicitDefEqProofs
          refine joinP_go ?_
          by_cases c1 : u < 8
          · by_cases c2 : ad < 16
            · by_cases c3 : t ≤ 1048575
              · by_cases c4 : c ≤ 1048576
                · simp -implicitDefEqProofs [c1, c2, c3, c4]
                  apply c_event_plain
                  unfold p_event_plain
                  simp -implicitDefEqProofs
                  apply c_event_parts
                  unfold p_event_parts
                  simp -implicitDefEqProofs [appP, appV, srcOf, cellsAt]
                  repeat (first | refine joinP_go ?_ | simp -implicitDefEqProofs [appP, appV, srcOf, cellsAt])
                  apply c_event_parts
                  unfold p_event_parts
                  simp -implicitDefEqProofs [appP, appV, srcOf, cellsAt]
                  repeat (first | refine joinP_go ?_ | simp -implicitDefEqProofs [appP, appV, srcOf, cellsAt])
                  refine loopP_unr 5 ?_
                  rw [unr]
                  simp -implicitDefEqProofs
                  refine Gives.done (by simp) ?_
                  rw [unr]
                  simp -implicitDefEqProofs
                  refine Gives.done (by simp) ?_
                  rw [unr]
                  simp -implicitDefEqProofs
                  refine Gives.done (by simp) ?_
                  rw [unr]
                  simp -implicitDefEqProofs
                  refine Gives.done (by simp) ?_
                  rw [unr]
                  simp -implicitDefEqProofs
                  have he := shEv ⟨5, u, s, ad, a, b, c, t⟩ ⟨5, u, s, ad, 0, 0, 0, t⟩
                  simp only [Ev.row] at he
                  simp -implicitDefEqProofs [he]
                  exact Ans.of (by simp [evMay, evPlain, evOf, evParts, ev0, c1, c2, c3, c4, h0, h1, h2, h3])
                · simp -implicitDefEqProofs [c1, c2, c3, c4]; exact Ans.of (by simp [evMay, c4])
              · simp -implicitDefEqProofs [c1, c2, c3]; exact Ans.of (by simp [evMay, c3])
            · simp -implicitDefEqProofs [c1, c2]; exact Ans.of (by simp [evMay, c2])
          · simp -implicitDefEqProofs [c1]; exact Ans.of (by simp [evMay, c1])
theorem event_May_6 (hR : R.Ok) (u s ad a b c t : Int) {h : AHeap A} {K : AVal → AHeap A → Prop} (hk : K (.bool (evMay ⟨6, u, s, ad, a, b, c, t⟩)) h) : Tri Pr R n_event_May [.agg (Ev.row ⟨6, u, s, ad, a, b, c, t⟩)] h K := by
  refine Tri.fn1 hR _ rfl rfl ?_ hk
  apply c_event_May
  unfold p_event_May
  by_cases c0 : 4 < b
  · simp -implicitDefEqProofs [Ev.row, c0]; exact Ans.of (by simp [evMay, c0])
  · simp -implicitDefEqProofs [Ev.row, c0]
    apply c_event_parts
    unfold p_event_parts
    simp -implicitDefEqProofs [appP, appV, srcOf, cellsAt]
    repeat (first | refine joinP_go ?_ | simp -implicitDefEqProofs [appP, appV, srcOf, cellsAt])
    refine loopP_unr 5 ?_
    rw [unr]
    simp -implicitDefEqProofs
    refine field_NumMay_ok _ ?_
    cases h0 : nMay s with
    | false => simp -implicitDefEqProofs; exact Ans.of (by simp [evMay, evParts, h0])
    | true =>
      simp -implicitDefEqProofs
      refine Gives.done (by simp) ?_
      rw [unr]
      simp -implicitDefEqProofs
      refine field_NumMay_ok _ ?_
      cases h1 : nMay a with
      | false => simp -implicitDefEqProofs; exact Ans.of (by simp [evMay, evParts, h0, h1])
      | true =>
        simp -implicitDefEqProofs
        refine Gives.done (by simp) ?_
        rw [unr]
        simp -implicitDefEqProofs
        refine field_NumMay_ok _ ?_
        cases h2 : nMay b with
        | false => simp -implicitDefEqProofs; exact Ans.of (by simp [evMay, evParts, h0, h1, h2])
        | true =>
          simp -implicitDefEqProofs
          refine Gives.done (by simp) ?_
          rw [unr]
          simp -implicitDefEqProofs
          refine field_NumMay_ok _ ?_
          cases h3 : nMay t with
          | false => simp -implicitDefEqProofs; exact Ans.of (by simp [evMay, evParts, h0, h1, h2, h3])
          | true =>
            simp -implicitDefEqProofs
            refine Gives.done (by simp) ?_
            rw [unr]
            simp -implicitDefEqProofs
            refine joinP_go ?_
            by_cases c1 : u < 8
            · by_cases c2 : ad < 16
              · by_cases c3 : t ≤ 1048575
                · by_cases c4 : c ≤ 1048576
                  · simp -implicitDefEqProofs [c1, c2, c3, c4]
                    apply c_event_plain
                    unfold p_event_plain
                    simp -implicitDefEqProofs
                    apply c_event_parts
                    unfold p_event_parts
                    simp -implicitDefEqProofs [appP, appV, srcOf, cellsAt]
                    repeat (first | refine joinP_go ?_ | simp -implicitDefEqProofs [appP, appV, srcOf, cellsAt])
                    apply c_event_parts
                    unfold p_event_parts
                    simp -implicitDefEqProofs [appP, appV, srcOf, cellsAt]
                    repeat (first | refine joinP_go ?_ | simp -implicitDefEqProofs [appP, appV, srcOf, cellsAt])
                    refine loopP_unr 5 ?_
                    rw [unr]
                    simp -implicitDefEqProofs
                    refine Gives.done (by simp) ?_
                    rw [unr]
                    simp -implicitDefEqProofs
                    refine Gives.done (by simp) ?_
                    rw [unr]
                    simp -implicitDefEqProofs
                    refine Gives.done (by simp) ?_
                    rw [unr]
                    simp -implicitDefEqProofs
                    refine Gives.done (by simp) ?_
                    rw [unr]
                    simp -implicitDefEqProofs
                    have he := shEv ⟨6, u, s, ad, a, b, c, t⟩ ⟨6, 0, s, 0, a, b, 0, t⟩
                    simp only [Ev.row] at he
                    simp -implicitDefEqProofs [he]
                    exact Ans.of (by simp [evMay, evPlain, evOf, evParts, ev0, c1, c2, c3, c4, h0, h1, h2, h3, c0])
                  · simp -implicitDefEqProofs [c1, c2, c3, c4]; exact Ans.of (by simp [evMay, c4])
                · simp -implicitDefEqProofs [c1, c2, c3]; exact Ans.of (by simp [evMay, c3])
              · simp -implicitDefEqProofs [c1, c2]; exact Ans.of (by simp [evMay, c2])
            · simp -implicitDefEqProofs [c1]; exact Ans.of (by simp [evMay, c1])
theorem event_May_7 (hR : R.Ok) (u s ad a b c t : Int) {h : AHeap A} {K : AVal → AHeap A → Prop} (hk : K (.bool (evMay ⟨7, u, s, ad, a, b, c, t⟩)) h) : Tri Pr R n_event_May [.agg (Ev.row ⟨7, u, s, ad, a, b, c, t⟩)] h K := by
  refine Tri.fn1 hR _ rfl rfl ?_ hk
  apply c_event_May
  unfold p_event_May
  simp -implicitDefEqProofs [Ev.row]
  apply c_event_parts
  unfold p_event_parts
  simp -implicitDefEqProofs [appP, appV, srcOf, cellsAt]
  repeat (first | refine joinP_go ?_ | simp -implicitDefEqProofs [appP, appV, srcOf, cellsAt])
  refine loopP_unr 5 ?_
  rw [unr]
  simp -implicitDefEqProofs
  refine field_NumMay_ok _ ?_
  cases h0 : nMay u with
  | false => simp -implicitDefEqProofs; exact Ans.of (by simp [evMay, evParts, h0])
  | true =>
    simp -implicitDefEqProofs
    refine Gives.done (by simp) ?_
    rw [unr]
    simp -implicitDefEqProofs
    refine joinP_go ?_
    by_cases c1 : u < 8
    · by_cases c2 : ad < 16
      · by_cases c3 : t ≤ 1048575
        · by_cases c4 : c ≤ 1048576
          · simp -implicitDefEqProofs [c1, c2, c3, c4]
            apply c_event_plain
            unfold p_event_plain
            simp -implicitDefEqProofs
            apply c_event_parts
            unfold p_event_parts
            simp -implicitDefEqProofs [appP, appV, srcOf, cellsAt]
            repeat (first | refine joinP_go ?_ | simp -implicitDefEqProofs [appP, appV, srcOf, cellsAt])
            apply c_event_parts
            unfold p_event_parts
            simp -implicitDefEqProofs [appP, appV, srcOf, cellsAt]
            repeat (first | refine joinP_go ?_ | simp -implicitDefEqProofs [appP, appV, srcOf, cellsAt])
            refine loopP_unr 5 ?_
            rw [unr]
            simp -implicitDefEqProofs
            refine Gives.done (by simp) ?_
            rw [unr]
            simp -implicitDefEqProofs
            have he := shEv ⟨7, u, s, ad, a, b, c, t⟩ ⟨7, u, 0, 0, 0, 0, 0, 0⟩
            simp only [Ev.row] at he
            simp -implicitDefEqProofs [he]
            exact Ans.of (by simp [evMay, evPlain, evOf, evParts, ev0, c1, c2, c3, c4, h0])
          · simp -implicitDefEqProofs [c1, c2, c3, c4]; exact Ans.of (by simp [evMay, c4])
        · simp -implicitDefEqProofs [c1, c2, c3]; exact Ans.of (by simp [evMay, c3])
      · simp -implicitDefEqProofs [c1, c2]; exact Ans.of (by simp [evMay, c2])
    · simp -implicitDefEqProofs [c1]; exact Ans.of (by simp [evMay, c1])
theorem event_May_8 (hR : R.Ok) (u s ad a b c t : Int) {h : AHeap A} {K : AVal → AHeap A → Prop} (hk : K (.bool (evMay ⟨8, u, s, ad, a, b, c, t⟩)) h) : Tri Pr R n_event_May [.agg (Ev.row ⟨8, u, s, ad, a, b, c, t⟩)] h K := by
  refine Tri.fn1 hR _ rfl rfl ?_ hk
  apply c_event_May
  unfold p_event_May
  simp -implicitDefEqProofs [Ev.row]
  apply c_event_parts
  unfold p_event_parts
  simp -implicitDefEqProofs [appP, appV, srcOf, cellsAt]
  repeat (first | refine joinP_go ?_ | simp -implicitDefEqProofs [appP, appV, srcOf, cellsAt])
  refine loopP_unr 5 ?_
  rw [unr]
  simp -implicitDefEqProofs
  refine joinP_go ?_
  by_cases c1 : u < 8
  · by_cases c2 : ad < 16
    · by_cases c3 : t ≤ 1048575
      · by_cases c4 : c ≤ 1048576
        · simp -implicitDefEqProofs [c1, c2, c3, c4]
          apply c_event_plain
          unfold p_event_plain
          simp -implicitDefEqProofs
          apply c_event_parts
          unfold p_event_parts
          simp -implicitDefEqProofs [appP, appV, srcOf, cellsAt]
          repeat (first | refine joinP_go ?_ | simp -implicitDefEqProofs [appP, appV, srcOf, cellsAt])
          apply c_event_parts
          unfold p_event_parts
          simp -implicitDefEqProofs [appP, appV, srcOf, cellsAt]
          repeat (first | refine joinP_go ?_ | simp -implicitDefEqProofs [appP, appV, srcOf, cellsAt])
          refine loopP_unr 5 ?_
          rw [unr]
          simp -implicitDefEqProofs
          have he := shEv ⟨8, u, s, ad, a, b, c, t⟩ ⟨8, 0, 0, 0, 0, 0, 0, 0⟩
          simp only [Ev.row] at he
          simp -implicitDefEqProofs [he]
          exact Ans.of (by simp [evMay, evPlain, evOf, evParts, ev0, c1, c2, c3, c4])
        · simp -implicitDefEqProofs [c1, c2, c3, c4]; exact Ans.of (by simp [evMay, c4])
      · simp -implicitDefEqProofs [c1, c2, c3]; exact Ans.of (by simp [evMay, c3])
    · simp -implicitDefEqProofs [c1, c2]; exact Ans.of (by simp [evMay, c2])
  · simp -implicitDefEqProofs [c1]; exact Ans.of (by simp [evMay, c1])
theorem event_May_9 (hR : R.Ok) (u s ad a b c t : Int) {h : AHeap A} {K : AVal → AHeap A → Prop} (hk : K (.bool (evMay ⟨9, u, s, ad, a, b, c, t⟩)) h) : Tri Pr R n_event_May [.agg (Ev.row ⟨9, u, s, ad, a, b, c, t⟩)] h K := by
  refine Tri.fn1 hR _ rfl rfl ?_ hk
  apply c_event_May
  unfold p_event_May
  simp -implicitDefEqProofs [Ev.row]
  apply c_event_parts
  unfold p_event_parts
  simp -implicitDefEqProofs [appP, appV, srcOf, cellsAt]
  repeat (first | refine joinP_go ?_ | simp -implicitDefEqProofs [appP, appV, srcOf, cellsAt])
  refine loopP_unr 5 ?_
  rw [unr]
  simp -implicitDefEqProofs
  refine field_NumMay_ok _ ?_
  cases h0 : nMay s with
  | false => simp -implicitDefEqProofs; exact Ans.of (by simp [evMay, evParts, h0])
  | true =>
    simp -implicitDefEqProofs
    refine Gives.done (by simp) ?_
    rw [unr]
    simp -implicitDefEqProofs
    refine joinP_go ?_
    by_cases c1 : u < 8
    · by_cases c2 : ad < 16
      · by_cases c3 : t ≤ 1048575
        · by_cases c4 : c ≤ 1048576
          · simp -implicitDefEqProofs [c1, c2, c3, c4]
            apply c_event_plain
            unfold p_event_plain
            simp -implicitDefEqProofs
            apply c_event_parts
            unfold p_event_parts
            simp -implicitDefEqProofs [appP, appV, srcOf, cellsAt]
            repeat (first | refine joinP_go ?_ | simp -implicitDefEqProofs [appP, appV, srcOf, cellsAt])
            apply c_event_parts
            unfold p_event_parts
            simp -implicitDefEqProofs [appP, appV, srcOf, cellsAt]
            repeat (first | refine joinP_go ?_ | simp -implicitDefEqProofs [appP, appV, srcOf, cellsAt])
            refine loopP_unr 5 ?_
            rw [unr]
            simp -implicitDefEqProofs
            refine Gives.done (by simp) ?_
            rw [unr]
            simp -implicitDefEqProofs
            have he := shEv ⟨9, u, s, ad, a, b, c, t⟩ ⟨9, 0, s, 0, 0, 0, 0, 0⟩
            simp only [Ev.row] at he
            simp -implicitDefEqProofs [he]
            exact Ans.of (by simp [evMay, evPlain, evOf, evParts, ev0, c1, c2, c3, c4, h0])
          · simp -implicitDefEqProofs [c1, c2, c3, c4]; exact Ans.of (by simp [evMay, c4])
        · simp -implicitDefEqProofs [c1, c2, c3]; exact Ans.of (by simp [evMay, c3])
      · simp -implicitDefEqProofs [c1, c2]; exact Ans.of (by simp [evMay, c2])
    · simp -implicitDefEqProofs [c1]; exact Ans.of (by simp [evMay, c1])
theorem event_May_ok (hR : R.Ok) (e : Ev) {h : AHeap A} {K : AVal → AHeap A → Prop} (hk : K (.bool (evMay e)) h) : Tri Pr R n_event_May [.agg e.row] h K := by
  obtain ⟨k, u, s, ad, a, b, c, t⟩ := e
  by_cases h0 : k < 0
  · refine Tri.fn1 hR _ rfl rfl ?_ hk
    apply c_event_May
    unfold p_event_May
    simp -implicitDefEqProofs [Ev.row, h0]; exact Ans.of (by simp [evMay]; omega)
  by_cases h1 : 9 < k
  · refine Tri.fn1 hR _ rfl rfl ?_ hk
    apply c_event_May
    unfold p_event_May
    simp -implicitDefEqProofs [Ev.row, h0, h1]; exact Ans.of (by simp [evMay]; omega)
  have hc : k = 0 ∨ k = 1 ∨ k = 2 ∨ k = 3 ∨ k = 4 ∨ k = 5 ∨ k = 6 ∨ k = 7 ∨ k = 8 ∨ k = 9 := by omega
  rcases hc with rfl | rfl | rfl | rfl | rfl | rfl | rfl | rfl | rfl | rfl
  · exact event_May_0 hR u s ad a b c t hk
  · exact event_May_1 hR u s ad a b c t hk
  · exact event_May_2 hR u s ad a b c t hk
  · exact event_May_3 hR u s ad a b c t hk
  · exact event_May_4 hR u s ad a b c t hk
  · exact event_May_5 hR u s ad a b c t hk
  · exact event_May_6 hR u s ad a b c t hk
  · exact event_May_7 hR u s ad a b c t hk
  · exact event_May_8 hR u s ad a b c t hk
  · exact event_May_9 hR u s ad a b c t hk
end Go.AI

/- States: an event upon a state. -/
set_option linter.all false
namespace Go.AI
variable {A : Type} {R : Adts A}
variable {m t c e : Nat} {C : Cfg} {E : Ev} {h : AHeap A} {s : Sta} {xu xs xa xp : AVal}
/-- What is asked of a state's numbers. -/
structure StaIn (s : Sta) : Prop where
  epoch : -9223372036854775808 ≤ s.epoch
  used : ∀ u ∈ s.users, -9223372036854775808 ≤ u.used
theorem TK.of {o o' : Option Sta} {K : AVal → AHeap A → Prop} (ho : o = o') (hk : TK m t c e C E h o' K) : TK m t c e C E h o K := ho ▸ hk
theorem turn_does_ok (hR : R.Ok) (T : Tn m t c e C E h s xu xs xa xp) (hle : StaLe s 2000000) (hE : EvIn E) (hC : 1 ≤ C.quarantine ∧ C.quarantine ≤ 65536) (hs : StaIn s) {K : AVal → AHeap A → Prop}
    (hk : TK m t c e C E h (sDoes C s E) K) : Tri Pr R n_state_turn_does [.ptr t 0] h K := by
  have tt := T.tt
  have ee := T.ee
  unfold tCells at tt
  unfold Ev.row at ee
  apply c_state_turn_does
  unfold p_state_turn_does
  by_cases k0 : E.kind = 0
  · simp -implicitDefEqProofs [tt, ee, AObj.read, k0]
    refine turn_boot_ok hR T hle hE hC ?_
    unfold sDoes at hk
    rw [if_pos k0] at hk
    exact hk
  have k0' : (E.kind == 0) = false := by simpa using k0
  by_cases k1 : E.kind = 1
  · simp -implicitDefEqProofs [tt, ee, AObj.read, k1]
    refine turn_user_ok hR T hle ?_
    unfold sDoes at hk
    rw [if_neg k0, if_pos k1] at hk
    exact hk
  have k1' : (E.kind == 1) = false := by simpa using k1
  by_cases k5 : E.kind = 5
  · simp -implicitDefEqProofs [tt, ee, AObj.read, k5]
    refine turn_lease_ok hR T hle hE ?_
    unfold sDoes at hk
    rw [if_neg k0, if_neg k1, if_pos k5] at hk
    exact hk
  have k5' : (E.kind == 5) = false := by simpa using k5
  by_cases k6 : E.kind = 6
  · simp -implicitDefEqProofs [tt, ee, AObj.read, k6]
    refine turn_closes_ok hR T hle hE hs.used ?_
    unfold sDoes at hk
    rw [if_neg k0, if_neg k1, if_neg k5, if_pos k6] at hk
    refine TK.of ?_ hk
    cases xAt s.sess E.session with
    | none => rfl
    | some k =>
      dsimp only
      cases pFree s.addrs (s.sess.getD k ses0).address E.tick with
      | none => rfl
      | some l =>
        dsimp only
        unfold sesUsed
        cases uAt s.users (s.sess.getD k ses0).user <;> rfl
  have k6' : (E.kind == 6) = false := by simpa using k6
  by_cases k8 : E.kind = 8
  · unfold sDoes at hk
    rw [if_neg k0, if_neg k1, if_neg k5, if_neg k6, if_pos k8] at hk
    by_cases h1 : s.epoch < 1073741823
    · rw [if_pos h1] at hk
      simp -implicitDefEqProofs [tt, ee, AObj.read, k8, h1]
      exact rotate_ok hR T h1 hs.epoch fun h' T' kp => hk.2 _ rfl _ _ _ _ h' T' kp
    · rw [if_neg h1] at hk
      simp -implicitDefEqProofs [tt, ee, AObj.read, k8, h1]
      exact hk.1 rfl h fun _ _ => rfl
  have k8' : (E.kind == 8) = false := by simpa using k8
  by_cases k9 : E.kind = 9
  · simp -implicitDefEqProofs [tt, ee, AObj.read, k9]
    refine turn_spend_ok hR T hle ?_
    unfold sDoes at hk
    rw [if_neg k0, if_neg k1, if_neg k5, if_neg k6, if_neg k8, if_pos k9] at hk
    exact hk
  have k9' : (E.kind == 9) = false := by simpa using k9
  unfold sDoes at hk
  rw [if_neg k0, if_neg k1, if_neg k5, if_neg k6, if_neg k8, if_neg k9] at hk
  simp -implicitDefEqProofs [tt, ee, AObj.read, k0', k1', k5', k6', k8', k9']
  have mt := T.mt
  have tl := T.tl
  refine state_User_ok hR T.fldU T.rdU hle.u _ (fun hu => ?_) (fun j p2 hu hp2 => ?_)
  · rw [hu] at hk
    apply c_state_turn_of
    unfold p_state_turn_of
    simp -implicitDefEqProofs
    refine hk.1 rfl _ fun k hk => ?_
    rw [List.getElem?_append_left (by omega)]
  · rw [hu] at hk
    have hj : j < s.users.length := (List.findIdx?_eq_some_iff_getElem.1 hu).1
    obtain ⟨b, hb, hix, _⟩ := T.u.el usrR hj
    obtain rfl := idx_uniq hp2 hix
    have T2 := T.move (h' := h ++ [.cells t_int [.int .i64 E.user]]) (fun k hk => by rw [List.getElem?_append_left hk])
    have kp2 : ∀ k, k < m → (h ++ [.cells t_int [.int .i64 E.user]] : AHeap A)[k]? = h[k]? := fun k hk => by rw [List.getElem?_append_left (by omega)]
    refine turn_of_ok hR T2 hj hb hE ?_
    dsimp only at hk
    rw [usr_get hj] at hk
    refine ⟨fun ho h' kp => ?_, fun s' ho xu xs xa xp h' T' kp => ?_⟩
    · simp -implicitDefEqProofs
      exact hk.1 ho h' fun k hk => (kp k hk).trans (kp2 k hk)
    · simp -implicitDefEqProofs
      exact hk.2 s' ho xu xs xa xp h' T' fun k hk => (kp k hk).trans (kp2 k hk)
/-- A state's slices are never written again. -/
theorem sta_fz {s : Sta} {xu xs xa xp : AVal} {h : AHeap A} (hu : Own Usr.row 9 t_api_User xu s.users h) (hx : Own Ses.row 4 t_api_Session xs s.sess h) (ha : IsFz Adr.row xa s.addrs) (hp : Own iRow 1 t_int xp s.spent h) (ux : ∀ b, xu.blk = some b → xs.blk ≠ some b) (up : ∀ b, xu.blk = some b → xp.blk ≠ some b) (xp' : ∀ b, xs.blk = some b → xp.blk ≠ some b) (er : Int) :
    Gives Pr R 0 h [.tup [.agg [.int .i64 s.boots, .int .i64 s.epoch, .int .i64 s.next, xu, xs, xa, xp], .int .i64 er]] fun vs _ => ∃ u, vs = [u] ∧ (∃ sv, u = .tup [sv, .int .i64 er] ∧ IsSta sv s) ∧ u.ix 0 = true := by
  have fa : ∀ i blk base spare sz cs, xa.frz i blk base spare sz cs = xa := fun i blk base spare sz cs => frz_ix0 i blk base spare sz cs xa ha.ix0
  refine Gives.fzO usrR (V := fun v => [.tup [.agg [.int .i64 s.boots, .int .i64 s.epoch, .int .i64 s.next, v, xs, xa, xp], .int .i64 er]]) hu (fun b hb blk base spare cs => ?_) (Nat.zero_le _) fun u' hu' h1 l1 f1 => ?_
  · simp [frzs, AVal.frz, fa, hx.frz (ux b hb), hp.frz (up b hb)]
  have hx1 : Own Ses.row 4 t_api_Session xs s.sess h1 := by
    rcases hx with ⟨rfl, h0⟩ | ⟨b, cap, ex, cs, rfl, hb, hl, hc, ht, hix⟩
    · exact .inl ⟨rfl, h0⟩
    · exact .inr ⟨b, cap, ex, cs, rfl, f1 b _ cs (fun h => ux b h rfl) hb hix, hl, hc, ht, hix⟩
  have hp1 : Own iRow 1 t_int xp s.spent h1 := by
    rcases hp with ⟨rfl, h0⟩ | ⟨b, cap, ex, cs, rfl, hb, hl, hc, ht, hix⟩
    · exact .inl ⟨rfl, h0⟩
    · exact .inr ⟨b, cap, ex, cs, rfl, f1 b _ cs (fun h => up b h rfl) hb hix, hl, hc, ht, hix⟩
  have fu : ∀ i blk base spare sz cs, u'.frz i blk base spare sz cs = u' := fun i blk base spare sz cs => frz_ix0 i blk base spare sz cs u' hu'.ix0
  refine Gives.fzO sesR (V := fun v => [.tup [.agg [.int .i64 s.boots, .int .i64 s.epoch, .int .i64 s.next, u', v, xa, xp], .int .i64 er]]) hx1 (fun b hb blk base spare cs => ?_) (Nat.zero_le _) fun x' hx' h2 l2 f2 => ?_
  · simp [frzs, AVal.frz, fa, fu, hp1.frz (xp' b hb)]
  have hp2 : Own iRow 1 t_int xp s.spent h2 := by
    rcases hp1 with ⟨rfl, h0⟩ | ⟨b, cap, ex, cs, rfl, hb, hl, hc, ht, hix⟩
    · exact .inl ⟨rfl, h0⟩
    · exact .inr ⟨b, cap, ex, cs, rfl, f2 b _ cs (fun h => xp' b h rfl) hb hix, hl, hc, ht, hix⟩
  have fx : ∀ i blk base spare sz cs, x'.frz i blk base spare sz cs = x' := fun i blk base spare sz cs => frz_ix0 i blk base spare sz cs x' hx'.ix0
  refine Gives.fzO intR (V := fun v => [.tup [.agg [.int .i64 s.boots, .int .i64 s.epoch, .int .i64 s.next, u', x', xa, v], .int .i64 er]]) hp2 (fun b hb blk base spare cs => ?_) (Nat.zero_le _) fun p' hp' h3 l3 f3 => ?_
  · simp [frzs, AVal.frz, fa, fu, fx]
  exact Gives.done (Nat.zero_le _) ⟨_, rfl, ⟨_, rfl, ⟨_, _, _, _, rfl, hu', hx', ha, hp'⟩⟩, by simp [AVal.ix, ixs, hu'.ix0, hx'.ix0, ha.ix0, hp'.ix0]⟩
theorem state_Apply_ok (hR : R.Ok) (C : Cfg) {sv : AVal} {s : Sta} (hsv : IsSta sv s) (hle : StaLe s 2000000) (hs : StaIn s) (E : Ev) {h : AHeap A} {K : AVal → AHeap A → Prop} (hk : ∀ sv', IsSta sv' (sApply C s E).1 → K (.tup [sv', .int .i64 (sApply C s E).2]) h) : Tri Pr R n_state_Apply [.agg C.row, sv, .agg E.row] h K := by
  have hix := hsv.ix
  refine Tri.fzfn hR (fun v => ∃ sv', v = .tup [sv', .int .i64 (sApply C s E).2] ∧ IsSta sv' (sApply C s E).1) (by simp [ixs, hix, AVal.ix, Cfg.row, Ev.row]) ?_ (by rintro v ⟨sv', rfl, h1⟩ _; exact hk sv' h1)
  obtain ⟨u, x, a, p, rfl, hu, hx, ha, hp⟩ := hsv
  have su := hu.sc
  have sx := hx.sc
  have sa := ha.sc
  have sp := hp.sc
  have no0 : sMay C s E = false → ∀ g : AHeap A, Gives Pr R 0 g [.tup [.agg [.int .i64 0, .int .i64 0, .int .i64 0, .nils, .nils, .nils, .nils], .int .i64 2000]] fun vs _ => ∃ u, vs = [u] ∧ (∃ sv', u = .tup [sv', .int .i64 (sApply C s E).2] ∧ IsSta sv' (sApply C s E).1) ∧ u.ix 0 = true := by
    intro hno g
    have : sApply C s E = (sta0, 2000) := by unfold sApply; rw [hno]; rfl
    rw [this]
    exact Gives.done (Nat.zero_le _) ⟨_, rfl, ⟨_, rfl, sta0_is⟩, rfl⟩
  apply c_state_Apply
  unfold p_state_Apply
  have rc : Cfg.row C = [.int .i64 C.sectors, .int .i64 C.halves, .int .i64 C.sessions, .int .i64 C.addresses, .int .i64 C.fails, .int .i64 C.lockout, .int .i64 C.halfLife, .int .i64 C.idle, .int .i64 C.absolute, .int .i64 C.quarantine, .int .i64 C.ticketLife, .int .i64 C.keep] := rfl
  have re : Ev.row E = [.int .i64 E.kind, .int .i64 E.user, .int .i64 E.session, .int .i64 E.address, .int .i64 E.a, .int .i64 E.b, .int .i64 E.c, .int .i64 E.tick] := rfl
  simp -implicitDefEqProofs [rc, re, su, sx, sa, sp]
  refine state_ConfigMay_ok hR C (e := t_api_Config) (by rfl) ?_
  by_cases h1 : cMay C = true
  case neg =>
    have h1' : cMay C = false := by simpa using h1
    rw [h1']
    simp -implicitDefEqProofs
    exact no0 (by unfold sMay; rw [h1']; rfl) _
  rw [h1]
  simp -implicitDefEqProofs
  refine event_May_ok hR E ?_
  by_cases h2 : evMay E = true
  case neg =>
    have h2' : evMay E = false := by simpa using h2
    rw [h2']
    simp -implicitDefEqProofs
    exact no0 (by unfold sMay; rw [h1, h2']; rfl) _
  rw [h2]
  have la := (ha.rd adrR ([] : AHeap A)).len
  by_cases h3 : (s.addrs.length : Int) = C.addresses
  case neg =>
    have h3' : ((s.addrs.length : Int) != C.addresses) = true := by simpa using h3
    simp -implicitDefEqProofs [la, h3']
    exact no0 (by unfold sMay; rw [h1, h2]; simpa using h3) _
  have h3' : ((s.addrs.length : Int) != C.addresses) = false := by simpa using h3
  have hmay : sMay C s E = true := by unfold sMay; rw [h1, h2]; simpa using h3
  simp -implicitDefEqProofs [la, h3']
  refine state_Copy_ok hR ⟨_, _, _, _, rfl, hu, hx, ha, hp⟩ hle (by omega) fun xu xs xa xp h' cp kp lp => ?_
  simp only [List.length_cons, List.length_nil] at cp kp lp
  have s1 := cp.u.sc
  have s2 := cp.x.sc
  have s3 := cp.a.sc
  have s4 := cp.p.sc
  have k0 := kp 0 (by omega)
  have k2 := kp 2 (by omega)
  have k3 := kp 3 (by omega)
  simp only [List.getElem?_cons_zero, List.getElem?_cons_succ] at k0 k2 k3
  have T : Tn 4 h'.length 0 2 C E (h' ++ [.cells t_state_turn (tCells 0 2 s xu xs xa xp)]) s xu xs xa xp := by
    have mv : ∀ k, k < h'.length → (h' ++ [.cells t_state_turn (tCells 0 2 s xu xs xa xp)] : AHeap A)[k]? = h'[k]? := fun k hk => List.getElem?_append_left hk
    exact { tt := by simp
            cc := by rw [mv 0 (by omega), k0, rc]
            ee := by rw [mv 2 (by omega), k2, re]
            u := cp.u.move' fun b hb => mv b (cp.u.blt hb)
            x := cp.x.move' fun b hb => mv b (cp.x.blt hb)
            a := cp.a
            p := cp.p.move' fun b hb => mv b (cp.p.blt hb)
            mt := by omega
            mc := by omega
            me := by omega
            bu := fun b hb => ⟨cp.bu b hb, by have := cp.u.blt hb; omega⟩
            bx := fun b hb => ⟨cp.bx b hb, by have := cp.x.blt hb; omega⟩
            bp := fun b hb => ⟨cp.bp b hb, by have := cp.p.blt hb; omega⟩
            ux := cp.ux
            up := cp.up
            xp := cp.xp }
  have hq : 1 ≤ C.quarantine ∧ C.quarantine ≤ 65536 := by
    simp only [cMay, life, Bool.and_eq_true, decide_eq_true_eq] at h1; omega
  have kp3 : ∀ k, k < 4 → (h' ++ [.cells t_state_turn (tCells 0 2 s xu xs xa xp)] : AHeap A)[k]? = h'[k]? := fun k hk => List.getElem?_append_left (by omega)
  simp -implicitDefEqProofs [s1, s2, s3, s4]
  refine turn_does_ok hR T hle (evIn h2) hq hs ⟨fun ho h2 k2' => ?_, fun s' ho xu xs xa xp h2 T2 k2' => ?_⟩
  · have q3 := ((k2' 3 (by omega)).trans (kp3 3 (by omega))).trans k3
    have lt3 := (List.getElem?_eq_some_iff.1 q3).1
    have r3 : ∀ o, (h2.set 3 o)[3]? = some o := fun o => List.getElem?_set_self lt3
    have : sApply C s E = (sta0, 2001) := by unfold sApply; rw [hmay, if_pos rfl, ho]
    simp -implicitDefEqProofs [q3, AObj.read, r3]
    rw [this]
    exact Gives.done (Nat.zero_le _) ⟨_, rfl, ⟨_, rfl, sta0_is⟩, rfl⟩
  · have q3 := ((k2' 3 (by omega)).trans (kp3 3 (by omega))).trans k3
    have lt3 := (List.getElem?_eq_some_iff.1 q3).1
    have r3 : ∀ o, (h2.set 3 o)[3]? = some o := fun o => List.getElem?_set_self lt3
    have : sApply C s E = (s', 0) := by unfold sApply; rw [hmay, if_pos rfl, ho]
    have tt2 := T2.tt
    unfold tCells at tt2
    have s1 := T2.u.sc
    have s2 := T2.x.sc
    have s3 := T2.a.sc
    have s4 := T2.p.sc
    simp -implicitDefEqProofs [tt2, q3, AObj.read, s1, s2, s3, s4, r3]
    rw [this]
    exact sta_fz (T2.u.move' fun b hb => List.getElem?_set_ne (by have := (T2.bu b hb).1; omega)) (T2.x.move' fun b hb => List.getElem?_set_ne (by have := (T2.bx b hb).1; omega)) T2.a (T2.p.move' fun b hb => List.getElem?_set_ne (by have := (T2.bp b hb).1; omega)) T2.ux T2.up T2.xp 0
end Go.AI

/- errors.Is (printed by gen/is_gen.py after the kit's worked contracts). -/
set_option linter.all false
namespace Go.AI
open Go.RowKit Go.Extern.Stop Go.Stop Go.Extern Go.Proofs
theorem isTypeOf (v : Value) (w : World) : (Extern.ReflectliteType.typeOf #[.iface 27 v]).run Tryz.prog w = .ok (.iface 143 (.agg #[.pointer (some ⟨0, 27, none⟩)])) w := by kernel_rfl
def cmpFn : Array Value → Sem Value := Extern.ReflectliteType.method fun t => do Extern.Rtype.noPackHeld "Comparable" t; pure (.bool (← typeInfo t).comparable)
theorem isComparable (w : World) : (cmpFn #[.agg #[.pointer (some ⟨0, 27, none⟩)]]).run Tryz.prog w = .ok (.bool true) w := by kernel_rfl
theorem isMethodComparable (v : Value) (w : World) : (Go.method 316 143 v "Comparable").run Tryz.prog w = .ok (138, v) w := by kernel_rfl
theorem isComp : (Tryz.prog.info? 27).map (·.comparable) = some true := by kernel_rfl
theorem noIsE (v : Value) (xT : TypeId) (w : World) : (Instr.typeAssert (.iface 27 v) xT 145 true).run Tryz.prog w = .ok (.tuple #[.nilIface, .bool false]) w := run_typeAssert_lacksB Tryz.underlying145 (by kernel_rfl) (by kernel_rfl) v xT w
theorem noUnwrapE (v : Value) (xT : TypeId) (w : World) : (Instr.typeAssert (.iface 27 v) xT 147 true).run Tryz.prog w = .ok (.tuple #[.nilIface, .bool false]) w := run_typeAssert_lacksB Tryz.underlying147 (by kernel_rfl) (by kernel_rfl) v xT w
theorem noUnwrapsE (v : Value) (xT : TypeId) (w : World) : (Instr.typeAssert (.iface 27 v) xT 149 true).run Tryz.prog w = .ok (.tuple #[.nilIface, .bool false]) w := run_typeAssert_lacksB Tryz.underlying149 (by kernel_rfl) (by kernel_rfl) v xT w
set_option maxRecDepth 100000 in
theorem is_nil (b : Int) (w : World) :
    Calls Tryz.prog 37 #[.nilIface, .iface 27 (.int .i64 b)] w fun e w' => e = .returned (.bool false) ∧ w' = w := by
  have hn := run_eql_iface_nil_left (P := Tryz.prog) w 27 (.int .i64 b) Tryz.underlying58
  go_enter Tryz.func37, Tryz.ntmps37
  go_wp2
  go_ret
  exact ⟨rfl, rfl⟩
theorem noIs_audit_refused (v : Value) (xT : TypeId) (w : World) : (Instr.typeAssert (.iface 92 v) xT 145 true).run Tryz.prog w = .ok (.tuple #[.nilIface, .bool false]) w := run_typeAssert_lacksB Tryz.underlying145 (by kernel_rfl) (by kernel_rfl) v xT w
theorem hasUnwrap_audit_refused (v : Value) (xT : TypeId) (w : World) : (Instr.typeAssert (.iface 92 v) xT 147 true).run Tryz.prog w = .ok (.tuple #[.iface 92 v, .bool true]) w := run_typeAssert_hasB Tryz.underlying147 (by kernel_rfl) v xT w
theorem methodUnwrap_audit_refused (v : Value) (w : World) : (Go.method 316 92 v "Unwrap").run Tryz.prog w = .ok (134, v) w := by kernel_rfl

set_option maxRecDepth 100000 in
theorem is_audit_refused (pb po : Nat) (a b : Int) (w : World) (h1 : w.cell? ⟨pb, po + 1, none⟩ = some (.iface 27 (.int .i64 a))) :
    Calls Tryz.prog 37 #[.iface 92 (.pointer (some ⟨pb, po, none⟩)), .iface 27 (.int .i64 b)] w fun e w' => e = .returned (.bool (a == b)) ∧ w' = w := by
  have h8 := @run_callFunc_extern Tryz.prog 52 _ Extern.ReflectliteType.typeOf Tryz.func52 (by kernel_rfl) (by kernel_rfl) (by kernel_rfl) (by kernel_rfl)
  have h32 := @run_callFunc_extern Tryz.prog 138 _ cmpFn Tryz.func138 (by kernel_rfl) (by kernel_rfl) (by kernel_rfl) (by kernel_rfl)
  have tT := isTypeOf
  have cT := isComparable
  have mR := isMethodComparable
  have nE := noIsE
  have uE := noUnwrapE
  have vE := noUnwrapsE
  have nW := noIs_audit_refused
  have uW := hasUnwrap_audit_refused
  have mU := methodUnwrap_audit_refused
  have hty := run_eql_iface_types (P := Tryz.prog) 92 27 (.pointer (some ⟨pb, po, none⟩)) (.int .i64 b) Tryz.underlying58 (by decide) w
  by_cases hab : a = b
  · subst hab
    have heq := Go.Lib.run_eql_iface_int (P := Tryz.prog) w (k := .i64) a a Tryz.underlying58 isComp Tryz.underlying27
    simp only [beq_self_eq_true] at heq ⊢
    go_enter Tryz.func37, Tryz.ntmps37
    go_wp2
    refine wp_loop_rounds 2 ?_
    rw [rounds_succ]
    go_wp2
    rw [rounds_succ]
    go_wp2
    go_ret
    exact ⟨rfl, rfl⟩
  · have heq := Go.Lib.run_eql_iface_int (P := Tryz.prog) w (k := .i64) a b Tryz.underlying58 isComp Tryz.underlying27
    have hb : (a == b) = false := by simpa using hab
    rw [hb] at heq ⊢
    go_enter Tryz.func37, Tryz.ntmps37
    go_wp2
    refine wp_loop_rounds 2 ?_
    rw [rounds_succ]
    go_wp2
    rw [rounds_succ]
    go_wp2
    go_ret
    exact ⟨rfl, rfl⟩

section
variable {A : Type} {R : Adts A}
theorem two_VRs {ρ : Pl} {a b : AVal} {vs : List Value} (hv : VRs ρ [a, b] vs) (ha : a ≠ .any) (hb : b ≠ .any) (ha2 : ∀ l, a ≠ .tup l) (hb2 : ∀ l, b ≠ .tup l) : vs = [conc ρ a, conc ρ b] := by
  obtain ⟨hl, hg⟩ := hv
  obtain ⟨v0, h0, r0⟩ := hg 0 _ rfl
  obtain ⟨v1, h1, r1⟩ := hg 1 _ rfl
  have e0 := r0.eq ha ha2
  have e1 := r1.eq hb hb2
  match vs, hl with
  | [x, y], _ =>
    simp at h0 h1
    rw [h0, h1, e0, e1]
theorem Is_nil_ok (b : Int) {h : AHeap A} {K : AVal → AHeap A → Prop} (hk : K (.bool false) h) : Tri Pr R n_errors_Is [.nili, .iface t_api_Errno (.int .i64 b)] h K := by
  intro ρ ow w vs hr hv hb
  have := two_VRs hv (by simp) (by simp) (by simp) (by simp)
  subst this
  refine Calls.mono (is_nil b w) ?_
  rintro e w' ⟨rfl, rfl⟩
  exact ⟨.bool false, _, ρ, ow, h, rfl, hk, VR.of_eq ρ (.bool false), trivial, hr, Fr.refl _ _ _ _⟩
theorem Is_audit_refused_ok (a b : Int) {h : AHeap A} {j : Nat} {t : TypeId} {cs : List AVal} (hj : h[j]? = some (.cells t cs)) (hc : cs[1]? = some (.iface t_api_Errno (.int .i64 a))) {K : AVal → AHeap A → Prop} (hk : K (.bool (a == b)) h) :
    Tri Pr R n_errors_Is [.iface t_p_audit_refused (.ptr j 0), .iface t_api_Errno (.int .i64 b)] h K := by
  intro ρ ow w vs hr hv hb
  have := two_VRs hv (by simp) (by simp) (by simp) (by simp)
  subst this
  have hcell := cell_at hr (show cellsAt h j = some cs by simp [cellsAt, hj, AObj.read]) hc
  refine Calls.mono (is_audit_refused (ρ j).blk ((ρ j).base + 0) a b w (by simpa [conc] using hcell)) ?_
  rintro e w' ⟨rfl, rfl⟩
  exact ⟨.bool (a == b), _, ρ, ow, h, rfl, hk, VR.of_eq ρ (.bool (a == b)), trivial, hr, Fr.refl _ _ _ _⟩
end
end Go.AI
