/- Journals: the boot's number, the next record. -/
import Derived.Test.YtjnnihaofffkfaaGreatMcJournals
set_option linter.all false
namespace Go.AI
variable {A : Type} {R : Adts A}
/-- The journal's own cells. -/
def jCells (b d : Nat) (boot prev : Int) (ev : AVal) (over : Bool) : AObj A := .cells t_journal_Journal [.ptr b 0, .ptr d 0, .int .i64 boot, .int .i64 prev, ev, .bool over]
/-- The events' slice, and where they lie. -/
def EvAt (x : AVal) (es : List Ev) (e : Nat) (h : AHeap A) : Prop := (es = [] ∧ x = .nils) ∨ (es ≠ [] ∧ x = .sl e 0 es.length es.length false ∧ h[e]? = some (.cells t_api_Event (es.flatMap Ev.row)))
theorem EvAt.len {x : AVal} {es : List Ev} {e : Nat} {h : AHeap A} (he : EvAt x es e h) (K : AVal → Prop) : lenP x K = K (.int .i64 es.length) := by
  rcases he with ⟨rfl, rfl⟩ | ⟨_, rfl, _⟩ <;> simp
theorem EvAt.ix {x : AVal} {es : List Ev} {e : Nat} {h : AHeap A} (he : EvAt x es e h) : x.ix h.length = true := by
  rcases he with ⟨rfl, rfl⟩ | ⟨_, rfl, h1⟩
  · rfl
  · have := (List.getElem?_eq_some_iff.1 h1).1
    simpa [AVal.ix] using this
theorem EvAt.move {x : AVal} {es : List Ev} {e : Nat} {h h' : AHeap A} (he : EvAt x es e h) (hh : es ≠ [] → h'[e]? = h[e]?) : EvAt x es e h' := by
  rcases he with ⟨rfl, rfl⟩ | ⟨h0, rfl, h1⟩
  · exact .inl ⟨rfl, rfl⟩
  · exact .inr ⟨h0, rfl, by rw [hh h0]; exact h1⟩
theorem EvAt.app {x : AVal} {es : List Ev} {e : Nat} {h : AHeap A} (he : EvAt x es e h) (r : AHeap A) : EvAt x es e (h ++ r) := by
  rcases he with ⟨rfl, rfl⟩ | ⟨h0, rfl, h1⟩
  · exact .inl ⟨rfl, rfl⟩
  · exact .inr ⟨h0, rfl, by rw [List.getElem?_append_left (List.getElem?_eq_some_iff.1 h1).1]; exact h1⟩
theorem room_64 {n : Nat} (h : n ≤ 100000) : (2 * n + 1000) * 64 ≤ 140737488355328 := by omega
theorem app_evs {x a : AVal} {es l : List Ev} {e : Nat} {h : AHeap A} (he : EvAt x es e h) (hs : srcOf 8 h a = some (l.length, l.flatMap Ev.row)) (hn : es.length + l.length ≤ 10000) {K : AVal → AHeap A → Prop}
    (hk : ∀ x' e' h', EvAt x' (es ++ l) e' h' → (∀ k, (es = [] ∨ k ≠ e) → k < h.length → h'[k]? = h[k]?) → h.length ≤ h'.length → ((es ≠ [] ∧ e' = e) ∨ h.length ≤ e') → K x' h') : appP t_api_Event 8 64 x a h K := by
  have r1 := room_64 (n := es.length + l.length) (by omega)
  have hl1 := evs_len es
  have hl2 := evs_len l
  unfold appP appV
  rw [hs]
  dsimp only
  rcases he with ⟨rfl, rfl⟩ | ⟨h0, rfl, h1⟩
  · dsimp only
    by_cases hl : l = []
    · subst hl
      simp only [List.length_nil, if_true, optH]
      exact hk _ h.length _ (.inl ⟨rfl, rfl⟩) (fun _ _ _ => rfl) (Nat.le_refl _) (.inr (Nat.le_refl _))
    · have h3 : ¬ l.length = 0 := fun h => hl (List.length_eq_zero_iff.1 h)
      have h4 : 0 < 64 ∧ l.length * 64 ≤ 140737488355328 := by omega
      rw [if_neg h3, if_pos h4]
      simp only [optH]
      refine hk _ h.length _ (.inr ⟨by simpa using hl, by simp, by simp⟩) (fun k _ hk' => by rw [List.getElem?_append_left hk']) (by simp) (.inr (Nat.le_refl _))
  · have hlt := (List.getElem?_eq_some_iff.1 h1).1
    dsimp only
    by_cases hl : l = []
    · subst hl
      rw [if_pos (by simp)]
      simp only [List.length_nil, List.flatMap_nil]
      have hset : setAt h e (0 + es.length * 8) [] = some h := by
        unfold setAt
        rw [h1]
        dsimp only
        rw [if_pos ⟨by simp only [List.length_nil]; omega, rfl⟩]
        have : over (es.flatMap Ev.row) (0 + es.length * 8) [] = es.flatMap Ev.row := by
          unfold over
          simp
        rw [this, set_same h1]
      rw [hset]
      simp only [Option.map_some, optH]
      exact hk _ e _ (.inr ⟨by simpa using h0, by simp, by simpa using h1⟩) (fun _ _ _ => rfl) (Nat.le_refl _) (.inl ⟨h0, rfl⟩)
    · have h3 : ¬ es.length + l.length ≤ es.length := by have := List.length_pos_iff.2 hl; omega
      rw [if_neg h3, h1]
      dsimp only
      have hsc : (l.flatMap Ev.row).all AVal.scalar = true := by
        rw [List.all_flatMap, List.all_eq_true]
        intro y _
        rfl
      rw [if_pos ⟨by omega, by omega, .inr r1⟩, if_neg (by simp), if_pos ⟨rfl, by omega, hsc⟩]
      simp only [optH]
      have t1 : (es.flatMap Ev.row).take (es.length * 8) = es.flatMap Ev.row := List.take_of_length_le (by omega)
      refine hk _ h.length _ (.inr ⟨by simp [h0], by simp, ?_⟩) (fun k hk1 hk' => ?_) (by simp) (.inr (Nat.le_refl _))
      · rw [List.getElem?_append_right (by simp)]
        simp [t1]
      · have hke : k ≠ e := by rcases hk1 with h | h; exact absurd h h0; exact h
        rw [List.getElem?_append_left (by simpa using hk'), List.getElem?_set_ne (Ne.symm hke)]
section
variable {bk : Int → List Bs → A} {dk : List Bs → Ws → Bool → A}
theorem Room_raw (hR : R.Ok) (hD : HasDisk R dk) {h : AHeap A} {j b d n : Nat} {boot prev : Int} {ev : AVal} {over dn : Bool} {k : List Bs} {w : Ws} (hj : h[j]? = some (jCells b d boot prev ev over)) (hd : h[d]? = some (.adt (dk k w dn))) (hl : ∀ K : AVal → Prop, lenP ev K = K (.int .i64 n))
    (hn : n ≤ 10000) (hkl : k.length ≤ 256) {K : AVal → AHeap A → Prop} (hk : K (.int .i64 ((k.length : Int) - 2 - n)) h) : Tri Pr R n_journal_Journal_Room [.ptr j 0] h K := by
  unfold jCells at hj
  apply c_journal_Journal_Room
  unfold p_journal_Journal_Room
  simp -implicitDefEqProofs [cellsAt, hj, AObj.read, hl]
  refine disk_Size_ok hR hD hd ?_
  have e1 := w64 (n := (k.length : Int) - 2) (by omega)
  have e2 := w64 (n := (k.length : Int) - 2 - n) (by omega)
  simp -implicitDefEqProofs [cellsAt, hj, AObj.read, hl, e1, e2]
  exact hk
theorem sPick_may (ts : List Bs) (s t : Bs) : 0 ≤ (sPick ts s t).1 ∧ (sPick ts s t).1 ≤ 1023 ∧ ((sPick ts s t).2.1 = 0 ∨ (sPick ts s t).2.1 = 1) ∧ ((sPick ts s t).2.2 = 0 ∨ ((sPick ts s t).2.2 = 1001 ∧ (sPick ts s t).1 = 0 ∧ (sPick ts s t).2.1 = 0)) := by
  obtain ⟨a1, a2, a3⟩ := sGet_err ts s
  obtain ⟨b1, b2, b3⟩ := sGet_err ts t
  unfold sPick
  split
  · simp
  · split
    · rename_i h
      have := a3 h.1
      refine ⟨by omega, this.2, .inr rfl, .inl rfl⟩
    · rcases (show (sGet ts t).2 = 0 ∨ (sGet ts t).2 ≠ 0 by omega) with h | h
      · have := b3 h
        exact ⟨by omega, this.2, .inl rfl, .inl rfl⟩
      · have := b2 h
        exact ⟨by simp only; omega, by simp only; omega, .inl rfl, .inl rfl⟩
theorem getD_len {l : List Bs} (h : ∀ s ∈ l, s.length = 64) {i : Nat} (hi : i < l.length) : (l.getD i []).length = 64 := by
  rw [List.getD_eq_getElem?_getD, List.getElem?_eq_getElem hi]
  exact h _ (List.getElem_mem hi)
theorem began_ok (hR : R.Ok) (hB : HasBook R bk) (hD : HasDisk R dk) {m : Int} {ts t : List Bs} {k : List Bs} {w : Ws} {s : Bs} {b0 prev boot at_ e f : Int} {ev : AVal} {over : Bool} (hok : bOk m ts) (hdk : dOk k w) (hw : w.length ≤ 900) (hsz : 2 < k.length)
    (he1 : sPick ts ((dPut k w).getD 0 []) ((dPut k w).getD 1 []) = (boot, at_, e)) (he2 : sPut m ts (boot + 1) = (t, s, f)) {K : AVal → AHeap A → Prop}
    (hk1 : f ≠ 0 → K (.iface t_p_journal_place (.ptr 3 0)) [.adt (bk m t), .adt (dk k w false), jCells 0 1 b0 prev ev over, .cells t_journal_place [.int .i64 0, .iface t_api_Errno (.int .i64 1101)]])
    (hk2 : f = 0 → K .nili [.adt (bk m t), .adt (dk (dPut k (w ++ [(at_, s)])) [] false), jCells 0 1 (boot + 1) prev ev over]) :
    Tri Pr R n_journal_Journal_began [.ptr 2 0] [.adt (bk m ts), .adt (dk k w false), jCells 0 1 b0 prev ev over] K := by
  have hd := hdk.size
  have hpl := dPut_len k w
  have hpf := dPut_full hdk
  have r0 : dRead k w false 0 = ((dPut k w).getD 0 [], 0) := by
    unfold dRead; rw [if_neg (by simp), if_neg (by omega)]; rfl
  have r1 : dRead k w false 1 = ((dPut k w).getD 1 [], 0) := by
    unfold dRead; rw [if_neg (by simp), if_neg (by omega)]; rfl
  have l0 := getD_len hpf (i := 0) (by omega)
  have l1 := getD_len hpf (i := 1) (by omega)
  obtain ⟨p1, p2, p3, p4⟩ := sPick_may ts ((dPut k w).getD 0 []) ((dPut k w).getD 1 [])
  rw [he1] at p1 p2 p3 p4
  dsimp only at p1 p2 p3 p4
  generalize (dPut k w).getD 0 [] = one at *
  generalize (dPut k w).getD 1 [] = two at *
  have e1 := w64 (n := boot + 1) (by omega)
  unfold jCells at *
  apply c_journal_Journal_began
  unfold p_journal_Journal_began
  simp -implicitDefEqProofs
  refine disk_Read_at hR hD hdk (by omega) r0 rfl ?_
  simp -implicitDefEqProofs
  refine disk_Read_at hR hD hdk (by omega) r1 rfl ?_
  simp -implicitDefEqProofs
  refine super_Pick_ok hR hB one two (by omega) (by omega) rfl ?_
  rw [he1]
  simp -implicitDefEqProofs
  refine joinP_all (fun vs g => vs = [.int .i64 boot, .int .i64 at_] ∧ g = [.adt (bk m ts), .adt (dk k w false), .cells t_journal_Journal [.ptr 0 0, .ptr 1 0, .int .i64 b0, .int .i64 prev, ev, .bool over]]) ?_ ?_
  · refine Is_errno_ok _ _ ?_
    rcases p4 with h | ⟨h, h1, h2⟩
    · subst h
      simp -implicitDefEqProofs
    · subst h h1 h2
      simp -implicitDefEqProofs
  rintro _ _ ⟨rfl, rfl⟩
  refine ⟨by simp, ?_⟩
  simp -implicitDefEqProofs [e1]
  refine super_Put_ok hR hB hok _ rfl ?_
  rw [he2]
  by_cases hf : f = 0
  · subst hf
    have sl := sPut_sec he2
    have w1 : dWrite k w false at_ s = (w ++ [(at_, s)], 0) := dWrite_good (by omega)
    have ok2 : dOk k (w ++ [(at_, s)]) := dOk_write hdk (by omega)
    simp -implicitDefEqProofs
    refine disk_Write_at hR hD hdk (by omega) w1 rfl ?_
    simp -implicitDefEqProofs
    refine disk_Flush_at hR hD ok2 (by simp; omega) rfl rfl ?_
    simp -implicitDefEqProofs
    exact hk2 rfl
  · have hf' : (f != 0) = true := by simpa using hf
    simp -implicitDefEqProofs [hf']
    exact hk1 hf
end
end Go.AI

/- Journals: the next record, and Open. -/
set_option linter.all false
namespace Go.AI
variable {A : Type} {R : Adts A}
section
variable {bk : Int → List Bs → A} {dk : List Bs → Ws → Bool → A}
theorem st_last {base : AHeap A} {t : TypeId} {cs new : List AVal} {n : Nat} {K : AHeap A → Prop} (h1 : new.length = n) (h2 : cs.length = n) (hs : new.all AVal.scalar = true) (hk : K (base ++ [.cells t new])) : stP n (.ptr base.length 0) (.agg new) (base ++ [.cells t cs]) K := by
  have h3 : over cs 0 new = new := by
    unfold over
    simp; omega
  have h4 : setAt (base ++ [AObj.cells t cs]) base.length 0 new = some (base ++ [.cells t new]) := by
    unfold setAt
    rw [List.getElem?_append_right (Nat.le_refl _)]
    simp only [Nat.sub_self, List.getElem?_cons_zero]
    rw [if_pos ⟨by omega, hs⟩, h3]
    simp
  unfold stP
  simp only [AVal.cs, h1, if_true, h4, hP]
  exact hk
theorem three {h : AHeap A} {a b c : AObj A} (h0 : h[0]? = some a) (h1 : h[1]? = some b) (h2 : h[2]? = some c) : ∃ r, h = a :: b :: c :: r := by
  match h, h0, h1, h2 with
  | x :: y :: z :: r, h0, h1, h2 =>
    simp at h0 h1 h2
    subst h0 h1 h2
    exact ⟨r, rfl⟩
theorem st_ev {x : AVal} {es : List Ev} {e : Nat} {g : AHeap A} (he : EvAt x es e g) {a b : AObj A} {t : TypeId} {v0 v1 v2 v3 v4 v5 : AVal} {r : AHeap A} (K : AHeap A → Prop) :
    stP 1 (.ptr 2 4) x (a :: b :: .cells t [v0, v1, v2, v3, v4, v5] :: r) K = K (a :: b :: .cells t [v0, v1, v2, v3, x, v5] :: r) := by
  rcases he with ⟨_, rfl⟩ | ⟨_, rfl, _⟩ <;> rfl
theorem next_ok (hR : R.Ok) (hB : HasBook R bk) (hD : HasDisk R dk) {m : Int} {ts : List Bs} {k : List Bs} {w : Ws} {boot prev : Int} {ev : AVal} {over : Bool} {es : List Ev} {e : Nat} {u : AHeap A} (hdk : dOk k w) (hw : w.length ≤ 900)
    (hes : EvAt ev es e (.adt (bk m ts) :: .adt (dk k w false) :: jCells 0 1 boot prev ev over :: u)) (he3 : es ≠ [] → 3 ≤ e) (hn : es.length ≤ 300) {K : AVal → AHeap A → Prop}
    (hk : if (2 + es.length : Nat) < k.length then
        (match recGet ts ((dPut k w).getD (2 + es.length) []) (es.length + 1) prev with
         | (r, name, f) => if f = 0 then ∀ x' e' h', EvAt x' (es ++ [r.ev]) e' (.adt (bk m ts) :: .adt (dk k w false) :: jCells 0 1 boot name x' over :: h') → 3 ≤ e' → u.length ≤ h'.length → K .nili (.adt (bk m ts) :: .adt (dk k w false) :: jCells 0 1 boot name x' over :: h')
            else ∀ x r, K (.iface t_p_journal_place x) (.adt (bk m ts) :: .adt (dk k w false) :: jCells 0 1 boot prev ev over :: (u ++ r)))
      else ∀ x r, K (.iface t_p_journal_place x) (.adt (bk m ts) :: .adt (dk k w false) :: jCells 0 1 boot prev ev over :: (u ++ r))) :
    Tri Pr R n_journal_Journal_next [.ptr 2 0] (.adt (bk m ts) :: .adt (dk k w false) :: jCells 0 1 boot prev ev over :: u) K := by
  have hd := hdk.size
  have hpl := dPut_len k w
  have hpf := dPut_full hdk
  have e1 := w64 (n := (es.length : Int) + 1) (by omega)
  have e2 := w64 (n := 2 + ((es.length : Int) + 1)) (by omega)
  have e3 := w64 (n := 2 + ((es.length : Int) + 1) - 1) (by omega)
  have hlen := hes.len
  apply c_journal_Journal_next
  unfold p_journal_Journal_next
  unfold jCells at *
  simp -implicitDefEqProofs [hlen, e1, e2, e3]
  by_cases h1 : (2 + es.length : Nat) < k.length
  · rw [if_pos h1] at hk
    have hx : 2 + ((es.length : Int) + 1) - 1 = ((2 + es.length : Nat) : Int) := by omega
    have r0 : dRead k w false (2 + ((es.length : Int) + 1) - 1) = ((dPut k w).getD (2 + es.length) [], 0) := by
      unfold dRead; rw [if_neg (by simp), if_neg (by omega), hx, Int.toNat_natCast]
    have l0 := getD_len hpf (i := 2 + es.length) (by omega)
    generalize (dPut k w).getD (2 + es.length) [] = s at *
    obtain ⟨⟨r, name, f⟩, hr⟩ : ∃ z, recGet ts s (es.length + 1) prev = z := ⟨_, rfl⟩
    rw [hr] at hk
    dsimp only at hk
    refine disk_Read_at hR hD hdk (by omega) r0 rfl ?_
    simp -implicitDefEqProofs
    refine joinP_all (fun vs g => vs = [.int .i64 f, .ptr (u.length + 3) 0, .int .i64 name] ∧ g = .adt (bk m ts) :: .adt (dk k w false) :: .cells t_journal_Journal [.ptr 0 0, .ptr 1 0, .int .i64 boot, .int .i64 prev, ev, .bool over] :: (u ++ [.cells t_api_Record r.row])) ?_ ?_
    · have st : ∀ K : AHeap A → Prop, K (.adt (bk m ts) :: .adt (dk k w false) :: .cells t_journal_Journal [.ptr 0 0, .ptr 1 0, .int .i64 boot, .int .i64 prev, ev, .bool over] :: (u ++ [.cells t_api_Record r.row])) → stP 11 (.ptr (u.length + 1 + 1 + 1) 0) (.agg r.row) (.adt (bk m ts) :: .adt (dk k w false) :: .cells t_journal_Journal [.ptr 0 0, .ptr 1 0, .int .i64 boot, .int .i64 prev, ev, .bool over] :: (u ++ [.cells t_api_Record (reps 11 (.int .i64 0))])) K := fun K hK =>
        st_last (base := .adt (bk m ts) :: .adt (dk k w false) :: .cells t_journal_Journal [.ptr 0 0, .ptr 1 0, .int .i64 boot, .int .i64 prev, ev, .bool over] :: u) rfl rfl rfl hK
      constructor
      · refine RGet_at hR hB (by omega) hr rfl ?_
        simp -implicitDefEqProofs
        exact st _ rfl
      · refine RGet_at hR hB (by omega) hr rfl ?_
        simp -implicitDefEqProofs
        exact st _ rfl
    · rintro _ _ ⟨rfl, rfl⟩
      refine ⟨by simp, ?_⟩
      by_cases hf : f = 0
      · rw [if_pos hf] at hk
        subst hf
        simp -implicitDefEqProofs [Rec.row, Ev.row]
        refine app_evs (l := [r.ev]) (a := .sl (u.length + 1 + 1 + 1 + 1) 0 1 1 true) (hes.app _) ?_ (by simp; omega) fun x' e' h' hev hsame hl' he' => ?_
        · have hat : ∀ x y : AObj A, ((.adt (bk m ts) :: .adt (dk k w false) :: .cells t_journal_Journal [.ptr 0 0, .ptr 1 0, .int .i64 boot, .int .i64 prev, ev, .bool over] :: u) ++ [x, y] : AHeap A)[u.length + 1 + 1 + 1 + 1]? = some y := fun x y => by
            rw [List.getElem?_append_right (by simp)]
            simp
          simp only [srcOf, cellsAt, hat, Option.bind_some, AObj.read]
          rfl
        · have ne : ∀ k, k < 3 → es = [] ∨ k ≠ e := fun k hk3 => by
            by_cases h0 : es = []
            · exact .inl h0
            · have := he3 h0; exact .inr (by omega)
          have q0 : h'[0]? = some (.adt (bk m ts)) := hsame 0 (ne 0 (by omega)) (by simp)
          have q1 : h'[1]? = some (.adt (dk k w false)) := hsame 1 (ne 1 (by omega)) (by simp)
          have q2 := hsame 2 (ne 2 (by omega)) (by simp)
          replace q2 : h'[2]? = some (.cells t_journal_Journal [.ptr 0 0, .ptr 1 0, .int .i64 boot, .int .i64 prev, ev, .bool over]) := q2
          obtain ⟨h'', rfl⟩ := three q0 q1 q2
          have hge : 3 ≤ e' := by
            rcases he' with ⟨h0, rfl⟩ | h0
            · exact he3 h0
            · simp at h0; omega
          simp at hl'
          rw [st_ev hev]
          simp -implicitDefEqProofs
          refine hk x' e' h'' (hev.move fun _ => ?_) hge (by omega)
          obtain ⟨j, rfl⟩ : ∃ j, e' = j + 3 := ⟨e' - 3, by omega⟩
          rfl
      · rw [if_neg hf] at hk
        have hf' : (f != 0) = true := by simpa using hf
        simp -implicitDefEqProofs [hf', e1, mkiP, AVal.cs]
        exact hk _ _
  · rw [if_neg h1] at hk
    have r0 : dRead k w false (2 + ((es.length : Int) + 1) - 1) = ([], 800) := by
      unfold dRead; rw [if_neg (by simp), if_pos (by omega)]
    refine disk_Read_at hR hD hdk (by omega) r0 rfl ?_
    simp -implicitDefEqProofs
    exact hk _ _
end
end Go.AI

/- Journals: Open. -/
set_option linter.all false
namespace Go.AI
variable {A : Type} {R : Adts A}
theorem take_eq {h base : AHeap A} (hl : ∀ k, k < base.length → h[k]? = base[k]?) : h.take base.length = base := by
  apply List.ext_getElem?
  intro k
  rw [List.getElem?_take]
  by_cases hk : k < base.length
  · rw [if_pos hk]; exact hl k hk
  · rw [if_neg hk, List.getElem?_eq_none (by omega)]
def jEvs (es : List Ev) : AHeap A := if es = [] then [] else [.cells t_api_Event (es.flatMap Ev.row)]
def jEv (es : List Ev) : AVal := if es = [] then .nils else .sl 3 0 es.length es.length false
/-- The journal's parts, told anew. -/
theorem jrn_canon (hR : R.Ok) {a b : AObj A} {boot prev : Int} {x : AVal} {over : Bool} {es : List Ev} {e n : Nat} {u : AHeap A} {vs : List AVal} {K : List AVal → AHeap A → Prop} (he : EvAt x es e (a :: b :: jCells 0 1 boot prev x over :: u)) (he3 : es ≠ [] → 3 ≤ e) (ha : a.closed R) (hb : b.closed R) (hn : n ≤ 3)
    (hv : ixs 0 vs = true) (hk : K vs (a :: b :: jCells 0 1 boot prev (jEv es) over :: jEvs es)) : Gives Pr R n (a :: b :: jCells 0 1 boot prev x over :: u) vs K := by
  have hv3 : ∀ τ, rens τ vs = vs := fun τ => rens_ix0 τ vs hv
  rcases he with ⟨rfl, rfl⟩ | ⟨h0, rfl, h1⟩
  · simp only [jEv, jEvs, if_true] at hk
    refine Gives.cut hR (m := 3) hn (by simp) (ixs_mono (Nat.zero_le 3) vs hv) ?_ hk
    simp only [List.take, List.mem_cons, List.not_mem_nil, or_false]
    rintro o (rfl | rfl | rfl)
    · exact ⟨ha.1 _, fun τ _ => ha.2 τ⟩
    · exact ⟨hb.1 _, fun τ _ => hb.2 τ⟩
    · exact low_cells (by simp [ixs, AVal.ix])
  · have he3 := he3 h0
    simp only [jEv, jEvs, if_neg h0] at hk
    refine Gives.keep hR [0, 1, 2, e] (h2 := a :: b :: jCells 0 1 boot prev (.sl 3 0 es.length es.length false) over :: [.cells t_api_Event (es.flatMap Ev.row)]) (vs2 := vs) ⟨rfl, by simp; omega, fun k o hk => ?_, fun o ho => ?_⟩ (hv3 _).symm (ixs_mono (Nat.zero_le _) vs hv) (fun k hk => ?_) (Gives.done (by simp; omega) hk)
    · match k, hk with
      | 0, hk => simp at hk; subst hk; exact ⟨0, rfl, by rw [ha.2]; rfl⟩
      | 1, hk => simp at hk; subst hk; exact ⟨1, rfl, by rw [hb.2]; rfl⟩
      | 2, hk => simp at hk; subst hk; exact ⟨2, rfl, by simp [jCells, AObj.ren, rens, AVal.ren, at_]⟩
      | 3, hk => simp at hk; subst hk; exact ⟨e, rfl, by rw [h1]; simp only [AObj.ren]; rw [rens_ix0 _ _ (evs_ix 0 es)]⟩
      | k + 4, hk => simp at hk
    · simp only [List.mem_cons, List.not_mem_nil, or_false] at ho
      rcases ho with rfl | rfl | rfl | rfl
      · exact ha.1 _
      · exact hb.1 _
      · show ixs _ _ = true; simp [ixs, AVal.ix]
      · show ixs _ _ = true; exact evs_ix _ _
    · match k, hk with
      | 0, _ => rfl
      | 1, _ => rfl
      | 2, _ => rfl
      | k + 3, hk => omega
/-- The journal's parts, told as one. -/
theorem jrn_shut (hR : R.Ok) {jm : Nat → Nat → JS → A} (hJ : HasJrn R jm) {a b : AObj A} {J : JS} {x : AVal} {e n : Nat} {t r : AHeap A} {vs : List AVal} {K : List AVal → AHeap A → Prop} (he : EvAt x J.es e (a :: b :: jCells 0 1 J.boot J.prev x J.over :: (t ++ r))) (he3 : J.es ≠ [] → 3 + t.length ≤ e) (ha : a.closed R) (hb : b.closed R) (ht : ∀ o ∈ t, o.closed R)
    (hn : n ≤ 3 + t.length) (hv : ixs (3 + t.length) vs = true) (hk : K vs (a :: b :: .adt (jm 0 1 J) :: t)) : Gives Pr R n (a :: b :: jCells 0 1 J.boot J.prev x J.over :: (t ++ r)) vs K := by
  have key : ∀ js : List Nat, (∀ j ∈ js, 3 + t.length ≤ j) → Gives Pr R n ((kills (a :: b :: jCells 0 1 J.boot J.prev x J.over :: (t ++ r)) js).set 2 (.adt (jm 0 1 J))) vs K := by
    intro js hjs
    have e1 : ((kills (a :: b :: jCells 0 1 J.boot J.prev x J.over :: (t ++ r)) js).set 2 (.adt (jm 0 1 J))).take (3 + t.length) = a :: b :: .adt (jm 0 1 J) :: t := by
      have : (a :: b :: .adt (jm 0 1 J) :: t : AHeap A).length = 3 + t.length := by simp; omega
      rw [← this]
      refine take_eq fun k hk => ?_
      have hk2 : k < 3 + t.length := by rw [← this]; exact hk
      have hnj : k ∉ js := fun h => by have := hjs k h; omega
      by_cases h2 : k = 2
      · subst h2
        rw [List.getElem?_set_self (by rw [kills_length]; simp)]
        rfl
      · rw [List.getElem?_set_ne (Ne.symm h2), kills_get _ _ _ (by simp; omega), if_neg hnj]
        match k, h2, hk2 with
        | 0, _, _ => rfl
        | 1, _, _ => rfl
        | k + 3, _, hk2 =>
          simp only [List.getElem?_cons_succ]
          rw [List.getElem?_append_left (by omega)]
    refine Gives.cut hR (m := 3 + t.length) hn (by simp [kills_length]; omega) hv ?_ (by rw [e1]; exact hk)
    rw [e1]
    simp only [List.mem_cons]
    rintro o (rfl | rfl | rfl | ho)
    · exact ⟨ha.1 _, fun τ _ => ha.2 τ⟩
    · exact ⟨hb.1 _, fun τ _ => hb.2 τ⟩
    · exact ⟨jrn_ix hJ _ (by omega) (by omega), fun τ hτ => by rw [jrn_ren hJ, hτ 0 (by omega), hτ 1 (by omega)]⟩
    · exact ⟨(ht o ho).1 _, fun τ _ => (ht o ho).2 τ⟩
  rcases he with ⟨h0, rfl⟩ | ⟨h0, rfl, h1⟩
  · refine Gives.shut 2 [] (jm 0 1 J) (jG 0 1 J) ((hJ.lay _ _ _ _).2 rfl) ?_ ?_ ?_ (by simp) ?_ ?_ (key [] (by simp))
    · simp [jG, h0, jCells, GC.on]
    · simp [jG, h0]
    · intro i s hs; simp [jG, h0] at hs
    · simp [jG, h0]
    · simp [jG, h0]
  · have he3 := he3 h0
    refine Gives.shut 2 [e] (jm 0 1 J) (jG 0 1 J) ((hJ.lay _ _ _ _).2 rfl) ?_ ?_ ?_ (by simp; omega) ?_ ?_ (key [e] (by simpa using he3))
    · simp [jG, h0, jCells, GC.on]
    · simp [jG, h0]
    · intro i s hs
      match i, hs with
      | 0, hs => simp [jG, h0] at hs; subst hs; exact ⟨by simpa using h1, rfl⟩
      | i + 1, hs => simp [jG, h0] at hs
    · intro i o len cap ex hm
      simp [jG, h0] at hm ⊢
      omega
    · simp [jG, h0]
end Go.AI

/- Journals: Open. -/
set_option linter.all false
namespace Go.AI
variable {A : Type} {R : Adts A}
section
variable {bk : Int → List Bs → A} {dk : List Bs → Ws → Bool → A} {jm : Nat → Nat → JS → A}
theorem book_cl (hB : HasBook R bk) (m : Int) (ts : List Bs) : AObj.closed R (.adt (bk m ts) : AObj A) := ⟨fun n => book_ix hB m ts n, fun τ => book_ren hB m ts τ⟩
theorem disk_cl (hD : HasDisk R dk) (k : List Bs) (w : Ws) (d : Bool) : AObj.closed R (.adt (dk k w d) : AObj A) := ⟨fun n => disk_ix hD k w d n, fun τ => disk_ren hD k w d τ⟩
def OpI (bk : Int → List Bs → A) (dk : List Bs → Ws → Bool → A) (m : Int) (t : List Bs) (k : List Bs) (boot : Int) (fin : Int × List Ev) (n : Nat) (y : List AVal) (g : AHeap A) : Prop :=
  ∃ (p : Int) (es : List Ev), y = [] ∧ g = .adt (bk m t) :: .adt (dk k [] false) :: jCells 0 1 boot p (jEv es) false :: jEvs es ∧ jLoad t k n p es = fin ∧ es.length + n = k.length
theorem jEv_at (es : List Ev) (a b c : AObj A) : EvAt (jEv es) es 3 (a :: b :: c :: jEvs es) := by
  unfold jEv jEvs
  by_cases h : es = []
  · rw [if_pos h]; exact .inl ⟨h, rfl⟩
  · rw [if_neg h, if_neg h]; exact .inr ⟨h, rfl, rfl⟩
theorem Open_can (hR : R.Ok) (hB : HasBook R bk) (hD : HasDisk R dk) (hJ : HasJrn R jm) {m : Int} {ts t k k' : List Bs} {w w' : Ws} {dn : Bool} {res : Int ⊕ JS} (hok : bOk m ts) (hdk : dOk k w) (hw : w.length ≤ 900) (he : jOpen m ts k w dn = (t, k', w', res)) {K : AVal → AHeap A → Prop}
    (hk : match res with
      | .inl e => K (.tup [.nilp, .int .i64 e]) [.adt (bk m t), .adt (dk k' w' dn)]
      | .inr J => K (.tup [.ptr 2 0, .int .i64 0]) [.adt (bk m t), .adt (dk k' w' dn), .adt (jm 0 1 J)]) : Tri Pr R n_journal_Open [.ptr 0 0, .ptr 1 0] [.adt (bk m ts), .adt (dk k w dn)] K := by
  refine Tri.post ?_
  apply c_journal_Open
  unfold p_journal_Open
  simp -implicitDefEqProofs
  refine disk_Down_ok hR hD rfl ?_
  unfold jOpen at he
  by_cases hdn : dn = true
  · rw [if_pos hdn] at he
    subst hdn
    simp only [Prod.mk.injEq] at he
    obtain ⟨rfl, rfl, rfl, rfl⟩ := he
    simp -implicitDefEqProofs
    exact Gives.done (by simp) ⟨_, rfl, hk⟩
  have hdn' : dn = false := by simpa using hdn
  subst hdn'
  rw [if_neg hdn] at he
  simp -implicitDefEqProofs
  refine disk_Size_ok hR hD rfl ?_
  by_cases hsz : (k.length : Int) ≤ 2
  · rw [if_pos hsz] at he
    simp only [Prod.mk.injEq] at he
    obtain ⟨rfl, rfl, rfl, rfl⟩ := he
    have hsz' : k.length ≤ 2 := by omega
    simp -implicitDefEqProofs [hsz, hsz']
    exact Gives.done (by simp) ⟨_, rfl, hk⟩
  rw [if_neg hsz] at he
  have hsz' : ¬ k.length ≤ 2 := by omega
  obtain ⟨⟨boot, at_, e0⟩, he1⟩ : ∃ z, sPick ts ((dPut k w).getD 0 []) ((dPut k w).getD 1 []) = z := ⟨_, rfl⟩
  rw [he1] at he
  dsimp only at he
  obtain ⟨⟨t1, s, f⟩, he2⟩ : ∃ z, sPut m ts (boot + 1) = z := ⟨_, rfl⟩
  rw [he2] at he
  dsimp only at he
  simp -implicitDefEqProofs [hsz, hsz']
  refine began_ok hR hB hD hok hdk hw (by omega) he1 he2 (ev := .nils) (over := false) (b0 := 0) (prev := 0) (fun hf => ?_) (fun hf => ?_)
  · rw [if_neg hf] at he
    simp only [Prod.mk.injEq] at he
    obtain ⟨rfl, rfl, rfl, rfl⟩ := he
    simp -implicitDefEqProofs [mkiP, AVal.cs]
    refine Is_journal_place_ok 1101 1101 (t := t_journal_place) (cs := [.int .i64 0, .iface t_api_Errno (.int .i64 1101)]) rfl rfl ?_
    simp -implicitDefEqProofs
    refine Gives.cut hR (m := 2) (by simp) (by simp) (by simp [ixs, AVal.ix]) ?_ ⟨_, rfl, hk⟩
    simp only [List.take, List.mem_cons, List.not_mem_nil, or_false]
    rintro o (rfl | rfl)
    · exact ⟨book_ix hB _ _ _, fun τ _ => book_ren hB _ _ _⟩
    · exact ⟨disk_ix hD _ _ _ _, fun τ _ => disk_ren hD _ _ _ _⟩
  · subst hf
    rw [if_pos rfl] at he
    obtain ⟨p1, p2, p3, p4⟩ := sPick_may ts ((dPut k w).getD 0 []) ((dPut k w).getD 1 [])
    rw [he1] at p1 p2 p3 p4
    dsimp only at p1 p2 p3 p4
    have sl := sPut_sec he2
    have ok2 : dOk k (w ++ [(at_, s)]) := dOk_write hdk (by omega)
    have ek : dPut k (w ++ [(at_, s)]) = (dPut k w).set at_.toNat s := dPut_snoc k w (at_, s)
    have ok3 := dOk_put ok2
    rw [ek] at ok3 ⊢
    have hkl : ((dPut k w).set at_.toNat s).length = k.length := by rw [List.length_set, dPut_len]
    generalize (dPut k w).set at_.toNat s = k2 at *
    obtain ⟨⟨p, es⟩, hl⟩ : ∃ z, jLoad t1 k2 k.length 0 [] = z := ⟨_, rfl⟩
    rw [hl] at he
    simp only [Prod.mk.injEq] at he
    obtain ⟨rfl, rfl, rfl, rfl⟩ := he
    have hsz3 := ok3.size
    dsimp only at hk
    simp -implicitDefEqProofs [mkiP, AVal.cs]
    refine Is_nil_ok 1101 ?_
    simp -implicitDefEqProofs
    refine loopP_go (OpI bk dk m t1 k2 (boot + 1) (p, es)) k.length (Gives.done (by simp) ⟨0, [], rfl, rfl, hl, by simp [hkl]⟩) ?_
    rintro n y g ⟨q, fs, rfl, rfl, hld, hfn⟩
    have hat := jEv_at fs (.adt (bk m t1)) (.adt (dk k2 [] false)) (jCells 0 1 (boot + 1) q (jEv fs) false : AObj A)
    have stop : (p, es) = (q, fs) → ∀ r : AHeap A, Gives Pr R 2 (.adt (bk m t1) :: .adt (dk k2 [] false) :: jCells 0 1 (boot + 1) q (jEv fs) false :: (jEvs fs ++ r)) [.tup [.ptr 2 0, .int .i64 0]] fun vs h2 => ∃ v, vs = [v] ∧ K v h2 := by
      intro hpq r
      obtain ⟨rfl, rfl⟩ := Prod.mk.inj hpq
      refine jrn_shut hR hJ (J := ⟨boot + 1, p, es, false⟩) (t := []) (e := 3) ((hat.app r)) (by simp) (book_cl hB _ _) (disk_cl hD _ _ _) (by simp) (by simp) (by simp [ixs, AVal.ix]) ⟨_, rfl, hk⟩
    refine next_ok hR hB hD (u := jEvs fs) (e := 3) ok3 (by simp) hat (by omega) (by omega) ?_
    have hput : dPut k2 [] = k2 := rfl
    rw [hput]
    by_cases h1 : (2 + fs.length : Nat) < k2.length
    · rw [if_pos h1]
      obtain ⟨n', rfl⟩ : ∃ n', n = n' + 1 := ⟨n - 1, by omega⟩
      unfold jLoad at hld
      rw [if_pos h1] at hld
      obtain ⟨⟨r, name, f⟩, hr⟩ : ∃ z, recGet t1 (k2.getD (2 + fs.length) []) (fs.length + 1) q = z := ⟨_, rfl⟩
      rw [hr] at hld ⊢
      dsimp only at hld ⊢
      by_cases hf : f = 0
      · rw [if_pos hf] at hld ⊢
        intro x' e' h' hev hge hlu
        simp -implicitDefEqProofs
        refine jrn_canon hR hev (fun _ => hge) (book_cl hB _ _) (disk_cl hD _ _ _) (by simp) rfl ⟨n', by omega, name, fs ++ [r.ev], rfl, rfl, hld, by simp; omega⟩
      · rw [if_neg hf] at hld ⊢
        intro x r2
        simp -implicitDefEqProofs
        exact stop hld.symm r2
    · rw [if_neg h1]
      have hpq : (p, es) = (q, fs) := by
        cases n with
        | zero => exact hld.symm
        | succ n => unfold jLoad at hld; rw [if_neg h1] at hld; exact hld.symm
      intro x r2
      simp -implicitDefEqProofs
      exact stop hpq r2
end
end Go.AI

/- Journals: what waits. -/
set_option linter.all false
namespace Go.AI
variable {A : Type} {R : Adts A}
section
variable {bk : Int → List Bs → A} {dk : List Bs → Ws → Bool → A}
theorem jWs_take (q : Int) (ss : List Bs) {i : Nat} {s : Bs} (h : ss[i]? = some s) : jWs q (ss.take (i + 1)) = jWs q (ss.take i) ++ [(q + i, s)] := by
  have hi := (List.getElem?_eq_some_iff.1 h).1
  have : ss.take (i + 1) = ss.take i ++ [s] := by
    rw [List.take_add_one, h]; rfl
  rw [this, jWs_snoc]
  simp only [List.length_take, Nat.min_eq_left (Nat.le_of_lt hi)]
def WrX (N : Nat) (ss : List Bs) : AVal := if ss = [] then .nils else .sl N 0 ss.length ss.length false
def WrS (ss : List Bs) : AHeap A := if ss = [] then [] else [.cells t_string (ss.map .str)]
theorem room_16k {n : Nat} (h : n ≤ 1000) : (2 * n + 1000) * 16 ≤ 140737488355328 := by omega
theorem app_str0 {base : AHeap A} {ss : List Bs} {s : Bs} {g1 : AObj A} (hn : ss.length ≤ 900) {K : AVal → AHeap A → Prop}
    (hk : ∀ mid : AHeap A, K (.sl (base.length + mid.length) 0 (ss.length + 1) (ss.length + 1) false) (base ++ (mid ++ [.cells t_string ((ss ++ [s]).map .str)]))) :
    appP t_string 1 16 (WrX base.length ss) (.sl (base.length + (WrS ss : AHeap A).length + 1) 0 1 1 true) (base ++ (WrS ss ++ [g1, .cells t_string [.str s]])) K := by
  have hat : (base ++ (WrS ss ++ [g1, .cells t_string [.str s]]) : AHeap A)[base.length + (WrS ss : AHeap A).length + 1]? = some (.cells t_string [.str s]) := by
    rw [List.getElem?_append_right (by omega), List.getElem?_append_right (by omega)]
    have : base.length + (WrS ss : AHeap A).length + 1 - base.length - (WrS ss : AHeap A).length = 1 := by omega
    rw [this]; rfl
  have hsrc : srcOf 1 (base ++ (WrS ss ++ [g1, .cells t_string [.str s]]) : AHeap A) (.sl (base.length + (WrS ss : AHeap A).length + 1) 0 1 1 true) = some (1, [.str s]) := by
    simp only [srcOf, cellsAt, hat, Option.bind_some, AObj.read]
    rfl
  unfold appP appV
  rw [hsrc]
  dsimp only
  by_cases h0 : ss = []
  · subst h0
    simp only [WrX, WrS, if_true, List.nil_append]
    rw [if_neg (by omega), if_pos (by omega)]
    simp only [optH]
    have := hk [g1, .cells t_string [.str s]]
    simpa using this
  · have hr := room_16k (n := ss.length + 1) (by omega)
    have hat2 : (base ++ (WrS ss ++ [g1, .cells t_string [.str s]]) : AHeap A)[base.length]? = some (.cells t_string (ss.map .str)) := by
      rw [List.getElem?_append_right (by omega)]
      simp [WrS, h0]
    have hX : WrX base.length ss = .sl base.length 0 ss.length ss.length false := by simp [WrX, h0]
    rw [hX]
    dsimp only
    rw [if_neg (by omega), hat2]
    dsimp only
    rw [if_pos ⟨by omega, by simp, .inr hr⟩, if_neg (by simp), if_pos ⟨rfl, by simp, rfl⟩]
    simp only [optH]
    have t1 : ((ss.map AVal.str).drop 0).take (ss.length * 1) ++ [.str s] = (ss ++ [s]).map .str := by simp [List.take_of_length_le]
    rw [t1]
    have e1 : (base ++ (WrS ss ++ [g1, .cells t_string [.str s]]) : AHeap A).set base.length .dead = base ++ ([.dead, g1, .cells t_string [.str s]] : AHeap A) := by
      simp [WrS, h0]
    rw [e1]
    have := hk [.dead, g1, .cells t_string [.str s]]
    simpa [WrS, h0] using this
theorem app_str {base h : AHeap A} {ss : List Bs} {s : Bs} {g1 : AObj A} {j : Nat} {x : AVal} (hn : ss.length ≤ 900) (hx : x = WrX base.length ss) (hh : h = base ++ (WrS ss ++ [g1, .cells t_string [.str s]])) (hj : j = base.length + (WrS ss : AHeap A).length + 1) {K : AVal → AHeap A → Prop}
    (hk : ∀ mid : AHeap A, K (.sl (base.length + mid.length) 0 (ss.length + 1) (ss.length + 1) false) (base ++ (mid ++ [.cells t_string ((ss ++ [s]).map .str)]))) : appP t_string 1 16 x (.sl j 0 1 1 true) h K := by
  subst hx hh hj
  exact app_str0 hn hk
theorem up_at {u r : AHeap A} {a b c : AObj A} (k : Nat) (o : AObj A) (h : u[k]? = some o) : (a :: b :: c :: (u ++ r) : AHeap A)[3 + k]? = some o := by
  have hk := (List.getElem?_eq_some_iff.1 h).1
  rw [Nat.add_comm]
  simp only [List.getElem?_cons_succ]
  rw [List.getElem?_append_left hk]; exact h
def jApp (ss : List Bs) (z : List Bs × List Bs × Int × Bool) : List Bs × List Bs × Int × Bool := if z.2.2.2 = true then (z.1, ss ++ z.2.1, z.2.2.1, true) else (z.1, [], 0, false)
theorem jApp_app (a b : List Bs) (z : List Bs × List Bs × Int × Bool) : jApp a (jApp b z) = jApp (a ++ b) z := by
  obtain ⟨t, s, p, ok⟩ := z
  cases ok <;> simp [jApp]
theorem jApp_bad (ss : List Bs) (t : List Bs) : jApp ss (t, [], 0, false) = (t, [], 0, false) := rfl
theorem jApp_end (ss t : List Bs) {m boot q p : Int} : jApp ss (jRecs m boot t q p []) = (t, ss, p, true) := by
  unfold jRecs jApp
  simp
theorem jRecs_cons {m boot : Int} {ts t : List Bs} {q p n f : Int} {e : Ev} {s : Bs} {r : List Ev} (he : recPut m ts ⟨q + 1, boot, p, e⟩ = (t, s, n, f)) : jRecs m boot ts q p (e :: r) = if f = 0 then jApp [s] (jRecs m boot t (q + 1) n r) else (t, [], 0, false) := by
  have : jRecs m boot ts q p (e :: r) = (match recPut m ts ⟨q + 1, boot, p, e⟩ with
    | (t, s, n, f) => if f = 0 then (match jRecs m boot t (q + 1) n r with | (t2, ss, p2, ok) => if ok = true then (t2, s :: ss, p2, true) else (t2, [], 0, false)) else (t, [], 0, false)) := rfl
  rw [this, he]
  rfl
theorem jApp_recs {m boot : Int} {ts : List Bs} {q p : Int} (l : List Ev) : jApp [] (jRecs m boot ts q p l) = jRecs m boot ts q p l := by
  cases l with
  | nil => rfl
  | cons e r =>
    obtain ⟨⟨t, s, n, f⟩, he⟩ : ∃ z, recPut m ts ⟨q + 1, boot, p, e⟩ = z := ⟨_, rfl⟩
    rw [jRecs_cons he]
    by_cases hf : f = 0
    · rw [if_pos hf, jApp_app]; rfl
    · rw [if_neg hf]; rfl
def WrI (bk : Int → List Bs → A) (B C : AObj A) (u : AHeap A) (m boot n prev : Int) (ts : List Bs) (l : List Ev) (mm : Nat) (y : List AVal) (g : AHeap A) : Prop :=
  ∃ (i : Nat) (ti : List Bs) (p : Int) (ss : List Bs), y = [WrX (3 + u.length) ss, .int .i64 p, .int .i64 i] ∧ g = .adt (bk m ti) :: B :: C :: (u ++ WrS ss) ∧ bOk m ti ∧ ss.length = i ∧ i ≤ l.length ∧ mm = l.length - i ∧
    jRecs m boot ts n prev l = jApp ss (jRecs m boot ti (n + i) p (l.drop i))
def WdI (dk : List Bs → Ws → Bool → A) (A0 C : AObj A) (u : AHeap A) (k : List Bs) (w : Ws) (q : Int) (ss : List Bs) (mm : Nat) (y : List AVal) (g : AHeap A) : Prop :=
  ∃ i : Nat, y = [.int .i64 i] ∧ g = A0 :: .adt (dk k (w ++ jWs q (ss.take i)) false) :: C :: (u ++ WrS ss) ∧ dOk k (w ++ jWs q (ss.take i)) ∧ i ≤ ss.length ∧ mm = ss.length - i
theorem written_core (hR : R.Ok) (hB : HasBook R bk) (hD : HasDisk R dk) {m : Int} {ts t : List Bs} {k : List Bs} {w : Ws} {dn : Bool} {J : JS} {ev a : AVal} {l : List Ev} {u : AHeap A} {ss : List Bs} {p e : Int} (hok : bOk m ts) (hdk : dOk k w) (hw : w.length ≤ 600)
    (hev : ∀ K : AVal → Prop, lenP ev K = K (.int .i64 J.es.length)) (hn : J.es.length ≤ 300) (hevx : ev.ix (3 + u.length) = true) (ha : EvArg a l 3 u) (hl : l.length < 1000000000) (hu : ∀ o ∈ u, o.low R (3 + u.length))
    (he : jPut m ts J k.length dn l = (t, ss, p, e)) {K : AVal → AHeap A → Prop}
    (hk : ∀ r : AHeap A, K (.tup [.int .i64 p, .int .i64 e]) (.adt (bk m t) :: .adt (dk k (w ++ jWs (2 + J.es.length) ss) dn) :: jCells 0 1 J.boot J.prev ev J.over :: (u ++ r))) :
    Tri Pr R n_journal_Journal_written [.ptr 2 0, a] (.adt (bk m ts) :: .adt (dk k w dn) :: jCells 0 1 J.boot J.prev ev J.over :: u) K := by
  have hd := hdk.size
  obtain ⟨boot, prev, es, over⟩ := J
  dsimp only at *
  have hu0 : ∀ (a b c : AObj A) (k : Nat) (o : AObj A), u[k]? = some o → (a :: b :: c :: u : AHeap A)[3 + k]? = some o := fun a b c k o h => by
    have := up_at (r := []) (a := a) (b := b) (c := c) k o h
    simpa using this
  apply c_journal_Journal_written
  unfold p_journal_Journal_written
  unfold jPut at he
  dsimp only at he
  unfold jCells at *
  cases over with
  | true =>
    rw [if_pos (.inl rfl)] at he
    simp only [Prod.mk.injEq] at he
    obtain ⟨rfl, rfl, rfl, rfl⟩ := he
    simp -implicitDefEqProofs
    have := hk []
    simpa [jWs] using this
  | false =>
  simp -implicitDefEqProofs
  refine disk_Down_ok hR hD rfl ?_
  cases dn with
  | true =>
    rw [if_pos (.inr rfl)] at he
    simp only [Prod.mk.injEq] at he
    obtain ⟨rfl, rfl, rfl, rfl⟩ := he
    simp -implicitDefEqProofs
    have := hk []
    simpa [jWs] using this
  | false =>
  rw [if_neg (by simp)] at he
  simp -implicitDefEqProofs
  refine ContainsFunc_ok hR ha (hu0 _ _ _) hl ?_
  cases hm : l.all evMay with
  | false =>
    rw [hm, if_neg (by simp)] at he
    simp only [Prod.mk.injEq] at he
    obtain ⟨rfl, rfl, rfl, rfl⟩ := he
    simp -implicitDefEqProofs
    have := hk []
    simpa [jWs] using this
  | true =>
  rw [hm, if_pos rfl] at he
  simp -implicitDefEqProofs [ha.len]
  refine Room_raw hR hD (n := es.length) (j := 2) (b := 0) (d := 1) (k := k) (w := w) (dn := false) rfl rfl hev (by omega) (by omega) ?_
  by_cases hrm : (k.length : Int) - 2 - es.length < l.length
  · rw [if_pos hrm] at he
    simp only [Prod.mk.injEq] at he
    obtain ⟨rfl, rfl, rfl, rfl⟩ := he
    simp -implicitDefEqProofs [hrm]
    have := hk []
    simpa [jWs] using this
  rw [if_neg hrm] at he
  simp -implicitDefEqProofs [hrm, ha.len]
  have hcl : ∀ (ts : List Bs) (w : Ws), ∀ o ∈ (.adt (bk m ts) :: .adt (dk k w false) :: .cells t_journal_Journal [.ptr 0 0, .ptr 1 0, .int .i64 boot, .int .i64 prev, ev, .bool false] :: u : AHeap A), o.low R (3 + u.length) := by
    intro ts w o ho
    simp only [List.mem_cons] at ho
    rcases ho with rfl | rfl | rfl | ho
    · exact ⟨book_ix hB _ _ _, fun τ _ => book_ren hB _ _ _⟩
    · exact ⟨disk_ix hD _ _ _ _, fun τ _ => disk_ren hD _ _ _ _⟩
    · exact low_cells (by simp [ixs, AVal.ix, hevx]; omega)
    · exact hu o ho
  refine loopP_go (WrI bk (.adt (dk k w false)) (.cells t_journal_Journal [.ptr 0 0, .ptr 1 0, .int .i64 boot, .int .i64 prev, ev, .bool false]) u m boot es.length prev ts l) l.length (Gives.done (by simp) ⟨0, ts, prev, [], by simp [WrX], by simp [WrS], hok, rfl, by omega, rfl, ?_⟩) ?_
  · simp only [List.drop_zero, Int.natCast_zero, Int.add_zero]
    rw [jApp_recs]
  rintro mm y g ⟨i, ti, q, ssi, rfl, rfl, hoki, hsl, hil, rfl, htot⟩
  have e1 := w64 (n := (es.length : Int) + i) (by omega)
  have e2 := w64 (n := (es.length : Int) + i + 1) (by omega)
  have e3 := w64 (n := (i : Int) + 1) (by omega)
  by_cases hi : i < l.length
  · have hi' : (i : Int) < (l.length : Int) := by omega
    have hdr : l.drop i = l[i] :: l.drop (i + 1) := by rw [List.drop_eq_getElem_cons hi]
    rw [hdr] at htot
    obtain ⟨⟨t1, s, name, f⟩, hrp⟩ : ∃ z, recPut m ti ⟨es.length + i + 1, boot, q, l[i]⟩ = z := ⟨_, rfl⟩
    rw [jRecs_cons hrp] at htot
    have hok1 := bOk_rput hoki hrp
    obtain ⟨pt, hpt, hlv⟩ := ha.get (.adt (bk m ti) :: .adt (dk k w false) :: .cells t_journal_Journal [.ptr 0 0, .ptr 1 0, .int .i64 boot, .int .i64 prev, ev, .bool false] :: (u ++ WrS ssi)) (fun k o h => up_at k o h) i hi
    obtain ⟨U, hU⟩ : ∃ U, u ++ (WrS ssi : AHeap A) = U := ⟨_, rfl⟩
    rw [hU] at hlv
    rw [hU]
    have hrow : ∀ e : Ev, e.row = [.int .i64 e.kind, .int .i64 e.user, .int .i64 e.session, .int .i64 e.address, .int .i64 e.a, .int .i64 e.b, .int .i64 e.c, .int .i64 e.tick] := fun e => rfl
    generalize l[i] = ei at *
    have st : ∀ K : AHeap A → Prop, K (.adt (bk m ti) :: .adt (dk k w false) :: .cells t_journal_Journal [.ptr 0 0, .ptr 1 0, .int .i64 boot, .int .i64 prev, ev, .bool false] :: (U ++ [.cells t_api_Event ei.row])) → stP 8 (.ptr (U.length + 1 + 1 + 1) 0) (.agg ei.row) (.adt (bk m ti) :: .adt (dk k w false) :: .cells t_journal_Journal [.ptr 0 0, .ptr 1 0, .int .i64 boot, .int .i64 prev, ev, .bool false] :: (U ++ [.cells t_api_Event [.int .i64 0, .int .i64 0, .int .i64 0, .int .i64 0, .int .i64 0, .int .i64 0, .int .i64 0, .int .i64 0]])) K := fun K hK =>
      st_last (base := .adt (bk m ti) :: .adt (dk k w false) :: .cells t_journal_Journal [.ptr 0 0, .ptr 1 0, .int .i64 boot, .int .i64 prev, ev, .bool false] :: U) rfl rfl rfl hK
    simp -implicitDefEqProofs [hi, hi', hpt, hlv]
    refine st _ ?_
    simp -implicitDefEqProofs [Ev.row, hev, e1, e2]
    refine RPut_at (r := ⟨es.length + i + 1, boot, q, ei⟩) hR hB hoki hrp rfl ?_
    by_cases hf : f = 0
    · subst hf
      rw [if_pos rfl, jApp_app] at htot
      simp -implicitDefEqProofs [e3]
      refine app_str (base := .adt (bk m t1) :: .adt (dk k w false) :: .cells t_journal_Journal [.ptr 0 0, .ptr 1 0, .int .i64 boot, .int .i64 prev, ev, .bool false] :: u) (g1 := .cells t_api_Event ei.row) (s := s) (ss := ssi) (by omega) (by simp; congr 1; omega) (by rw [← hU]; simp [Ev.row]) (by rw [← hU]; simp; omega) fun mid => ?_
      have hln : (.adt (bk m t1) :: .adt (dk k w false) :: .cells t_journal_Journal [.ptr 0 0, .ptr 1 0, .int .i64 boot, .int .i64 prev, ev, .bool false] :: u : AHeap A).length = 3 + u.length := by simp; omega
      refine Gives.pick hR (.adt (bk m t1) :: .adt (dk k w false) :: .cells t_journal_Journal [.ptr 0 0, .ptr 1 0, .int .i64 boot, .int .i64 prev, ev, .bool false] :: u) mid (.cells t_string ((ssi ++ [s]).map .str)) _ [.sl (3 + u.length) 0 (ssi.length + 1) (ssi.length + 1) false, .int .i64 name, .int .i64 (i + 1)] rfl (by simp) (by rw [hln]; exact hcl t1 w) ?_ ?_ ?_ ?_
      · exact ⟨by show ixs _ _ = true; simp [ixs_all, AVal.ix], fun τ => by simp only [AObj.ren]; rw [strs_ren]⟩
      · rw [hln]; simp [rens, AVal.ren]
      · rw [hln]; simp [ixs, AVal.ix]
      · refine ⟨l.length - (i + 1), by omega, i + 1, t1, name, ssi ++ [s], by simp [WrX], by simp [WrS], hok1, by simp [hsl], by omega, rfl, ?_⟩
        rw [htot]
        have : (es.length : Int) + (i : Int) + 1 = (es.length : Int) + ((i + 1 : Nat) : Int) := by omega
        rw [this]
    · rw [if_neg hf] at htot
      have hf' : (f != 0) = true := by simpa using hf
      have hz : jRecs m boot ts es.length prev l = (t1, [], 0, false) := by rw [htot, jApp_bad]
      rw [hz] at he
      simp only [Bool.false_eq_true, if_false, Prod.mk.injEq] at he
      obtain ⟨rfl, rfl, rfl, rfl⟩ := he
      simp -implicitDefEqProofs [hf']
      rw [← hU]
      have := hk (WrS ssi ++ [.cells t_api_Event ei.row])
      simpa [jWs, Ev.row] using this
  · have hi' : ¬ (i : Int) < (l.length : Int) := by omega
    obtain rfl : i = l.length := by omega
    have hz : jRecs m boot ts es.length prev l = (ti, ssi, q, true) := by
      rw [htot, List.drop_length, jApp_end]
    rw [hz] at he
    simp only [if_true, Prod.mk.injEq] at he
    obtain ⟨rfl, rfl, rfl, rfl⟩ := he
    have h64 := (jRecs_len l hz).2
    have hlX : ∀ K : AVal → Prop, lenP (WrX (3 + u.length) ssi) K = K (.int .i64 ssi.length) := by
      intro K
      unfold WrX
      by_cases h : ssi = []
      · subst h; simp
      · rw [if_neg h]; simp
    have hiX : ∀ j : Nat, j < ssi.length → ∀ K : AVal → Prop, idxP 1 (WrX (3 + u.length) ssi) (.int .i64 j) K = K (.ptr (3 + u.length) j) := by
      intro j hj K
      have h : ssi ≠ [] := by rintro rfl; simp at hj
      unfold WrX
      rw [if_neg h]
      simp [idxP, hj]
    have hvX : ∀ (j : Nat) (s : Bs), ssi[j]? = some s → ∀ a b c : AObj A, ldV 1 false (.ptr (3 + u.length) j) (a :: b :: c :: (u ++ WrS ssi)) = some (.str s) := by
      intro j s hj a b c
      have h : ssi ≠ [] := by rintro rfl; simp at hj
      have h2 : (a :: b :: c :: (u ++ WrS ssi) : AHeap A)[3 + u.length]? = some (.cells t_string (ssi.map .str)) := by
        rw [Nat.add_comm]
        simp only [List.getElem?_cons_succ, WrS, if_neg h]
        simp
      simp only [ldV, cellsAt, h2, Option.bind_some, AObj.read]
      simp [hj]
    simp -implicitDefEqProofs [hi, hi', hlX]
    refine loopP_go (WdI dk (.adt (bk m ti)) (.cells t_journal_Journal [.ptr 0 0, .ptr 1 0, .int .i64 boot, .int .i64 prev, ev, .bool false]) u k w (2 + es.length) ssi) ssi.length (Gives.done (by simp) ⟨0, rfl, by simp [jWs], by simpa [jWs] using hdk, by omega, rfl⟩) ?_
    rintro mm y g ⟨j, rfl, rfl, hdj, hj, rfl⟩
    by_cases hjl : j < ssi.length
    · have hjl' : (j : Int) < (ssi.length : Int) := by omega
      obtain ⟨s, hs⟩ : ∃ s, ssi[j]? = some s := ⟨_, List.getElem?_eq_getElem hjl⟩
      have hv := fun a b c => hvX j s hs a b c
      have hx := fun K => hiX j hjl K
      have hs64 := h64 s (List.mem_of_getElem? hs)
      have w1 := w64 (n := 2 + (es.length : Int)) (by omega)
      have w2 := w64 (n := 2 + (es.length : Int) + j) (by omega)
      have w3 := w64 (n := (j : Int) + 1) (by omega)
      have hbnd : 0 ≤ 2 + (es.length : Int) + j ∧ 2 + (es.length : Int) + j < k.length ∧ s.length = 64 := by omega
      have hwr := dWrite_good (k := k) (w := w ++ jWs (2 + es.length) (ssi.take j)) hbnd
      have hd2 := dOk_write hdj hbnd
      have htk := jWs_take (2 + es.length) ssi hs
      have hwl : (w ++ jWs (2 + es.length) (ssi.take j)).length ≤ 1000 := by rw [List.length_append, jWs_len, List.length_take]; omega
      simp -implicitDefEqProofs [hjl, hjl', hx, hv, hev, w1, w2]
      refine disk_Write_at hR hD hdj hwl hwr rfl ?_
      simp -implicitDefEqProofs [w3]
      refine Gives.done (by simp) ⟨ssi.length - (j + 1), by omega, j + 1, rfl, ?_, ?_, by omega, rfl⟩
      · rw [htk]; try simp
      · rw [htk, ← List.append_assoc]; exact hd2
    · have hjl' : ¬ (j : Int) < (ssi.length : Int) := by omega
      obtain rfl : j = ssi.length := by omega
      simp -implicitDefEqProofs [hjl, hjl']
      have := hk (WrS ssi)
      simpa [List.take_length] using this
end
end Go.AI

/- Journals: the calls, wherever they stand. -/
set_option linter.all false
namespace Go.AI
variable {A : Type} {R : Adts A}
section
variable {bk : Int → List Bs → A} {dk : List Bs → Ws → Bool → A} {jm : Nat → Nat → JS → A}
theorem Open_ok (hR : R.Ok) (hB : HasBook R bk) (hD : HasDisk R dk) (hJ : HasJrn R jm) {m : Int} {ts t k k' : List Bs} {w w' : Ws} {dn : Bool} {res : Int ⊕ JS} (hok : bOk m ts) (hdk : dOk k w) (hw : w.length ≤ 900) (he : jOpen m ts k w dn = (t, k', w', res)) {h : AHeap A} {b d : Nat} (hb : h[b]? = some (.adt (bk m ts))) (hd : h[d]? = some (.adt (dk k w dn))) (hbd : b ≠ d) {K : AVal → AHeap A → Prop}
    (hk : match res with
      | .inl e => K (.tup [.nilp, .int .i64 e]) ((h.set b (.adt (bk m t))).set d (.adt (dk k' w' dn)))
      | .inr J => K (.tup [.ptr h.length 0, .int .i64 0]) ((h.set b (.adt (bk m t))).set d (.adt (dk k' w' dn)) ++ [.adt (jm b d J)])) : Tri Pr R n_journal_Open [.ptr b 0, .ptr d 0] h K := by
  have s : Sel R [b, d] h [.adt (bk m ts), .adt (dk k w dn)] := by
    refine ⟨rfl, by simpa using hbd, fun k o hk => ?_, fun o ho => ?_⟩
    · match k, hk with
      | 0, hk => simp at hk; subst hk; exact ⟨b, rfl, by rw [book_ren hB]; exact hb⟩
      | 1, hk => simp at hk; subst hk; exact ⟨d, rfl, by rw [disk_ren hD]; exact hd⟩
      | k + 2, hk => simp at hk
    · simp only [List.mem_cons, List.not_mem_nil, or_false] at ho
      rcases ho with rfl | rfl
      · exact book_ix hB _ _ _
      · exact disk_ix hD _ _ _ _
  cases res with
  | inl e =>
    have t0 := Open_can (K := fun v g => v = .tup [.nilp, .int .i64 e] ∧ g = [.adt (bk m t), .adt (dk k' w' dn)]) hR hB hD hJ hok hdk hw he ⟨rfl, rfl⟩
    refine (Tri.frame hR s (as2 := [.ptr 0 0, .ptr 1 0]) rfl t0).mono ?_
    rintro v H ⟨v0, h0, ⟨rfl, rfl⟩, _, rfl, rfl⟩
    simpa [splice, setAll, book_ren hB, disk_ren hD, AVal.ren, rens] using hk
  | inr J =>
    have t0 := Open_can (K := fun v g => v = .tup [.ptr 2 0, .int .i64 0] ∧ g = [.adt (bk m t), .adt (dk k' w' dn), .adt (jm 0 1 J)]) hR hB hD hJ hok hdk hw he ⟨rfl, rfl⟩
    refine (Tri.frame hR s (as2 := [.ptr 0 0, .ptr 1 0]) rfl t0).mono ?_
    rintro v H ⟨v0, h0, ⟨rfl, rfl⟩, _, rfl, rfl⟩
    simpa [splice, setAll, book_ren hB, disk_ren hD, jrn_ren hJ, AVal.ren, rens, at_] using hk
theorem jrn_frame0 (hR : R.Ok) (hB : HasBook R bk) (hD : HasDisk R dk) (hJ : HasJrn R jm) {m : Int} {ts ts' k k' : List Bs} {w w' : Ws} {dn dn' : Bool} {J J' : JS} {f : FuncId} {us : List AVal} (hus : ixs 0 us = true) {v : AVal} (hv : v.ix 0 = true)
    (t : Tri Pr R f (.ptr 2 0 :: us) [.adt (bk m ts), .adt (dk k w dn), .adt (jm 0 1 J)] fun u g => u = v ∧ g = [.adt (bk m ts'), .adt (dk k' w' dn'), .adt (jm 0 1 J')])
    {h : AHeap A} {b d j : Nat} (hb : h[b]? = some (.adt (bk m ts))) (hd : h[d]? = some (.adt (dk k w dn))) (hj : h[j]? = some (.adt (jm b d J))) (hne : b ≠ d ∧ b ≠ j ∧ d ≠ j) {K : AVal → AHeap A → Prop}
    (hk : K v (((h.set b (.adt (bk m ts'))).set d (.adt (dk k' w' dn'))).set j (.adt (jm b d J')))) : Tri Pr R f (.ptr j 0 :: us) h K := by
  have s : Sel R [b, d, j] h [.adt (bk m ts), .adt (dk k w dn), .adt (jm 0 1 J)] := by
    refine ⟨rfl, by simp [hne], fun k o hk => ?_, fun o ho => ?_⟩
    · match k, hk with
      | 0, hk => simp at hk; subst hk; exact ⟨b, rfl, by rw [book_ren hB]; exact hb⟩
      | 1, hk => simp at hk; subst hk; exact ⟨d, rfl, by rw [disk_ren hD]; exact hd⟩
      | 2, hk => simp at hk; subst hk; exact ⟨j, rfl, by rw [jrn_ren hJ]; simpa [at_] using hj⟩
      | k + 3, hk => simp at hk
    · simp only [List.mem_cons, List.not_mem_nil, or_false] at ho
      rcases ho with rfl | rfl | rfl
      · exact book_ix hB _ _ _
      · exact disk_ix hD _ _ _ _
      · exact jrn_ix hJ _ (by simp) (by simp)
  have := (Tri.frame hR s (as2 := .ptr 2 0 :: us) (by simp [ixs, AVal.ix, ixs_mono (Nat.zero_le 3) us hus]) t)
  have e1 : rens (at_ [b, d, j] h.length) (.ptr 2 0 :: us) = .ptr j 0 :: us := by
    simp only [rens, rens_ix0 _ _ hus]
    simp [AVal.ren, at_]
  rw [e1] at this
  refine this.mono ?_
  rintro v0 H ⟨_, h0, ⟨rfl, rfl⟩, _, rfl, rfl⟩
  have hvr : ∀ (u : AVal) τ, u.ix 0 = true → u.ren τ = u := fun u τ hu => by
    have := rens_ix0 τ [u] (by simpa [ixs] using hu)
    simpa [rens] using this
  rw [hvr _ _ hv]
  simpa [splice, setAll, book_ren hB, disk_ren hD, jrn_ren hJ, at_] using hk
end
end Go.AI

/- Journals: Append, Write. -/
set_option linter.all false
namespace Go.AI
variable {A : Type} {R : Adts A}
theorem jPut_facts {m : Int} {ts t : List Bs} {J : JS} {k : List Bs} {w : Ws} {dn : Bool} {l : List Ev} {ss : List Bs} {p e : Int} (he : jPut m ts J k.length dn l = (t, ss, p, e)) (hdk : dOk k w) :
    (e ≠ 0 → ss = []) ∧ (e = 0 → dn = false ∧ J.over = false ∧ l.all evMay = true ∧ ss.length = l.length ∧ J.es.length + l.length + 2 ≤ k.length ∧ dOk k (w ++ jWs (2 + J.es.length) ss)) := by
  unfold jPut at he
  by_cases h1 : J.over = true ∨ dn = true
  · rw [if_pos h1] at he
    simp only [Prod.mk.injEq] at he
    obtain ⟨rfl, rfl, rfl, rfl⟩ := he
    exact ⟨fun _ => rfl, fun h => by omega⟩
  · rw [if_neg h1] at he
    by_cases h2 : l.all evMay = true
    · rw [if_pos h2] at he
      by_cases h3 : (k.length : Int) - 2 - J.es.length < l.length
      · rw [if_pos h3] at he
        simp only [Prod.mk.injEq] at he
        obtain ⟨rfl, rfl, rfl, rfl⟩ := he
        exact ⟨fun _ => rfl, fun h => by omega⟩
      · rw [if_neg h3] at he
        obtain ⟨⟨t2, s2, p2, ok⟩, hz⟩ : ∃ z, jRecs m J.boot ts J.es.length J.prev l = z := ⟨_, rfl⟩
        rw [hz] at he
        dsimp only at he
        cases ok with
        | false =>
          rw [if_neg (by simp)] at he
          simp only [Prod.mk.injEq] at he
          obtain ⟨rfl, rfl, rfl, rfl⟩ := he
          exact ⟨fun _ => rfl, fun h => by omega⟩
        | true =>
          rw [if_pos rfl] at he
          simp only [Prod.mk.injEq] at he
          obtain ⟨rfl, rfl, rfl, rfl⟩ := he
          obtain ⟨g1, g2⟩ := jRecs_len l hz
          refine ⟨fun h => absurd rfl h, fun _ => ⟨by simpa using fun h => h1 (.inr h), by simpa using fun h => h1 (.inl h), h2, g1, by omega, ?_⟩⟩
          have hgo : ∀ (ss : List Bs) (q : Int) (w : Ws), dOk k w → 0 ≤ q → q + ss.length ≤ k.length → (∀ s ∈ ss, s.length = 64) → dOk k (w ++ jWs q ss) := by
            intro ss
            induction ss with
            | nil => intro q w h _ _ _; simpa [jWs] using h
            | cons s r ih =>
              intro q w h h0 hq h64
              simp only [List.length_cons] at hq
              have := ih (q + 1) (w ++ [(q, s)]) (dOk_write h ⟨h0, by omega, h64 s (by simp)⟩) (by omega) (by omega) (fun s hs => h64 s (by simp [hs]))
              simpa [jWs] using this
          exact hgo s2 (2 + J.es.length) w hdk (by omega) (by omega) g2
    · rw [if_neg h2] at he
      simp only [Prod.mk.injEq] at he
      obtain ⟨rfl, rfl, rfl, rfl⟩ := he
      exact ⟨fun _ => rfl, fun h => by omega⟩
section
variable {bk : Int → List Bs → A} {dk : List Bs → Ws → Bool → A} {jm : Nat → Nat → JS → A}
theorem jrn_open {P : Program} (hJ : HasJrn R jm) {a b : AObj A} {J : JS} {t : AHeap A} {n : Nat} (hn : n ≤ 3 + t.length) {vs : List AVal} {K : List AVal → AHeap A → Prop}
    (hk : ∀ x, EvAt x J.es (3 + t.length) (a :: b :: jCells 0 1 J.boot J.prev x J.over :: (t ++ jEvs J.es)) → Gives P R n (a :: b :: jCells 0 1 J.boot J.prev x J.over :: (t ++ jEvs J.es)) vs K) : Gives P R n (a :: b :: .adt (jm 0 1 J) :: t) vs K := by
  refine Gives.opened 2 rfl (by simp; omega) fun g hg => ?_
  obtain rfl := (hJ.lay _ _ _ _).1 hg
  by_cases h0 : J.es = []
  · have := hk .nils (.inl ⟨h0, rfl⟩)
    simpa [jG, h0, jCells, GC.at, jEvs] using this
  · have := hk (.sl (3 + t.length) 0 J.es.length J.es.length false) (.inr ⟨h0, rfl, by
      rw [Nat.add_comm]; simp [jEvs, h0]⟩)
    have e1 : t.length + 1 + 1 + 1 = 3 + t.length := by omega
    simpa [jG, h0, jCells, GC.at, jEvs, e1] using this
theorem EvArg.mono {a : AVal} {l : List Ev} {n : Nat} {t : AHeap A} (h : EvArg a l n t) (r : AHeap A) : EvArg a l n (t ++ r) :=
  ⟨h.len, fun g hg => h.get g fun k o hk => hg k o (by rw [List.getElem?_append_left (List.getElem?_eq_some_iff.1 hk).1]; exact hk), fun g hg => h.src g fun k o hk => hg k o (by rw [List.getElem?_append_left (List.getElem?_eq_some_iff.1 hk).1]; exact hk)⟩
theorem jEvs_cl (es : List Ev) : ∀ o ∈ (jEvs es : AHeap A), o.closed R := by
  intro o ho
  unfold jEvs at ho
  split at ho
  · simp at ho
  · simp at ho; subst ho; exact closed_cells (evs_ix 0 es)
theorem Append_can (hR : R.Ok) (hB : HasBook R bk) (hD : HasDisk R dk) (hJ : HasJrn R jm) {m : Int} {ts t : List Bs} {k : List Bs} {w : Ws} {dn : Bool} {J : JS} {a : AVal} {l : List Ev} {u : AHeap A} {ss : List Bs} {p e : Int} (hok : bOk m ts) (hdk : dOk k w) (hw : w.length ≤ 600) (hn : J.es.length ≤ 300)
    (ha : EvArg a l 3 u) (hl : l.length < 1000000000) (hu : ∀ o ∈ u, o.closed R) (he : jPut m ts J k.length dn l = (t, ss, p, e)) {K : AVal → AHeap A → Prop}
    (hk : K (.int .i64 e) (if e = 0 then .adt (bk m t) :: .adt (dk (dPut k (w ++ jWs (2 + J.es.length) ss)) [] dn) :: .adt (jm 0 1 ⟨J.boot, p, J.es ++ l, J.over⟩) :: u else .adt (bk m t) :: .adt (dk k w dn) :: .adt (jm 0 1 J) :: u)) :
    Tri Pr R n_journal_Journal_Append [.ptr 2 0, a] (.adt (bk m ts) :: .adt (dk k w dn) :: .adt (jm 0 1 J) :: u) K := by
  obtain ⟨f1, f2⟩ := jPut_facts he hdk
  refine Tri.post (Tri.pre (jrn_open hJ (by simp; omega) fun x hx => Gives.done (by simp) ?_))
  apply c_journal_Journal_Append
  unfold p_journal_Journal_Append
  have hxi : x.ix (3 + (u ++ jEvs J.es : AHeap A).length) = true := by
    have := hx.ix
    have e1 : (.adt (bk m ts) :: .adt (dk k w dn) :: jCells 0 1 J.boot J.prev x J.over :: (u ++ jEvs J.es) : AHeap A).length = 3 + (u ++ jEvs J.es : AHeap A).length := by simp; omega
    rw [e1] at this; exact this
  refine written_core hR hB hD (u := u ++ jEvs J.es) hok hdk hw hx.len hn hxi (ha.mono _) hl (fun o ho => ?_) he fun r => ?_
  · rcases List.mem_append.1 ho with h | h
    · exact ⟨(hu o h).1 _, fun τ _ => (hu o h).2 τ⟩
    · exact ⟨(jEvs_cl _ o h).1 _, fun τ _ => (jEvs_cl _ o h).2 τ⟩
  by_cases h0 : e = 0
  · subst h0
    rw [if_pos rfl] at hk
    obtain ⟨rfl, hov, hal, hsl, hlen, hd2⟩ := f2 rfl
    have hd := hdk.size
    have hwl : (w ++ jWs (2 + J.es.length) ss).length ≤ 1000 := by rw [List.length_append, jWs_len]; omega
    unfold jCells at *
    simp -implicitDefEqProofs
    refine joinP_go ?_
    simp -implicitDefEqProofs
    refine disk_Flush_at hR hD hd2 hwl rfl rfl ?_
    generalize dPut k (w ++ jWs (2 + J.es.length) ss) = k2 at *
    simp -implicitDefEqProofs
    have hx2 : EvAt x J.es (3 + u.length) (.adt (bk m t) :: .adt (dk k2 [] false) :: .cells t_journal_Journal [.ptr 0 0, .ptr 1 0, .int .i64 J.boot, .int .i64 J.prev, x, .bool J.over] :: (u ++ (jEvs J.es ++ r))) := by
      have := (hx.move (h' := .adt (bk m t) :: .adt (dk k2 [] false) :: .cells t_journal_Journal [.ptr 0 0, .ptr 1 0, .int .i64 J.boot, .int .i64 J.prev, x, .bool J.over] :: (u ++ jEvs J.es)) fun _ => by rw [Nat.add_comm]; rfl).app r
      simpa using this
    refine app_evs hx2 (ha.src _ fun k o h => up_at k o h) (by omega) fun x' e' h' hev hsame hl' he' => ?_
    have hne : ∀ k, k < 3 + u.length → h'[k]? = (.adt (bk m t) :: .adt (dk k2 [] false) :: .cells t_journal_Journal [.ptr 0 0, .ptr 1 0, .int .i64 J.boot, .int .i64 J.prev, x, .bool J.over] :: (u ++ (jEvs J.es ++ r)) : AHeap A)[k]? := fun k hk => hsame k (.inr (by omega)) (by simp; omega)
    have q0 : h'[0]? = some (.adt (bk m t)) := hne 0 (by omega)
    have q1 : h'[1]? = some (.adt (dk k2 [] false)) := hne 1 (by omega)
    have q2 : h'[2]? = some (.cells t_journal_Journal [.ptr 0 0, .ptr 1 0, .int .i64 J.boot, .int .i64 J.prev, x, .bool J.over]) := hne 2 (by omega)
    obtain ⟨h'', rfl⟩ := three q0 q1 q2
    have hut : h''.take u.length = u := take_eq fun k hk => by
      have := hne (k + 3) (by omega)
      simp only [List.getElem?_cons_succ] at this
      rw [this, List.getElem?_append_left hk]
    have hsp : h'' = u ++ h''.drop u.length := by conv => lhs; rw [← List.take_append_drop u.length h'', hut]
    have hge : 3 + u.length ≤ e' := by
      rcases he' with ⟨_, rfl⟩ | h
      · exact Nat.le_refl _
      · simp at h; omega
    rw [st_ev hev]
    simp -implicitDefEqProofs
    have hev2 : EvAt x' (J.es ++ l) e' (.adt (bk m t) :: .adt (dk k2 [] false) :: jCells 0 1 J.boot p x' J.over :: (u ++ h''.drop u.length)) := by
      rw [← hsp]
      refine hev.move fun _ => ?_
      obtain ⟨j, rfl⟩ : ∃ j, e' = j + 3 := ⟨e' - 3, by omega⟩
      rfl
    rw [hsp]
    refine ⟨by rw [← hsp]; simp at hl'; omega, ?_⟩
    exact jrn_shut hR hJ (J := ⟨J.boot, p, J.es ++ l, J.over⟩) (t := u) hev2 (fun _ => hge) (book_cl hB _ _) (disk_cl hD _ _ _) hu (by omega) (by simp [ixs, AVal.ix]) ⟨_, rfl, hk⟩
  · rw [if_neg h0] at hk
    obtain rfl := f1 h0
    have h0' : (e == 0) = false := by simpa using h0
    unfold jCells at *
    simp -implicitDefEqProofs [h0']
    refine joinP_go ?_
    simp -implicitDefEqProofs [jWs]
    have hx2 : EvAt x J.es (3 + u.length) (.adt (bk m t) :: .adt (dk k w dn) :: jCells 0 1 J.boot J.prev x J.over :: (u ++ (jEvs J.es ++ r))) := by
      have := (hx.move (h' := .adt (bk m t) :: .adt (dk k w dn) :: jCells 0 1 J.boot J.prev x J.over :: (u ++ jEvs J.es)) fun _ => by rw [Nat.add_comm]; rfl).app r
      simpa using this
    exact jrn_shut hR hJ (J := J) (t := u) hx2 (fun _ => Nat.le_refl _) (book_cl hB _ _) (disk_cl hD _ _ _) hu (by omega) (by simp [ixs, AVal.ix]) ⟨_, rfl, hk⟩
end
end Go.AI

/- Journals: Write, Events, and the calls wherever they stand. -/
set_option linter.all false
namespace Go.AI
variable {A : Type} {R : Adts A}
section
variable {bk : Int → List Bs → A} {dk : List Bs → Ws → Bool → A} {jm : Nat → Nat → JS → A}
theorem Write_can (hR : R.Ok) (hB : HasBook R bk) (hD : HasDisk R dk) (hJ : HasJrn R jm) {m : Int} {ts t : List Bs} {k : List Bs} {w : Ws} {dn : Bool} {J : JS} {a : AVal} {l : List Ev} {u : AHeap A} {ss : List Bs} {p e : Int} (hok : bOk m ts) (hdk : dOk k w) (hw : w.length ≤ 600) (hn : J.es.length ≤ 300)
    (ha : EvArg a l 3 u) (hl : l.length < 1000000000) (hu : ∀ o ∈ u, o.closed R) (he : jPut m ts J k.length dn l = (t, ss, p, e)) {K : AVal → AHeap A → Prop}
    (hk : K (.int .i64 e) (if e = 0 then .adt (bk m t) :: .adt (dk k (w ++ jWs (2 + J.es.length) ss) dn) :: .adt (jm 0 1 ⟨J.boot, J.prev, J.es, true⟩) :: u else .adt (bk m t) :: .adt (dk k w dn) :: .adt (jm 0 1 J) :: u)) :
    Tri Pr R n_journal_Journal_Write [.ptr 2 0, a] (.adt (bk m ts) :: .adt (dk k w dn) :: .adt (jm 0 1 J) :: u) K := by
  obtain ⟨f1, f2⟩ := jPut_facts he hdk
  refine Tri.post (Tri.pre (jrn_open hJ (by simp; omega) fun x hx => Gives.done (by simp) ?_))
  apply c_journal_Journal_Write
  unfold p_journal_Journal_Write
  have hxi : x.ix (3 + (u ++ jEvs J.es : AHeap A).length) = true := by
    have := hx.ix
    have e1 : (.adt (bk m ts) :: .adt (dk k w dn) :: jCells 0 1 J.boot J.prev x J.over :: (u ++ jEvs J.es) : AHeap A).length = 3 + (u ++ jEvs J.es : AHeap A).length := by simp; omega
    rw [e1] at this; exact this
  refine written_core hR hB hD (u := u ++ jEvs J.es) hok hdk hw hx.len hn hxi (ha.mono _) hl (fun o ho => ?_) he fun r => ?_
  · rcases List.mem_append.1 ho with h | h
    · exact ⟨(hu o h).1 _, fun τ _ => (hu o h).2 τ⟩
    · exact ⟨(jEvs_cl _ o h).1 _, fun τ _ => (jEvs_cl _ o h).2 τ⟩
  by_cases h0 : e = 0
  · subst h0
    rw [if_pos rfl] at hk
    unfold jCells at *
    simp -implicitDefEqProofs
    refine joinP_go ?_
    simp -implicitDefEqProofs
    have hx2 : EvAt x J.es (3 + u.length) (.adt (bk m t) :: .adt (dk k (w ++ jWs (2 + J.es.length) ss) dn) :: jCells 0 1 J.boot J.prev x true :: (u ++ (jEvs J.es ++ r))) := by
      have := (hx.move (h' := .adt (bk m t) :: .adt (dk k (w ++ jWs (2 + J.es.length) ss) dn) :: jCells 0 1 J.boot J.prev x true :: (u ++ jEvs J.es)) fun _ => by rw [Nat.add_comm]; rfl).app r
      simpa using this
    exact jrn_shut hR hJ (J := ⟨J.boot, J.prev, J.es, true⟩) (t := u) hx2 (fun _ => Nat.le_refl _) (book_cl hB _ _) (disk_cl hD _ _ _) hu (by omega) (by simp [ixs, AVal.ix]) ⟨_, rfl, hk⟩
  · rw [if_neg h0] at hk
    obtain rfl := f1 h0
    have h0' : (e == 0) = false := by simpa using h0
    unfold jCells at *
    simp -implicitDefEqProofs [h0']
    refine joinP_go ?_
    simp -implicitDefEqProofs [jWs]
    have hx2 : EvAt x J.es (3 + u.length) (.adt (bk m t) :: .adt (dk k w dn) :: jCells 0 1 J.boot J.prev x J.over :: (u ++ (jEvs J.es ++ r))) := by
      have := (hx.move (h' := .adt (bk m t) :: .adt (dk k w dn) :: jCells 0 1 J.boot J.prev x J.over :: (u ++ jEvs J.es)) fun _ => by rw [Nat.add_comm]; rfl).app r
      simpa using this
    exact jrn_shut hR hJ (J := J) (t := u) hx2 (fun _ => Nat.le_refl _) (book_cl hB _ _) (disk_cl hD _ _ _) hu (by omega) (by simp [ixs, AVal.ix]) ⟨_, rfl, hk⟩
theorem jrn_frame1 (hR : R.Ok) (hB : HasBook R bk) (hD : HasDisk R dk) (hJ : HasJrn R jm) {m : Int} {ts ts' k k' : List Bs} {w w' : Ws} {dn dn' : Bool} {J J' : JS} {f : FuncId} {q n cap : Nat} {ex : Bool} {o : AObj A} (ho : o.closed R) {v : AVal} (hv : v.ix 0 = true)
    (t : Tri Pr R f [.ptr 2 0, .sl 3 0 n cap ex] [.adt (bk m ts), .adt (dk k w dn), .adt (jm 0 1 J), o] fun u g => u = v ∧ g = [.adt (bk m ts'), .adt (dk k' w' dn'), .adt (jm 0 1 J'), o])
    {h : AHeap A} {b d j : Nat} (hb : h[b]? = some (.adt (bk m ts))) (hd : h[d]? = some (.adt (dk k w dn))) (hj : h[j]? = some (.adt (jm b d J))) (hq : h[q]? = some o) (hne : b ≠ d ∧ b ≠ j ∧ d ≠ j) (hnq : b ≠ q ∧ d ≠ q ∧ j ≠ q) {K : AVal → AHeap A → Prop}
    (hk : K v (((h.set b (.adt (bk m ts'))).set d (.adt (dk k' w' dn'))).set j (.adt (jm b d J')))) : Tri Pr R f [.ptr j 0, .sl q 0 n cap ex] h K := by
  have s : Sel R [b, d, j, q] h [.adt (bk m ts), .adt (dk k w dn), .adt (jm 0 1 J), o] := by
    refine ⟨rfl, by simp [hne, hnq], fun k o' hk => ?_, fun o' ho' => ?_⟩
    · match k, hk with
      | 0, hk => simp at hk; subst hk; exact ⟨b, rfl, by rw [book_ren hB]; exact hb⟩
      | 1, hk => simp at hk; subst hk; exact ⟨d, rfl, by rw [disk_ren hD]; exact hd⟩
      | 2, hk => simp at hk; subst hk; exact ⟨j, rfl, by rw [jrn_ren hJ]; simpa [at_] using hj⟩
      | 3, hk => simp at hk; subst hk; exact ⟨q, rfl, by rw [ho.2]; exact hq⟩
      | k + 4, hk => simp at hk
    · simp only [List.mem_cons, List.not_mem_nil, or_false] at ho'
      rcases ho' with rfl | rfl | rfl | rfl
      · exact book_ix hB _ _ _
      · exact disk_ix hD _ _ _ _
      · exact jrn_ix hJ _ (by simp) (by simp)
      · exact ho.1 _
  have := (Tri.frame hR s (as2 := [.ptr 2 0, .sl 3 0 n cap ex]) (by simp [ixs, AVal.ix]) t)
  have e1 : rens (at_ [b, d, j, q] h.length) [.ptr 2 0, .sl 3 0 n cap ex] = [.ptr j 0, .sl q 0 n cap ex] := by
    simp [rens, AVal.ren, at_]
  rw [e1] at this
  refine this.mono ?_
  rintro v0 H ⟨_, h0, ⟨rfl, rfl⟩, _, rfl, rfl⟩
  have hvr : ∀ (u : AVal) τ, u.ix 0 = true → u.ren τ = u := fun u τ hu => by
    have := rens_ix0 τ [u] (by simpa [ixs] using hu)
    simpa [rens] using this
  rw [hvr _ _ hv]
  have hq2 : (((h.set b (.adt (bk m ts'))).set d (.adt (dk k' w' dn'))).set j (.adt (jm b d J')) : AHeap A)[q]? = some o := by
    rw [List.getElem?_set_ne hnq.2.2, List.getElem?_set_ne hnq.2.1, List.getElem?_set_ne hnq.1]; exact hq
  simpa [splice, setAll, book_ren hB, disk_ren hD, jrn_ren hJ, at_, ho.2, set_same hq2] using hk
/-- Events that stand somewhere: by themselves, or in an object. -/
def EvsAt (a : AVal) (l : List Ev) (h : AHeap A) (x : Nat → Prop) : Prop := (a = .nils ∧ l = []) ∨ IsRows Ev.row a l ∨ ∃ q cap ex, a = .sl q 0 l.length cap ex ∧ h[q]? = some (.cells t_api_Event (l.flatMap Ev.row)) ∧ x q
theorem jrn_call (hR : R.Ok) (hB : HasBook R bk) (hD : HasDisk R dk) (hJ : HasJrn R jm) {m : Int} {ts ts' k k' : List Bs} {w w' : Ws} {dn dn' : Bool} {J J' : JS} {f : FuncId} {a : AVal} {l : List Ev} {v : AVal} (hv : v.ix 0 = true)
    (t : ∀ (a : AVal) (u : AHeap A), EvArg a l 3 u → (∀ o ∈ u, o.closed R) → Tri Pr R f [.ptr 2 0, a] (.adt (bk m ts) :: .adt (dk k w dn) :: .adt (jm 0 1 J) :: u) fun x g => x = v ∧ g = .adt (bk m ts') :: .adt (dk k' w' dn') :: .adt (jm 0 1 J') :: u)
    {h : AHeap A} {b d j : Nat} (hb : h[b]? = some (.adt (bk m ts))) (hd : h[d]? = some (.adt (dk k w dn))) (hj : h[j]? = some (.adt (jm b d J))) (hne : b ≠ d ∧ b ≠ j ∧ d ≠ j) (ha : EvsAt a l h fun q => b ≠ q ∧ d ≠ q ∧ j ≠ q) {K : AVal → AHeap A → Prop}
    (hk : K v (((h.set b (.adt (bk m ts'))).set d (.adt (dk k' w' dn'))).set j (.adt (jm b d J')))) : Tri Pr R f [.ptr j 0, a] h K := by
  rcases ha with ⟨rfl, rfl⟩ | ha | ⟨q, cap, ex, rfl, hq, hx⟩
  · exact jrn_frame0 hR hB hD hJ (us := [.nils]) rfl hv (t _ [] (EvArg.nil _ _) (by simp)) hb hd hj hne hk
  · refine jrn_frame0 hR hB hD hJ (us := [a]) ?_ hv (t _ [] (EvArg.rows ha _ _) (by simp)) hb hd hj hne hk
    rcases ha with ⟨rfl, rfl⟩ | ⟨b, o, cap, rfl⟩ <;> rfl
  · exact jrn_frame1 hR hB hD hJ (o := .cells t_api_Event (l.flatMap Ev.row)) (closed_cells (evs_ix 0 l)) hv (t _ _ (EvArg.sl l 3 cap ex t_api_Event) (by simp; exact closed_cells (evs_ix 0 l))) hb hd hj hq hne hx hk
theorem Append_ok (hR : R.Ok) (hB : HasBook R bk) (hD : HasDisk R dk) (hJ : HasJrn R jm) {m : Int} {ts t : List Bs} {k : List Bs} {w : Ws} {dn : Bool} {J : JS} {a : AVal} {l : List Ev} {ss : List Bs} {p e : Int} (hok : bOk m ts) (hdk : dOk k w) (hw : w.length ≤ 600) (hn : J.es.length ≤ 300) (hl : l.length < 1000000000)
    (he : jPut m ts J k.length dn l = (t, ss, p, e)) {h : AHeap A} {b d j : Nat} (hb : h[b]? = some (.adt (bk m ts))) (hd : h[d]? = some (.adt (dk k w dn))) (hj : h[j]? = some (.adt (jm b d J))) (hne : b ≠ d ∧ b ≠ j ∧ d ≠ j) (ha : EvsAt a l h fun q => b ≠ q ∧ d ≠ q ∧ j ≠ q) {K : AVal → AHeap A → Prop}
    (hk : if e = 0 then K (.int .i64 e) (((h.set b (.adt (bk m t))).set d (.adt (dk (dPut k (w ++ jWs (2 + J.es.length) ss)) [] dn))).set j (.adt (jm b d ⟨J.boot, p, J.es ++ l, J.over⟩)))
      else K (.int .i64 e) (h.set b (.adt (bk m t)))) : Tri Pr R n_journal_Journal_Append [.ptr j 0, a] h K := by
  by_cases h0 : e = 0
  · rw [if_pos h0] at hk
    exact jrn_call hR hB hD hJ rfl (fun a u ha hu => Append_can hR hB hD hJ hok hdk hw hn ha hl hu he ⟨rfl, by rw [if_pos h0]⟩) hb hd hj hne ha hk
  · rw [if_neg h0] at hk
    refine jrn_call hR hB hD hJ rfl (fun a u ha hu => Append_can hR hB hD hJ hok hdk hw hn ha hl hu he ⟨rfl, by rw [if_neg h0]⟩) hb hd hj hne ha ?_
    have e1 : (h.set b (.adt (bk m t)) : AHeap A)[d]? = some (.adt (dk k w dn)) := by rw [List.getElem?_set_ne hne.1]; exact hd
    have e2 : (h.set b (.adt (bk m t)) : AHeap A)[j]? = some (.adt (jm b d J)) := by rw [List.getElem?_set_ne hne.2.1]; exact hj
    rw [set_same e1, set_same e2]
    exact hk
theorem Write_ok (hR : R.Ok) (hB : HasBook R bk) (hD : HasDisk R dk) (hJ : HasJrn R jm) {m : Int} {ts t : List Bs} {k : List Bs} {w : Ws} {dn : Bool} {J : JS} {a : AVal} {l : List Ev} {ss : List Bs} {p e : Int} (hok : bOk m ts) (hdk : dOk k w) (hw : w.length ≤ 600) (hn : J.es.length ≤ 300) (hl : l.length < 1000000000)
    (he : jPut m ts J k.length dn l = (t, ss, p, e)) {h : AHeap A} {b d j : Nat} (hb : h[b]? = some (.adt (bk m ts))) (hd : h[d]? = some (.adt (dk k w dn))) (hj : h[j]? = some (.adt (jm b d J))) (hne : b ≠ d ∧ b ≠ j ∧ d ≠ j) (ha : EvsAt a l h fun q => b ≠ q ∧ d ≠ q ∧ j ≠ q) {K : AVal → AHeap A → Prop}
    (hk : if e = 0 then K (.int .i64 e) (((h.set b (.adt (bk m t))).set d (.adt (dk k (w ++ jWs (2 + J.es.length) ss) dn))).set j (.adt (jm b d ⟨J.boot, J.prev, J.es, true⟩)))
      else K (.int .i64 e) (h.set b (.adt (bk m t)))) : Tri Pr R n_journal_Journal_Write [.ptr j 0, a] h K := by
  by_cases h0 : e = 0
  · rw [if_pos h0] at hk
    exact jrn_call hR hB hD hJ rfl (fun a u ha hu => Write_can hR hB hD hJ hok hdk hw hn ha hl hu he ⟨rfl, by rw [if_pos h0]⟩) hb hd hj hne ha hk
  · rw [if_neg h0] at hk
    refine jrn_call hR hB hD hJ rfl (fun a u ha hu => Write_can hR hB hD hJ hok hdk hw hn ha hl hu he ⟨rfl, by rw [if_neg h0]⟩) hb hd hj hne ha ?_
    have e1 : (h.set b (.adt (bk m t)) : AHeap A)[d]? = some (.adt (dk k w dn)) := by rw [List.getElem?_set_ne hne.1]; exact hd
    have e2 : (h.set b (.adt (bk m t)) : AHeap A)[j]? = some (.adt (jm b d J)) := by rw [List.getElem?_set_ne hne.2.1]; exact hj
    rw [set_same e1, set_same e2]
    exact hk
theorem Boot_ok (hR : R.Ok) (hB : HasBook R bk) (hD : HasDisk R dk) (hJ : HasJrn R jm) {m : Int} {ts k : List Bs} {w : Ws} {dn : Bool} {J : JS} {h : AHeap A} {b d j : Nat} (hb : h[b]? = some (.adt (bk m ts))) (hd : h[d]? = some (.adt (dk k w dn))) (hj : h[j]? = some (.adt (jm b d J))) (hne : b ≠ d ∧ b ≠ j ∧ d ≠ j) {K : AVal → AHeap A → Prop}
    (hk : K (.int .i64 J.boot) h) : Tri Pr R n_journal_Journal_Boot [.ptr j 0] h K := by
  refine jrn_frame0 hR hB hD hJ (ts' := ts) (k' := k) (w' := w) (dn' := dn) (J' := J) (us := []) (v := .int .i64 J.boot) rfl rfl ?_ hb hd hj hne (by rw [set_same hb, set_same hd, set_same hj]; exact hk)
  refine Tri.post (Tri.pre (jrn_open hJ (t := []) (by simp) fun x hx => Gives.done (by simp) ?_))
  apply c_journal_Journal_Boot
  unfold p_journal_Journal_Boot
  unfold jCells at *
  simp -implicitDefEqProofs
  exact jrn_shut hR hJ (J := J) (t := []) (r := jEvs J.es) hx (fun _ => Nat.le_refl _) (book_cl hB _ _) (disk_cl hD _ _ _) (by simp) (by simp) (by simp [ixs, AVal.ix]) ⟨_, rfl, rfl, rfl⟩
theorem Room_ok (hR : R.Ok) (hB : HasBook R bk) (hD : HasDisk R dk) (hJ : HasJrn R jm) {m : Int} {ts k : List Bs} {w : Ws} {dn : Bool} {J : JS} (hkl : k.length ≤ 256) (hn : J.es.length ≤ 300) {h : AHeap A} {b d j : Nat} (hb : h[b]? = some (.adt (bk m ts))) (hd : h[d]? = some (.adt (dk k w dn))) (hj : h[j]? = some (.adt (jm b d J))) (hne : b ≠ d ∧ b ≠ j ∧ d ≠ j) {K : AVal → AHeap A → Prop}
    (hk : K (.int .i64 ((k.length : Int) - 2 - J.es.length)) h) : Tri Pr R n_journal_Journal_Room [.ptr j 0] h K := by
  refine jrn_frame0 hR hB hD hJ (ts' := ts) (k' := k) (w' := w) (dn' := dn) (J' := J) (us := []) (v := .int .i64 ((k.length : Int) - 2 - J.es.length)) rfl rfl ?_ hb hd hj hne (by rw [set_same hb, set_same hd, set_same hj]; exact hk)
  refine Tri.post (Tri.pre (jrn_open hJ (t := []) (by simp) fun x hx => Gives.done (by simp) ?_))
  refine Room_raw hR hD (h := .adt (bk m ts) :: .adt (dk k w dn) :: jCells 0 1 J.boot J.prev x J.over :: ([] ++ jEvs J.es)) (j := 2) (b := 0) (d := 1) (k := k) (w := w) (dn := dn) (n := J.es.length) rfl rfl hx.len (by omega) hkl ?_
  exact jrn_shut hR hJ (J := J) (t := []) (r := jEvs J.es) hx (fun _ => Nat.le_refl _) (book_cl hB _ _) (disk_cl hD _ _ _) (by simp) (by simp) (by simp [ixs, AVal.ix]) ⟨_, rfl, rfl, rfl⟩
end
end Go.AI

/- Journals: Events; events that are compared and copied. -/
set_option linter.all false
namespace Go.AI
variable {A : Type} {R : Adts A}
/-- New memory that holds these events. -/
def NewEvs (es : List Ev) (p : Nat) : AVal := if es = [] then .nils else .sl p 0 es.length es.length false
section
variable {bk : Int → List Bs → A} {dk : List Bs → Ws → Bool → A} {jm : Nat → Nat → JS → A}
/-- As jrn_shut; of the rest just one object goes on. -/
theorem jrn_shut1 (hR : R.Ok) (hJ : HasJrn R jm) {a b o : AObj A} {J : JS} {x : AVal} {e q n : Nat} {u : AHeap A} {vs vs2 : List AVal} {K : List AVal → AHeap A → Prop} (he : EvAt x J.es e (a :: b :: jCells 0 1 J.boot J.prev x J.over :: u)) (he3 : J.es ≠ [] → 3 ≤ e) (ha : a.closed R) (hb : b.closed R) (ho : o.closed R)
    (hq : (a :: b :: jCells 0 1 J.boot J.prev x J.over :: u : AHeap A)[q]? = some o) (hq3 : 3 ≤ q) (hqe : J.es ≠ [] → q ≠ e) (hn : n ≤ 3) (hvs : ∀ τ : Nat → Nat, τ 3 = q → vs = rens τ vs2) (hv : ixs 4 vs2 = true) (hk : K vs2 [a, b, .adt (jm 0 1 J), o]) : Gives Pr R n (a :: b :: jCells 0 1 J.boot J.prev x J.over :: u) vs K := by
  have hql := (List.getElem?_eq_some_iff.1 hq).1
  have key : ∀ js : List Nat, (∀ j ∈ js, 3 ≤ j ∧ j ≠ q) → Gives Pr R n ((kills (a :: b :: jCells 0 1 J.boot J.prev x J.over :: u) js).set 2 (.adt (jm 0 1 J))) vs K := by
    intro js hjs
    have hg : ∀ k, k < 3 ∨ k = q → k ≠ 2 → ((kills (a :: b :: jCells 0 1 J.boot J.prev x J.over :: u) js).set 2 (.adt (jm 0 1 J)) : AHeap A)[k]? = (a :: b :: jCells 0 1 J.boot J.prev x J.over :: u : AHeap A)[k]? := by
      intro k hk h2
      have hnj : k ∉ js := fun h => by have := hjs k h; omega
      rw [List.getElem?_set_ne (Ne.symm h2), kills_get _ _ _ (by rcases hk with h | h; simp; omega; rw [h]; exact hql), if_neg hnj]
    have g0 := hg 0 (.inl (by omega)) (by omega)
    have g1 := hg 1 (.inl (by omega)) (by omega)
    have gq := hg q (.inr rfl) (by omega)
    have g2 : ((kills (a :: b :: jCells 0 1 J.boot J.prev x J.over :: u) js).set 2 (.adt (jm 0 1 J)) : AHeap A)[2]? = some (.adt (jm 0 1 J)) := by
      rw [List.getElem?_set_self (by rw [kills_length]; simp)]
    generalize (kills (a :: b :: jCells 0 1 J.boot J.prev x J.over :: u) js).set 2 (.adt (jm 0 1 J)) = g at *
    refine Gives.keep hR [0, 1, 2, q] (h2 := [a, b, .adt (jm 0 1 J), o]) (vs2 := vs2) ⟨rfl, by simp; omega, fun k o' hk => ?_, fun o' ho' => ?_⟩ (hvs _ (by simp [at_])) hv (fun k hk => ?_) (Gives.done (by simp; omega) hk)
    · match k, hk with
      | 0, hk => simp at hk; subst hk; exact ⟨0, rfl, by rw [ha.2, g0]; rfl⟩
      | 1, hk => simp at hk; subst hk; exact ⟨1, rfl, by rw [hb.2, g1]; rfl⟩
      | 2, hk => simp at hk; subst hk; exact ⟨2, rfl, by rw [jrn_ren hJ, g2]; simp [at_]⟩
      | 3, hk => simp at hk; subst hk; exact ⟨q, rfl, by rw [ho.2, gq]; exact hq⟩
      | k + 4, hk => simp at hk
    · simp only [List.mem_cons, List.not_mem_nil, or_false] at ho'
      rcases ho' with rfl | rfl | rfl | rfl
      · exact ha.1 _
      · exact hb.1 _
      · exact jrn_ix hJ _ (by simp) (by simp)
      · exact ho.1 _
    · match k, hk with
      | 0, _ => rfl
      | 1, _ => rfl
      | 2, _ => rfl
      | k + 3, hk => omega
  rcases he with ⟨h0, rfl⟩ | ⟨h0, rfl, h1⟩
  · refine Gives.shut 2 [] (jm 0 1 J) (jG 0 1 J) ((hJ.lay _ _ _ _).2 rfl) ?_ ?_ ?_ (by simp) ?_ ?_ (key [] (by simp))
    · simp [jG, h0, jCells, GC.on]
    · simp [jG, h0]
    · intro i s hs; simp [jG, h0] at hs
    · simp [jG, h0]
    · simp [jG, h0]
  · have he3 := he3 h0
    have hqe := hqe h0
    refine Gives.shut 2 [e] (jm 0 1 J) (jG 0 1 J) ((hJ.lay _ _ _ _).2 rfl) ?_ ?_ ?_ (by simp; omega) ?_ ?_ (key [e] (by simpa using ⟨he3, Ne.symm hqe⟩))
    · simp [jG, h0, jCells, GC.on]
    · simp [jG, h0]
    · intro i s hs
      match i, hs with
      | 0, hs => simp [jG, h0] at hs; subst hs; exact ⟨by simpa using h1, rfl⟩
      | i + 1, hs => simp [jG, h0] at hs
    · intro i o len cap ex hm
      simp [jG, h0] at hm ⊢
      omega
    · simp [jG, h0]
theorem app_new {a : AVal} {l : List Ev} {h : AHeap A} {p : Nat} {t : TypeId} (hp : h[p]? = some (.cells t [])) (hs : srcOf 8 h a = some (l.length, l.flatMap Ev.row)) (hl : l.length ≤ 2000000) {K : AVal → AHeap A → Prop}
    (hk : if l = [] then K (.sl p 0 0 0 true) h else K (.sl h.length 0 l.length l.length false) (h ++ [.cells t_api_Event (l.flatMap Ev.row)])) : appP t_api_Event 8 64 (.sl p 0 0 0 true) a h K := by
  unfold appP appV
  rw [hs]
  dsimp only
  by_cases h0 : l = []
  · subst h0
    rw [if_pos rfl] at hk
    have : setAt h p (0 + 0 * 8) [] = some h := by
      unfold setAt
      rw [hp]
      simp only [over]
      rw [if_pos ⟨by simp, rfl⟩]
      simp [set_same hp]
    simp only [List.length_nil, Nat.add_zero, Nat.le_refl, if_true, List.flatMap_nil, this, Option.map_some, optH]
    exact hk
  · rw [if_neg h0] at hk
    have hpos := List.length_pos_iff.2 h0
    rw [if_neg (by omega), hp]
    dsimp only
    rw [if_pos ⟨by omega, by simp, .inl ⟨rfl, rfl, by omega⟩⟩, if_pos rfl]
    simp only [optH]
    simpa using hk
theorem Events_ok (hR : R.Ok) (hB : HasBook R bk) (hD : HasDisk R dk) (hJ : HasJrn R jm) {m : Int} {ts k : List Bs} {w : Ws} {dn : Bool} {J : JS} (hn : J.es.length ≤ 300) {h : AHeap A} {b d j : Nat} (hb : h[b]? = some (.adt (bk m ts))) (hd : h[d]? = some (.adt (dk k w dn))) (hj : h[j]? = some (.adt (jm b d J))) (hne : b ≠ d ∧ b ≠ j ∧ d ≠ j) {K : AVal → AHeap A → Prop}
    (hk : if J.es = [] then K .nils h else K (.sl h.length 0 J.es.length J.es.length false) (h ++ [.cells t_api_Event (J.es.flatMap Ev.row)])) : Tri Pr R n_journal_Journal_Events [.ptr j 0] h K := by
  by_cases h0 : J.es = []
  · rw [if_pos h0] at hk
    refine jrn_frame0 hR hB hD hJ (ts' := ts) (k' := k) (w' := w) (dn' := dn) (J' := J) (us := []) (v := .nils) rfl rfl ?_ hb hd hj hne (by rw [set_same hb, set_same hd, set_same hj]; exact hk)
    refine Tri.post (Tri.pre (jrn_open hJ (t := []) (by simp) fun x hx => Gives.done (by simp) ?_))
    apply c_journal_Journal_Events
    unfold p_journal_Journal_Events
    obtain rfl : x = .nils := by
      rcases hx with ⟨_, h⟩ | ⟨h, _⟩
      · exact h
      · exact absurd h0 h
    unfold jCells at *
    simp -implicitDefEqProofs
    apply c_slices_Clone_api_Event
    unfold p_slices_Clone_api_Event
    simp -implicitDefEqProofs
    exact jrn_shut hR hJ (J := J) (t := []) (r := jEvs J.es) hx (fun _ => Nat.le_refl _) (book_cl hB _ _) (disk_cl hD _ _ _) (by simp) (by simp) (by simp [ixs, AVal.ix]) ⟨_, rfl, rfl, rfl⟩
  · rw [if_neg h0] at hk
    have s : Sel R [b, d, j] h [.adt (bk m ts), .adt (dk k w dn), .adt (jm 0 1 J)] := by
      refine ⟨rfl, by simp [hne], fun k o hk => ?_, fun o ho => ?_⟩
      · match k, hk with
        | 0, hk => simp at hk; subst hk; exact ⟨b, rfl, by rw [book_ren hB]; exact hb⟩
        | 1, hk => simp at hk; subst hk; exact ⟨d, rfl, by rw [disk_ren hD]; exact hd⟩
        | 2, hk => simp at hk; subst hk; exact ⟨j, rfl, by rw [jrn_ren hJ]; simpa [at_] using hj⟩
        | k + 3, hk => simp at hk
      · simp only [List.mem_cons, List.not_mem_nil, or_false] at ho
        rcases ho with rfl | rfl | rfl
        · exact book_ix hB _ _ _
        · exact disk_ix hD _ _ _ _
        · exact jrn_ix hJ _ (by simp) (by simp)
    have t : Tri Pr R n_journal_Journal_Events [.ptr 2 0] [.adt (bk m ts), .adt (dk k w dn), .adt (jm 0 1 J)] fun u g => u = .sl 3 0 J.es.length J.es.length false ∧ g = [.adt (bk m ts), .adt (dk k w dn), .adt (jm 0 1 J), .cells t_api_Event (J.es.flatMap Ev.row)] := by
      refine Tri.post (Tri.pre (jrn_open hJ (t := []) (by simp) fun x hx => Gives.done (by simp) ?_))
      apply c_journal_Journal_Events
      unfold p_journal_Journal_Events
      have hx' := hx
      obtain ⟨rfl, h1⟩ : x = .sl 3 0 J.es.length J.es.length false ∧ True := by
        rcases hx with ⟨h, _⟩ | ⟨_, h, _⟩
        · exact absurd h h0
        · exact ⟨h, trivial⟩
      have hE : (jEvs J.es : AHeap A) = [.cells t_api_Event (J.es.flatMap Ev.row)] := by simp [jEvs, h0]
      rw [hE] at hx' ⊢
      unfold jCells at *
      simp -implicitDefEqProofs
      apply c_slices_Clone_api_Event
      unfold p_slices_Clone_api_Event
      simp -implicitDefEqProofs
      refine app_new (p := 4) (l := J.es) rfl ?_ (by omega) ?_
      · have hl := evs_len J.es
        generalize J.es.flatMap Ev.row = C at *
        have t1 : C.take (J.es.length * 8) = C := List.take_of_length_le (by omega)
        simp [srcOf, cellsAt, AObj.read, hl, t1]
      · rw [if_neg h0]
        simp -implicitDefEqProofs
        have h5 : EvAt (.sl 3 0 J.es.length J.es.length false) J.es 3 (.adt (bk m ts) :: .adt (dk k w dn) :: jCells 0 1 J.boot J.prev (.sl 3 0 J.es.length J.es.length false) J.over :: [.cells t_api_Event (J.es.flatMap Ev.row), .cells t_api_Event [], .cells t_api_Event (J.es.flatMap Ev.row)] : AHeap A) := .inr ⟨h0, rfl, rfl⟩
        exact jrn_shut1 hR hJ (J := J) (q := 5) (o := .cells t_api_Event (J.es.flatMap Ev.row)) (vs2 := [.sl 3 0 J.es.length J.es.length false]) h5 (fun _ => Nat.le_refl _) (book_cl hB _ _) (disk_cl hD _ _ _) (closed_cells (evs_ix 0 _)) rfl (by omega) (fun _ => by omega) (by simp) (fun τ hτ => by simp [rens, AVal.ren, hτ]) (by simp [ixs, AVal.ix]) ⟨_, rfl, rfl, rfl⟩
    refine (Tri.frame hR s (as2 := [.ptr 2 0]) rfl t).mono ?_
    rintro v H ⟨v0, g0, ⟨rfl, rfl⟩, _, rfl, rfl⟩
    have hev : (AObj.cells t_api_Event (J.es.flatMap Ev.row) : AObj A).ren R (at_ [b, d, j] h.length) = .cells t_api_Event (J.es.flatMap Ev.row) := (closed_cells (evs_ix 0 _)).2 _
    simpa [splice, setAll, book_ren hB, disk_ren hD, jrn_ren hJ, AVal.ren, at_, hev, set_same hb, set_same hd, set_same hj] using hk
end
end Go.AI

/- Twins of books, the statements of layer 11. -/
set_option linter.all false
namespace Go.AI
variable {A : Type} {R : Adts A}
section
variable {bk rbk : Int → List Bs → A}
theorem law11_twin_ok (hR : R.Ok) (hB : HasBook R bk) (hB' : HasRBook R rbk) (m : Int) {h : AHeap A} {K : AVal → AHeap A → Prop}
    (hk : if 1 ≤ m ∧ m ≤ 65536 then K (.tup [.ptr h.length 0, .ptr (h.length + 1) 0]) (h ++ [.adt (bk m []), .adt (rbk m [])]) else K (.tup [.nilp, .nilp]) h) : Tri Pr R n_law11_twin [.int .i64 m, .nils] h K := by
  apply c_law11_twin
  unfold p_law11_twin
  refine book_New_ok hR hB m ?_
  by_cases hm : 1 ≤ m ∧ m ≤ 65536
  · rw [if_pos hm] at hk ⊢
    simp
    refine rbook_New_ok hR hB' m ?_
    rw [if_pos hm]
    simp
    refine num14_ok ?_
    simp
    refine loopP_unr 1 ?_
    rw [unr]
    simpa using hk
  · rw [if_neg hm] at hk ⊢
    simp
    refine rbook_New_ok hR hB' m ?_
    rw [if_neg hm]
    simp
    refine num14_ok ?_
    simpa using hk
theorem same11_ok (hR : R.Ok) (hB : HasBook R bk) (hB' : HasRBook R rbk) {m : Int} {ts : List Bs} (hok : bOk m ts) {K : AVal → AHeap A → Prop} (hk : K (.bool true) [.adt (bk m ts), .adt (rbk m ts)]) :
    Tri Pr R n_law11_sameBooks [.ptr 0 0, .ptr 1 0] [.adt (bk m ts), .adt (rbk m ts)] K := by
  have hm := hok.most
  have hl := hok.len
  refine Tri.post (Tri.pre (Gives.opened 1 rfl (by simp) fun g hg => ?_))
  obtain rfl := (hB'.lay _ _ _).1 hg
  refine Gives.done (by simp) ?_
  apply c_law11_sameBooks
  unfold p_law11_sameBooks
  by_cases h0 : ts = []
  · subst h0
    simp -implicitDefEqProofs [rbookG, GC.at]
    refine book_Len_ok hR hB rfl ?_
    simp -implicitDefEqProofs
    refine loopP_unr 1 ?_
    rw [unr]
    simp -implicitDefEqProofs
    exact rbook_shutA hR hB' (book_low hB _ _) rfl ⟨_, rfl, hk⟩
  · have e1 := w64 (n := (ts.length : Int) - 40) (by omega)
    simp -implicitDefEqProofs [rbookG, GC.at, h0]
    refine book_Len_ok hR hB rfl ?_
    simp -implicitDefEqProofs [e1]
    refine loopP_go (SameI bk m ts) _
      (Gives.done (by simp) ⟨(if 0 < (ts.length : Int) - 40 then (ts.length : Int) - 40 else 0).toNat, by congr 2; split <;> omega, rfl, by split <;> omega, rfl⟩) ?_
    rintro k y g ⟨i, rfl, rfl, hi, rfl⟩
    by_cases h1 : i < ts.length
    · have e2 := w64 (n := (i : Int) + 1) (by omega)
      simp -implicitDefEqProofs [h1]
      refine book_Term_ok hR hB i rfl ?_
      have hb : bTerm ts i = (ts[i], 0) := by simp [bTerm, h1]
      rw [hb]
      simp -implicitDefEqProofs
      refine num14_ok ?_
      simp -implicitDefEqProofs [h1, e2]
      exact Gives.done (by simp) ⟨ts.length - (i + 1), by omega, i + 1, rfl, rfl, by omega, rfl⟩
    · simp -implicitDefEqProofs [h1]
      exact rbook_shutB hR hB' h0 (book_low hB _ _) rfl ⟨_, rfl, hk⟩
end
end Go.AI

/- Journals: events that are compared and copied, the disk, the data types. -/
set_option linter.all false
namespace Go.AI
variable {A : Type} {R : Adts A}
/-- Events that can be read in a heap. -/
structure Rd (a : AVal) (l : List Ev) (h : AHeap A) : Prop where
  len : ∀ K : AVal → Prop, lenP a K = K (.int .i64 l.length)
  get : ∀ (i : Nat) (hi : i < l.length), ∃ p, (∀ K, idxP 8 a (.int .i64 i) K = K p) ∧ ldV 8 true p h = some (.agg l[i].row)
  src : srcOf 8 h a = some (l.length, l.flatMap Ev.row)
theorem Rd.of {a : AVal} {l : List Ev} {n : Nat} {t h : AHeap A} (ha : EvArg a l n t) (ht : ∀ k o, t[k]? = some o → h[n + k]? = some o) : Rd a l h := ⟨ha.len, ha.get h ht, ha.src h ht⟩
theorem Rd.nil (h : AHeap A) : Rd .nils [] h := Rd.of (EvArg.nil 0 []) (by simp)
theorem Rd.rows {a : AVal} {l : List Ev} (ha : IsRows Ev.row a l) (h : AHeap A) : Rd a l h := Rd.of (EvArg.rows ha 0 []) (by simp)
theorem Rd.sl (l : List Ev) (q cap : Nat) (ex : Bool) {e : TypeId} {h : AHeap A} (hq : h[q]? = some (.cells e (l.flatMap Ev.row))) : Rd (.sl q 0 l.length cap ex) l h := Rd.of (EvArg.sl l q cap ex e) (fun k o hk => by
  match k, hk with
  | 0, hk => simp at hk; subst hk; exact hq
  | k + 1, hk => simp at hk)
/-- A part of a list of events. -/
theorem Rd.part (l : List Ev) (i n q o cap : Nat) (ex : Bool) {e : TypeId} {h : AHeap A} (hq : h[q]? = some (.cells e (l.flatMap Ev.row))) (hi : i + n ≤ l.length) (ho : o = i * 8) : Rd (.sl q o n cap ex) ((l.drop i).take n) h := by
  subst ho
  have hl := evs_len l
  have hn : ((l.drop i).take n).length = n := by simp; omega
  have hdr : (l.flatMap Ev.row).drop (i * 8) = (l.drop i).flatMap Ev.row := by
    have h0 : l = l.take i ++ l.drop i := (List.take_append_drop i l).symm
    have h1 : ((l.take i).flatMap Ev.row).length = i * 8 := by rw [evs_len, List.length_take, Nat.min_eq_left (by omega)]
    conv => lhs; rw [h0, List.flatMap_append]
    rw [← h1, List.drop_left]
  have htk : ((l.drop i).flatMap Ev.row).take (n * 8) = ((l.drop i).take n).flatMap Ev.row := by
    have h0 : l.drop i = (l.drop i).take n ++ (l.drop i).drop n := (List.take_append_drop n _).symm
    have h1 : (((l.drop i).take n).flatMap Ev.row).length = n * 8 := by rw [evs_len, hn]
    conv => lhs; rw [h0, List.flatMap_append]
    rw [← h1, List.take_left]
  refine ⟨fun K => by simp [hn], fun j hj => ?_, ?_⟩
  · rw [hn] at hj
    refine ⟨.ptr q (i * 8 + j * 8), fun K => by simp [idxP, hj], ?_⟩
    have h3 : i * 8 + j * 8 + 8 ≤ (l.flatMap Ev.row).length := by omega
    have h2 := rows_drop (f := Ev.row) (n := 8) (fun x => rfl) l (i + j) (by omega)
    have h4 : ((l.flatMap Ev.row).drop (i * 8 + j * 8)).take 8 = l[i + j].row := by
      have : i * 8 + j * 8 = (i + j) * 8 := by omega
      rw [this, h2]; simp [Ev.row]
    have h5 : ((l.drop i).take n)[j]'(by rw [hn]; exact hj) = l[i + j] := by simp
    simp only [ldV, cellsAt, hq, AObj.read, Option.bind_some, h3, if_true, h4, h5]
  · simp only [srcOf, cellsAt, hq, Option.bind_some, AObj.read]
    rw [if_pos (by omega), hdr, htk, hn]
def SmI (g : AHeap A) (l r : List Ev) (m : Nat) (y : List AVal) (h : AHeap A) : Prop := ∃ i : Nat, y = [.int .i64 i] ∧ h = g ∧ i ≤ l.length ∧ l.take i = r.take i ∧ m = l.length - i
theorem SameEvents_ok (hR : R.Ok) {a b : AVal} {l r : List Ev} {h : AHeap A} (ha : Rd a l h) (hb : Rd b r h) (hn : l.length < 1000000000) {K : AVal → AHeap A → Prop} (hk : K (.bool (decide (l = r))) h) : Tri Pr R n_law0_SameEvents [a, b] h K := by
  apply c_law0_SameEvents
  unfold p_law0_SameEvents
  simp -implicitDefEqProofs [ha.len, hb.len]
  by_cases hlen : l.length = r.length
  · have h1 : ((l.length : Int) != (r.length : Int)) = false := by simp [hlen]
    simp -implicitDefEqProofs [h1]
    refine loopP_go (SmI h l r) l.length (Gives.done (by simp) ⟨0, rfl, rfl, by omega, rfl, by omega⟩) ?_
    rintro m y g ⟨i, rfl, rfl, hi, heq, rfl⟩
    have e1 := w64 (n := (i : Int) + 1) (by omega)
    by_cases hil : i < l.length
    · obtain ⟨p, hp, hv⟩ := ha.get i hil
      obtain ⟨q, hq, hw⟩ := hb.get i (by omega)
      have hil' : (i : Int) < (l.length : Int) := by omega
      have hs := shEv l[i] (r[i]'(by omega))
      simp -implicitDefEqProofs [hil, hil', hp, hv, hq, hw, hs]
      by_cases he : l[i] = r[i]'(by omega)
      · simp -implicitDefEqProofs [he, e1]
        refine Gives.done (by simp) ⟨l.length - (i + 1), by omega, i + 1, rfl, rfl, by omega, ?_, rfl⟩
        rw [List.take_add_one, List.take_add_one, heq, List.getElem?_eq_getElem hil, List.getElem?_eq_getElem (by omega : i < r.length), he]
      · have hne : l ≠ r := by rintro rfl; exact he rfl
        simp -implicitDefEqProofs [he]
        simpa [hne] using hk
    · have hil' : ¬ (i : Int) < (l.length : Int) := by omega
      have hlr : l = r := by
        rw [List.take_of_length_le (by omega), List.take_of_length_le (by omega)] at heq
        exact heq
      simp -implicitDefEqProofs [hil, hil']
      simpa [hlr] using hk
  · have h1 : ((l.length : Int) != (r.length : Int)) = true := by simp; omega
    have hne : l ≠ r := by rintro rfl; exact hlen rfl
    simp -implicitDefEqProofs [h1]
    simpa [hne] using hk
theorem CopyEvents_ok (hR : R.Ok) {a : AVal} {l : List Ev} {h : AHeap A} (ha : Rd a l h) (hsrc : srcOf 8 (h ++ [.cells t_api_Event []]) a = some (l.length, l.flatMap Ev.row)) (hn : l.length ≤ 2000000) {K : AVal → AHeap A → Prop}
    (hk : if l = [] then K (.sl h.length 0 0 0 true) (h ++ [.cells t_api_Event []]) else K (.sl (h.length + 1) 0 l.length l.length false) (h ++ [.cells t_api_Event [], .cells t_api_Event (l.flatMap Ev.row)])) : Tri Pr R n_law0_CopyEvents [a] h K := by
  apply c_law0_CopyEvents
  unfold p_law0_CopyEvents
  simp -implicitDefEqProofs
  refine app_new (t := t_api_Event) (by simp) hsrc hn ?_
  by_cases h0 : l = []
  · rw [if_pos h0] at hk ⊢; exact hk
  · rw [if_neg h0] at hk ⊢; simpa using hk
section
variable {dk rdk : List Bs → Ws → Bool → A}
theorem pair11_ok (hR : R.Ok) (hD : HasDisk R dk) (hD' : HasRDisk R rdk) {n : Int} {k : List Bs} (hn : 1 ≤ n ∧ n ≤ 256) (he : List.replicate n.toNat zSec = k) {h : AHeap A} {K : AVal → AHeap A → Prop}
    (hk : K (.tup [.ptr h.length 0, .ptr (h.length + 1) 0]) (h ++ [.adt (dk k [] false), .adt (rdk k [] false)])) : Tri Pr R n_law11_pair [.int .i64 n] h K := by
  apply c_law11_pair
  unfold p_law11_pair
  refine disk_New_at hR hD hn he ?_
  simp -implicitDefEqProofs
  refine rdisk_New_ok hR hD' n ?_
  rw [if_pos hn, he]
  simp -implicitDefEqProofs
  refine num14_ok ?_
  simp -implicitDefEqProofs
  simpa using hk
end
inductive JD where
  | book (m : Int) (ts : List Bs)
  | rbook (m : Int) (ts : List Bs)
  | disk (k : List Bs) (w : Ws) (d : Bool)
  | rdisk (k : List Bs) (w : Ws) (d : Bool)
  | jrn (b d : Nat) (J : JS)
def JD.lay : JD → Grp JD → Prop
  | .book m ts, g => g = bookG m ts
  | .rbook m ts, g => g = rbookG m ts
  | .disk k w d, g => g = diskG k w d
  | .rdisk k w d, g => g = rdiskG k w d
  | .jrn b d J, g => g = jG b d J
def JD.ren (τ : Nat → Nat) : JD → JD
  | .jrn b d J => .jrn (τ b) (τ d) J
  | a => a
def RJ : Adts JD := ⟨JD.lay, JD.ren⟩
theorem jG_ren {A : Type} (R : Adts A) (τ : Nat → Nat) (b d : Nat) (J : JS) : (jG b d J : Grp A).ren R τ = jG (τ b) (τ d) J := by
  unfold jG Grp.ren
  have h8 : rens τ (J.es.flatMap Ev.row) = J.es.flatMap Ev.row := rens_ix0 τ _ (evs_ix 0 _)
  split <;> simp [GC.ren, AVal.ren, AObj.ren, h8]
end Go.AI

/- Journals: what every program answers that is one. -/
set_option linter.all false
namespace Go.AI
variable {A : Type} {R : Adts A}
theorem jOpen_ok {m : Int} {ts t k k' : List Bs} {w w' : Ws} {dn : Bool} {res : Int ⊕ JS} (h : bOk m ts) (he : jOpen m ts k w dn = (t, k', w', res)) : bOk m t := by
  unfold jOpen at he
  split at he
  · simp only [Prod.mk.injEq] at he; rw [← he.1]; exact h
  · split at he
    · simp only [Prod.mk.injEq] at he; rw [← he.1]; exact h
    · obtain ⟨⟨boot, at_, e0⟩, he1⟩ : ∃ z, sPick ts ((dPut k w).getD 0 []) ((dPut k w).getD 1 []) = z := ⟨_, rfl⟩
      rw [he1] at he
      dsimp only at he
      have h2 := sPut_ok (boot := boot + 1) h
      obtain ⟨⟨t1, s, f⟩, he2⟩ : ∃ z, sPut m ts (boot + 1) = z := ⟨_, rfl⟩
      rw [he2] at he h2
      dsimp only at he h2
      split at he
      · simp only [Prod.mk.injEq] at he; rw [← he.1]; exact h2
      · simp only [Prod.mk.injEq] at he; rw [← he.1]; exact h2
theorem jOpen_dok {m : Int} {ts t k k' : List Bs} {w w' : Ws} {dn : Bool} {res : Int ⊕ JS} (h : dOk k w) (he : jOpen m ts k w dn = (t, k', w', res)) : dOk k' w' ∧ k'.length = k.length ∧ (w' = [] ∨ w' = w) := by
  unfold jOpen at he
  split at he
  · simp only [Prod.mk.injEq] at he; obtain ⟨_, rfl, rfl, _⟩ := he; exact ⟨h, rfl, .inr rfl⟩
  · split at he
    · simp only [Prod.mk.injEq] at he; obtain ⟨_, rfl, rfl, _⟩ := he; exact ⟨h, rfl, .inr rfl⟩
    · rename_i _ hsz
      obtain ⟨⟨boot, at_, e0⟩, he1⟩ : ∃ z, sPick ts ((dPut k w).getD 0 []) ((dPut k w).getD 1 []) = z := ⟨_, rfl⟩
      obtain ⟨p1, p2, p3, p4⟩ := sPick_may ts ((dPut k w).getD 0 []) ((dPut k w).getD 1 [])
      rw [he1] at he p1 p2 p3 p4
      dsimp only at he p1 p2 p3 p4
      obtain ⟨⟨t1, s, f⟩, he2⟩ : ∃ z, sPut m ts (boot + 1) = z := ⟨_, rfl⟩
      rw [he2] at he
      dsimp only at he
      by_cases hf : f = 0
      · rw [if_pos hf] at he
        subst hf
        simp only [Prod.mk.injEq] at he
        obtain ⟨_, rfl, rfl, _⟩ := he
        have := dOk_put (dOk_write h (x := at_) (s := s) ⟨by omega, by omega, sPut_sec he2⟩)
        rw [dPut_snoc] at this
        exact ⟨this, by rw [List.length_set, dPut_len], .inl rfl⟩
      · rw [if_neg hf] at he
        simp only [Prod.mk.injEq] at he; obtain ⟨_, rfl, rfl, _⟩ := he; exact ⟨h, rfl, .inr rfl⟩
theorem jPut_bok {m : Int} {ts t : List Bs} {J : JS} {n : Nat} {dn : Bool} {l : List Ev} {ss : List Bs} {p e : Int} (h : bOk m ts) (he : jPut m ts J n dn l = (t, ss, p, e)) : bOk m t := by
  have := jPut_ok (J := J) (size := n) (down := dn) (es := l) h
  rwa [he] at this
def evOne : Ev := ⟨0, 0, 0, 0, 0, 0, 0, 5⟩
def evTwo : Ev := ⟨8, 0, 0, 0, 0, 0, 0, 0⟩
def ev99 : Ev := ⟨99, 0, 0, 0, 0, 0, 0, 0⟩
def aw0 := jOpen 99 [] (List.replicate 5 zSec) [] false
def aw1 := jPut 99 aw0.1 ⟨1, 0, [], false⟩ 5 false [evOne]
def aw2 := jPut 99 aw1.1 ⟨1, 1, [evOne], false⟩ 5 false [evTwo, evTwo]
def awP := dPut aw0.2.1 ([] ++ jWs (2 + ((0 : Nat) : Int)) aw1.2.1)
def awW : Ws := [] ++ jWs (2 + ((1 : Nat) : Int)) aw2.2.1
def awK := dLost 1 5 awP awW
def aw4 := jOpen 99 aw2.1 awK [] false
section
variable {bk rbk : Int → List Bs → A} {dk rdk : List Bs → Ws → Bool → A} {jm : Nat → Nat → JS → A}
theorem Open_nil (hR : R.Ok) {x : AVal} {h : AHeap A} {K : AVal → AHeap A → Prop} (hk : K (.tup [.nilp, .int .i64 1]) h) : Tri Pr R n_journal_Open [.nilp, x] h K := by
  apply c_journal_Open
  unfold p_journal_Open
  simp -implicitDefEqProofs
  exact hk
theorem Append_at (hR : R.Ok) (hB : HasBook R bk) (hD : HasDisk R dk) (hJ : HasJrn R jm) {m : Int} {ts t : List Bs} {k k2 : List Bs} {w : Ws} {dn : Bool} {J : JS} {a : AVal} {l : List Ev} {ss : List Bs} {p : Int} (hok : bOk m ts) (hdk : dOk k w) (hw : w.length ≤ 600) (hn : J.es.length ≤ 300) (hl : l.length < 1000000000)
    (he : jPut m ts J k.length dn l = (t, ss, p, 0)) (h2 : dPut k (w ++ jWs (2 + J.es.length) ss) = k2) {h : AHeap A} {b d j : Nat} (hb : h[b]? = some (.adt (bk m ts))) (hd : h[d]? = some (.adt (dk k w dn))) (hj : h[j]? = some (.adt (jm b d J))) (hne : b ≠ d ∧ b ≠ j ∧ d ≠ j) (ha : EvsAt a l h fun q => b ≠ q ∧ d ≠ q ∧ j ≠ q) {K : AVal → AHeap A → Prop}
    (hk : K (.int .i64 0) (((h.set b (.adt (bk m t))).set d (.adt (dk k2 [] dn))).set j (.adt (jm b d ⟨J.boot, p, J.es ++ l, J.over⟩)))) : Tri Pr R n_journal_Journal_Append [.ptr j 0, a] h K := by
  refine Append_ok hR hB hD hJ hok hdk hw hn hl he hb hd hj hne ha ?_
  rw [if_pos rfl, h2]; exact hk
theorem Append_bad (hR : R.Ok) (hB : HasBook R bk) (hD : HasDisk R dk) (hJ : HasJrn R jm) {m : Int} {ts t : List Bs} {k : List Bs} {w : Ws} {dn : Bool} {J : JS} {a : AVal} {l : List Ev} {ss : List Bs} {p e : Int} (hok : bOk m ts) (hdk : dOk k w) (hw : w.length ≤ 600) (hn : J.es.length ≤ 300) (hl : l.length < 1000000000)
    (he : jPut m ts J k.length dn l = (t, ss, p, e)) (h2 : e ≠ 0) {h : AHeap A} {b d j : Nat} (hb : h[b]? = some (.adt (bk m ts))) (hd : h[d]? = some (.adt (dk k w dn))) (hj : h[j]? = some (.adt (jm b d J))) (hne : b ≠ d ∧ b ≠ j ∧ d ≠ j) (ha : EvsAt a l h fun q => b ≠ q ∧ d ≠ q ∧ j ≠ q) {K : AVal → AHeap A → Prop}
    (hk : K (.int .i64 e) (h.set b (.adt (bk m t)))) : Tri Pr R n_journal_Journal_Append [.ptr j 0, a] h K := by
  refine Append_ok hR hB hD hJ hok hdk hw hn hl he hb hd hj hne ha ?_
  rw [if_neg h2]; exact hk
theorem Write_at (hR : R.Ok) (hB : HasBook R bk) (hD : HasDisk R dk) (hJ : HasJrn R jm) {m : Int} {ts t : List Bs} {k : List Bs} {w w2 : Ws} {dn : Bool} {J : JS} {a : AVal} {l : List Ev} {ss : List Bs} {p : Int} (hok : bOk m ts) (hdk : dOk k w) (hw : w.length ≤ 600) (hn : J.es.length ≤ 300) (hl : l.length < 1000000000)
    (he : jPut m ts J k.length dn l = (t, ss, p, 0)) (h2 : w ++ jWs (2 + J.es.length) ss = w2) {h : AHeap A} {b d j : Nat} (hb : h[b]? = some (.adt (bk m ts))) (hd : h[d]? = some (.adt (dk k w dn))) (hj : h[j]? = some (.adt (jm b d J))) (hne : b ≠ d ∧ b ≠ j ∧ d ≠ j) (ha : EvsAt a l h fun q => b ≠ q ∧ d ≠ q ∧ j ≠ q) {K : AVal → AHeap A → Prop}
    (hk : K (.int .i64 0) (((h.set b (.adt (bk m t))).set d (.adt (dk k w2 dn))).set j (.adt (jm b d ⟨J.boot, J.prev, J.es, true⟩)))) : Tri Pr R n_journal_Journal_Write [.ptr j 0, a] h K := by
  refine Write_ok hR hB hD hJ hok hdk hw hn hl he hb hd hj hne ha ?_
  rw [if_pos rfl, h2]; exact hk
theorem Events_at (hR : R.Ok) (hB : HasBook R bk) (hD : HasDisk R dk) (hJ : HasJrn R jm) {m : Int} {ts k : List Bs} {w : Ws} {dn : Bool} {J : JS} (hn : J.es.length ≤ 300) (h0 : J.es ≠ []) {h : AHeap A} {b d j : Nat} (hb : h[b]? = some (.adt (bk m ts))) (hd : h[d]? = some (.adt (dk k w dn))) (hj : h[j]? = some (.adt (jm b d J))) (hne : b ≠ d ∧ b ≠ j ∧ d ≠ j) {K : AVal → AHeap A → Prop}
    (hk : K (.sl h.length 0 J.es.length J.es.length false) (h ++ [.cells t_api_Event (J.es.flatMap Ev.row)])) : Tri Pr R n_journal_Journal_Events [.ptr j 0] h K := by
  refine Events_ok hR hB hD hJ hn hb hd hj hne ?_
  rw [if_neg h0]; exact hk
theorem EvsAt.at {l : List Ev} {n q cap : Nat} {ex : Bool} {h : AHeap A} {x : Nat → Prop} (hq : h[q]? = some (.cells t_api_Event (l.flatMap Ev.row))) (hn : n = l.length) (hx : x q) : EvsAt (.sl q 0 n cap ex) l h x := by
  subst hn; exact .inr (.inr ⟨q, cap, ex, rfl, hq, hx⟩)
theorem awake11_ok (hR : R.Ok) (hB : HasBook R bk) (hB' : HasRBook R rbk) (hD : HasDisk R dk) (hD' : HasRDisk R rdk) (hJ : HasJrn R jm) {h : AHeap A} {K : AVal → AHeap A → Prop} (hk : K (.bool true) h) : Tri Pr R n_law11_awake [] h K := by
  refine Tri.fn1 hR _ rfl rfl ?_ hk
  apply c_law11_awake
  unfold p_law11_awake
  have b0 : bOk 99 [] := bOk_nil (by omega)
  have d0 : dOk (List.replicate 5 zSec) [] := dOk_new (n := 5) (by omega)
  have q0 : jOpen 99 [] (List.replicate 5 zSec) [] false = (aw0.1, aw0.2.1, [], .inr ⟨1, 0, [], false⟩) := by decide +kernel
  have q1 : jPut 99 aw0.1 ⟨1, 0, [], false⟩ aw0.2.1.length false [evOne] = (aw1.1, aw1.2.1, 1, 0) := by decide +kernel
  have q2 : jPut 99 aw1.1 ⟨1, 1, [evOne], false⟩ awP.length false [evTwo, evTwo] = (aw2.1, aw2.2.1, 3, 0) := by decide +kernel
  have q3 : jPut 99 aw2.1 ⟨1, 1, [evOne], true⟩ awP.length false [evOne] = (aw2.1, [], 0, 1102) := by decide +kernel
  have q4 : jOpen 99 aw2.1 awK [] false = (aw4.1, aw4.2.1, [], .inr ⟨2, 2, [evOne, evTwo], false⟩) := by decide +kernel
  have q5 : jPut 99 aw4.1 ⟨2, 2, [evOne, evTwo], false⟩ aw4.2.1.length false [evTwo, evTwo] = (aw4.1, [], 0, 1101) := by decide +kernel
  have q6 : jPut 99 aw4.1 ⟨2, 2, [evOne, evTwo], false⟩ aw4.2.1.length false [ev99] = (aw4.1, [], 0, 1100) := by decide +kernel
  have n4 : aw4.2.1.length = 5 := by decide +kernel
  have b1 := jOpen_ok b0 q0
  have d1 := (jOpen_dok d0 q0).1
  have b2 := jPut_bok b1 q1
  have d2 : dOk awP [] := dOk_put ((jPut_facts q1 d1).2 rfl).2.2.2.2.2
  have b3 := jPut_bok b2 q2
  have d3 : dOk awP awW := ((jPut_facts q2 d2).2 rfl).2.2.2.2.2
  have l3 : awW.length = 2 := by decide +kernel
  have d4 : dOk awK [] := dOk_lost d3 (by omega)
  have b5 := jOpen_ok b3 q4
  have d5 := (jOpen_dok d4 q4).1
  have eP : dPut aw0.2.1 ([] ++ jWs (2 + ((0 : Nat) : Int)) aw1.2.1) = awP := rfl
  have eW : ([] ++ jWs (2 + ((1 : Nat) : Int)) aw2.2.1 : Ws) = awW := rfl
  have eK : dLost 1 5 awP awW = awK := rfl
  generalize aw0.1 = t0 at *
  generalize aw0.2.1 = k0 at *
  generalize aw1.1 = t1 at *
  generalize aw1.2.1 = s1 at *
  generalize aw2.1 = t2 at *
  generalize aw2.2.1 = s2 at *
  generalize aw4.1 = t4 at *
  generalize aw4.2.1 = k4 at *
  generalize awP = kP at *
  generalize awW = wW at *
  generalize awK = kK at *
  refine law11_twin_ok hR hB hB' 99 ?_
  rw [if_pos (by omega)]
  simp -implicitDefEqProofs
  refine pair11_ok hR hD hD' (n := 5) (by omega) rfl ?_
  have e5 : (5 : Int).toNat = 5 := rfl
  rw [e5]
  generalize List.replicate 5 zSec = z5 at *
  simp -implicitDefEqProofs
  refine Open_ok hR hB hD hJ b0 d0 (by simp) q0 rfl rfl (by decide) ?_
  simp -implicitDefEqProofs
  refine Open_nil hR ?_
  simp -implicitDefEqProofs
  refine num14_ok ?_
  simp -implicitDefEqProofs
  refine Append_at (l := [evOne]) hR hB hD hJ b1 d1 (by simp) (by simp) (by simp) q1 eP rfl rfl rfl (by decide) (EvsAt.at rfl rfl (by decide)) ?_
  simp -implicitDefEqProofs
  refine Write_at (l := [evTwo, evTwo]) hR hB hD hJ b2 d2 (by simp) (by simp) (by simp) q2 eW rfl rfl rfl (by decide) (EvsAt.at rfl rfl (by decide)) ?_
  simp -implicitDefEqProofs
  refine Append_bad (l := [evOne]) hR hB hD hJ b3 d3 (by omega) (by simp) (by simp) q3 (by decide) rfl rfl rfl (by decide) (EvsAt.at rfl rfl (by decide)) ?_
  simp -implicitDefEqProofs
  refine disk_Crash_at hR hD d3 (by omega) (by omega) eK rfl ?_
  simp -implicitDefEqProofs
  refine disk_Restart_at hR hD rfl ?_
  simp -implicitDefEqProofs
  refine Open_ok hR hB hD hJ b3 d4 (by simp) q4 rfl rfl (by decide) ?_
  simp -implicitDefEqProofs
  refine num14_ok ?_
  simp -implicitDefEqProofs
  refine Append_bad (l := [evTwo, evTwo]) hR hB hD hJ b5 d5 (by simp) (by simp) (by simp) q5 (by decide) rfl rfl rfl (by decide) (EvsAt.at rfl rfl (by decide)) ?_
  simp -implicitDefEqProofs
  refine Append_bad (l := [ev99]) hR hB hD hJ b5 d5 (by simp) (by simp) (by simp) q6 (by decide) rfl rfl rfl (by decide) (EvsAt.at rfl rfl (by decide)) ?_
  simp -implicitDefEqProofs
  refine joinP_go ?_
  refine num14_ok ?_
  simp -implicitDefEqProofs
  refine Boot_ok hR hB hD hJ (b := 0) (d := 2) (j := 4) rfl rfl rfl (by decide) ?_
  simp -implicitDefEqProofs
  refine num14_ok ?_
  simp -implicitDefEqProofs
  refine num14_ok ?_
  simp -implicitDefEqProofs
  refine num14_ok ?_
  simp -implicitDefEqProofs
  refine Boot_ok hR hB hD hJ (b := 0) (d := 2) rfl rfl rfl (by decide) ?_
  simp -implicitDefEqProofs
  constructor
  · refine Events_at hR hB hD hJ (J := ⟨2, 2, [evOne, evTwo], false⟩) (b := 0) (d := 2) (j := 10) (by simp) (by simp) rfl rfl rfl (by decide) ?_
    simp -implicitDefEqProofs
    refine SameEvents_ok hR (l := [evOne, evTwo]) (r := [evOne, evTwo]) (Rd.sl [evOne, evTwo] 13 _ _ rfl) (Rd.sl [evOne, evTwo] 14 _ _ rfl) (by simp) ?_
    simp -implicitDefEqProofs
    refine Room_ok hR hB hD hJ (J := ⟨2, 2, [evOne, evTwo], false⟩) (b := 0) (d := 2) (j := 10) (k := k4) (by omega) (by simp) rfl rfl rfl (by decide) ?_
    rw [n4]
    simp -implicitDefEqProofs
    refine num14_ok ?_
    simp -implicitDefEqProofs
    refine num14_ok ?_
    simp -implicitDefEqProofs
    exact Ans.rfl' _
  · refine Events_at hR hB hD hJ (J := ⟨2, 2, [evOne, evTwo], false⟩) (b := 0) (d := 2) (j := 10) (by simp) (by simp) rfl rfl rfl (by decide) ?_
    simp -implicitDefEqProofs
    refine SameEvents_ok hR (l := [evOne, evTwo]) (r := [evOne, evTwo]) (Rd.sl [evOne, evTwo] 14 _ _ rfl) (Rd.sl [evOne, evTwo] 13 _ _ rfl) (by simp) ?_
    simp -implicitDefEqProofs
    refine Room_ok hR hB hD hJ (J := ⟨2, 2, [evOne, evTwo], false⟩) (b := 0) (d := 2) (j := 10) (k := k4) (by omega) (by simp) rfl rfl rfl (by decide) ?_
    rw [n4]
    simp -implicitDefEqProofs
    refine num14_ok ?_
    simp -implicitDefEqProofs
    refine num14_ok ?_
    simp -implicitDefEqProofs
    exact Ans.rfl' _
end
end Go.AI

/- The document's journal as a data type (printed by gen/rjrn.py). -/
set_option linter.all false
namespace Go.AI
variable {A : Type} {R : Adts A}
def rjG (b d : Nat) (J : JS) : Grp A :=
  if J.es = [] then { e := t_bastionref1_Journal, cs := [.g (.ptr b 0), .g (.ptr d 0), .g (.bool J.over), .g (.int .i64 J.prev), .g (.int .i64 J.boot), .g .nils], subs := [] }
  else { e := t_bastionref1_Journal, cs := [.g (.ptr b 0), .g (.ptr d 0), .g (.bool J.over), .g (.int .i64 J.prev), .g (.int .i64 J.boot), .sl 0 0 J.es.length J.es.length false], subs := [.cells t_api_Event (J.es.flatMap Ev.row)] }
structure HasRJrn (R : Adts A) (jm : Nat → Nat → JS → A) : Prop where
  lay : ∀ b d J g, R.lay (jm b d J) g ↔ g = rjG b d J
  ren : ∀ τ b d J, R.ren τ (jm b d J) = jm (τ b) (τ d) J
theorem rjrn_ix {jm : Nat → Nat → JS → A} (hJ : HasRJrn R jm) {b d n : Nat} (J : JS) (hb : b < n) (hd : d < n) : (AObj.adt (jm b d J)).ix R n := by
  intro g hg
  obtain rfl := (hJ.lay _ _ _ _).1 hg
  unfold rjG
  split <;> simp [AVal.ix, evs_ix, hb, hd]
theorem rjrn_ren {jm : Nat → Nat → JS → A} (hJ : HasRJrn R jm) (b d : Nat) (J : JS) (τ : Nat → Nat) : (AObj.adt (jm b d J)).ren R τ = .adt (jm (τ b) (τ d) J) := by simp [AObj.ren, hJ.ren]
/-- The journal's own cells. -/
def rjCells (b d : Nat) (boot prev : Int) (ev : AVal) (over : Bool) : AObj A := .cells t_bastionref1_Journal [.ptr b 0, .ptr d 0, .bool over, .int .i64 prev, .int .i64 boot, ev]
/-- The journal's parts, told anew. -/
theorem rjrn_canon (hR : R.Ok) {a b : AObj A} {boot prev : Int} {x : AVal} {over : Bool} {es : List Ev} {e n : Nat} {u : AHeap A} {vs : List AVal} {K : List AVal → AHeap A → Prop} (he : EvAt x es e (a :: b :: rjCells 0 1 boot prev x over :: u)) (he3 : es ≠ [] → 3 ≤ e) (ha : a.closed R) (hb : b.closed R) (hn : n ≤ 3)
    (hv : ixs 0 vs = true) (hk : K vs (a :: b :: rjCells 0 1 boot prev (jEv es) over :: jEvs es)) : Gives Pr R n (a :: b :: rjCells 0 1 boot prev x over :: u) vs K := by
  have hv3 : ∀ τ, rens τ vs = vs := fun τ => rens_ix0 τ vs hv
  rcases he with ⟨rfl, rfl⟩ | ⟨h0, rfl, h1⟩
  · simp only [jEv, jEvs, if_true] at hk
    refine Gives.cut hR (m := 3) hn (by simp) (ixs_mono (Nat.zero_le 3) vs hv) ?_ hk
    simp only [List.take, List.mem_cons, List.not_mem_nil, or_false]
    rintro o (rfl | rfl | rfl)
    · exact ⟨ha.1 _, fun τ _ => ha.2 τ⟩
    · exact ⟨hb.1 _, fun τ _ => hb.2 τ⟩
    · exact low_cells (by simp [ixs, AVal.ix])
  · have he3 := he3 h0
    simp only [jEv, jEvs, if_neg h0] at hk
    refine Gives.keep hR [0, 1, 2, e] (h2 := a :: b :: rjCells 0 1 boot prev (.sl 3 0 es.length es.length false) over :: [.cells t_api_Event (es.flatMap Ev.row)]) (vs2 := vs) ⟨rfl, by simp; omega, fun k o hk => ?_, fun o ho => ?_⟩ (hv3 _).symm (ixs_mono (Nat.zero_le _) vs hv) (fun k hk => ?_) (Gives.done (by simp; omega) hk)
    · match k, hk with
      | 0, hk => simp at hk; subst hk; exact ⟨0, rfl, by rw [ha.2]; rfl⟩
      | 1, hk => simp at hk; subst hk; exact ⟨1, rfl, by rw [hb.2]; rfl⟩
      | 2, hk => simp at hk; subst hk; exact ⟨2, rfl, by simp [rjCells, AObj.ren, rens, AVal.ren, at_]⟩
      | 3, hk => simp at hk; subst hk; exact ⟨e, rfl, by rw [h1]; simp only [AObj.ren]; rw [rens_ix0 _ _ (evs_ix 0 es)]⟩
      | k + 4, hk => simp at hk
    · simp only [List.mem_cons, List.not_mem_nil, or_false] at ho
      rcases ho with rfl | rfl | rfl | rfl
      · exact ha.1 _
      · exact hb.1 _
      · show ixs _ _ = true; simp [ixs, AVal.ix]
      · show ixs _ _ = true; exact evs_ix _ _
    · match k, hk with
      | 0, _ => rfl
      | 1, _ => rfl
      | 2, _ => rfl
      | k + 3, hk => omega
/-- The journal's parts, told as one. -/
theorem rjrn_shut (hR : R.Ok) {jm : Nat → Nat → JS → A} (hJ : HasRJrn R jm) {a b : AObj A} {J : JS} {x : AVal} {e n : Nat} {t r : AHeap A} {vs : List AVal} {K : List AVal → AHeap A → Prop} (he : EvAt x J.es e (a :: b :: rjCells 0 1 J.boot J.prev x J.over :: (t ++ r))) (he3 : J.es ≠ [] → 3 + t.length ≤ e) (ha : a.closed R) (hb : b.closed R) (ht : ∀ o ∈ t, o.closed R)
    (hn : n ≤ 3 + t.length) (hv : ixs (3 + t.length) vs = true) (hk : K vs (a :: b :: .adt (jm 0 1 J) :: t)) : Gives Pr R n (a :: b :: rjCells 0 1 J.boot J.prev x J.over :: (t ++ r)) vs K := by
  have key : ∀ js : List Nat, (∀ j ∈ js, 3 + t.length ≤ j) → Gives Pr R n ((kills (a :: b :: rjCells 0 1 J.boot J.prev x J.over :: (t ++ r)) js).set 2 (.adt (jm 0 1 J))) vs K := by
    intro js hjs
    have e1 : ((kills (a :: b :: rjCells 0 1 J.boot J.prev x J.over :: (t ++ r)) js).set 2 (.adt (jm 0 1 J))).take (3 + t.length) = a :: b :: .adt (jm 0 1 J) :: t := by
      have : (a :: b :: .adt (jm 0 1 J) :: t : AHeap A).length = 3 + t.length := by simp; omega
      rw [← this]
      refine take_eq fun k hk => ?_
      have hk2 : k < 3 + t.length := by rw [← this]; exact hk
      have hnj : k ∉ js := fun h => by have := hjs k h; omega
      by_cases h2 : k = 2
      · subst h2
        rw [List.getElem?_set_self (by rw [kills_length]; simp)]
        rfl
      · rw [List.getElem?_set_ne (Ne.symm h2), kills_get _ _ _ (by simp; omega), if_neg hnj]
        match k, h2, hk2 with
        | 0, _, _ => rfl
        | 1, _, _ => rfl
        | k + 3, _, hk2 =>
          simp only [List.getElem?_cons_succ]
          rw [List.getElem?_append_left (by omega)]
    refine Gives.cut hR (m := 3 + t.length) hn (by simp [kills_length]; omega) hv ?_ (by rw [e1]; exact hk)
    rw [e1]
    simp only [List.mem_cons]
    rintro o (rfl | rfl | rfl | ho)
    · exact ⟨ha.1 _, fun τ _ => ha.2 τ⟩
    · exact ⟨hb.1 _, fun τ _ => hb.2 τ⟩
    · exact ⟨rjrn_ix hJ _ (by omega) (by omega), fun τ hτ => by rw [rjrn_ren hJ, hτ 0 (by omega), hτ 1 (by omega)]⟩
    · exact ⟨(ht o ho).1 _, fun τ _ => (ht o ho).2 τ⟩
  rcases he with ⟨h0, rfl⟩ | ⟨h0, rfl, h1⟩
  · refine Gives.shut 2 [] (jm 0 1 J) (rjG 0 1 J) ((hJ.lay _ _ _ _).2 rfl) ?_ ?_ ?_ (by simp) ?_ ?_ (key [] (by simp))
    · simp [rjG, h0, rjCells, GC.on]
    · simp [rjG, h0]
    · intro i s hs; simp [rjG, h0] at hs
    · simp [rjG, h0]
    · simp [rjG, h0]
  · have he3 := he3 h0
    refine Gives.shut 2 [e] (jm 0 1 J) (rjG 0 1 J) ((hJ.lay _ _ _ _).2 rfl) ?_ ?_ ?_ (by simp; omega) ?_ ?_ (key [e] (by simpa using he3))
    · simp [rjG, h0, rjCells, GC.on]
    · simp [rjG, h0]
    · intro i s hs
      match i, hs with
      | 0, hs => simp [rjG, h0] at hs; subst hs; exact ⟨by simpa using h1, rfl⟩
      | i + 1, hs => simp [rjG, h0] at hs
    · intro i o len cap ex hm
      simp [rjG, h0] at hm ⊢
      omega
    · simp [rjG, h0]
section
variable {bk : Int → List Bs → A} {dk : List Bs → Ws → Bool → A} {jm : Nat → Nat → JS → A}
theorem rbook_cl (hB : HasRBook R bk) (m : Int) (ts : List Bs) : AObj.closed R (.adt (bk m ts) : AObj A) := ⟨fun n => rbook_ix hB m ts n, fun τ => rbook_ren hB m ts τ⟩
theorem rdisk_cl (hD : HasRDisk R dk) (k : List Bs) (w : Ws) (d : Bool) : AObj.closed R (.adt (dk k w d) : AObj A) := ⟨fun n => rdisk_ix hD k w d n, fun τ => rdisk_ren hD k w d τ⟩
theorem rjrn_open {P : Program} (hJ : HasRJrn R jm) {a b : AObj A} {J : JS} {t : AHeap A} {n : Nat} (hn : n ≤ 3 + t.length) {vs : List AVal} {K : List AVal → AHeap A → Prop}
    (hk : ∀ x, EvAt x J.es (3 + t.length) (a :: b :: rjCells 0 1 J.boot J.prev x J.over :: (t ++ jEvs J.es)) → Gives P R n (a :: b :: rjCells 0 1 J.boot J.prev x J.over :: (t ++ jEvs J.es)) vs K) : Gives P R n (a :: b :: .adt (jm 0 1 J) :: t) vs K := by
  refine Gives.opened 2 rfl (by simp; omega) fun g hg => ?_
  obtain rfl := (hJ.lay _ _ _ _).1 hg
  by_cases h0 : J.es = []
  · have := hk .nils (.inl ⟨h0, rfl⟩)
    simpa [rjG, h0, rjCells, GC.at, jEvs] using this
  · have := hk (.sl (3 + t.length) 0 J.es.length J.es.length false) (.inr ⟨h0, rfl, by
      rw [Nat.add_comm]; simp [jEvs, h0]⟩)
    have e1 : t.length + 1 + 1 + 1 = 3 + t.length := by omega
    simpa [rjG, h0, rjCells, GC.at, jEvs, e1] using this
theorem rjrn_frame0 (hR : R.Ok) (hB : HasRBook R bk) (hD : HasRDisk R dk) (hJ : HasRJrn R jm) {m : Int} {ts ts' k k' : List Bs} {w w' : Ws} {dn dn' : Bool} {J J' : JS} {f : FuncId} {us : List AVal} (hus : ixs 0 us = true) {v : AVal} (hv : v.ix 0 = true)
    (t : Tri Pr R f (.ptr 2 0 :: us) [.adt (bk m ts), .adt (dk k w dn), .adt (jm 0 1 J)] fun u g => u = v ∧ g = [.adt (bk m ts'), .adt (dk k' w' dn'), .adt (jm 0 1 J')])
    {h : AHeap A} {b d j : Nat} (hb : h[b]? = some (.adt (bk m ts))) (hd : h[d]? = some (.adt (dk k w dn))) (hj : h[j]? = some (.adt (jm b d J))) (hne : b ≠ d ∧ b ≠ j ∧ d ≠ j) {K : AVal → AHeap A → Prop}
    (hk : K v (((h.set b (.adt (bk m ts'))).set d (.adt (dk k' w' dn'))).set j (.adt (jm b d J')))) : Tri Pr R f (.ptr j 0 :: us) h K := by
  have s : Sel R [b, d, j] h [.adt (bk m ts), .adt (dk k w dn), .adt (jm 0 1 J)] := by
    refine ⟨rfl, by simp [hne], fun k o hk => ?_, fun o ho => ?_⟩
    · match k, hk with
      | 0, hk => simp at hk; subst hk; exact ⟨b, rfl, by rw [rbook_ren hB]; exact hb⟩
      | 1, hk => simp at hk; subst hk; exact ⟨d, rfl, by rw [rdisk_ren hD]; exact hd⟩
      | 2, hk => simp at hk; subst hk; exact ⟨j, rfl, by rw [rjrn_ren hJ]; simpa [at_] using hj⟩
      | k + 3, hk => simp at hk
    · simp only [List.mem_cons, List.not_mem_nil, or_false] at ho
      rcases ho with rfl | rfl | rfl
      · exact rbook_ix hB _ _ _
      · exact rdisk_ix hD _ _ _ _
      · exact rjrn_ix hJ _ (by simp) (by simp)
  have := (Tri.frame hR s (as2 := .ptr 2 0 :: us) (by simp [ixs, AVal.ix, ixs_mono (Nat.zero_le 3) us hus]) t)
  have e1 : rens (at_ [b, d, j] h.length) (.ptr 2 0 :: us) = .ptr j 0 :: us := by
    simp only [rens, rens_ix0 _ _ hus]
    simp [AVal.ren, at_]
  rw [e1] at this
  refine this.mono ?_
  rintro v0 H ⟨_, h0, ⟨rfl, rfl⟩, _, rfl, rfl⟩
  have hvr : ∀ (u : AVal) τ, u.ix 0 = true → u.ren τ = u := fun u τ hu => by
    have := rens_ix0 τ [u] (by simpa [ixs] using hu)
    simpa [rens] using this
  rw [hvr _ _ hv]
  simpa [splice, setAll, rbook_ren hB, rdisk_ren hD, rjrn_ren hJ, at_] using hk
end
end Go.AI

/- The document's journal: Open. -/
set_option linter.all false
namespace Go.AI
variable {A : Type} {R : Adts A}
theorem st_rev {x : AVal} {es : List Ev} {e : Nat} {g : AHeap A} (he : EvAt x es e g) {a b : AObj A} {t : TypeId} {v0 v1 v2 v3 v4 v5 : AVal} {r : AHeap A} (K : AHeap A → Prop) :
    stP 1 (.ptr 2 5) x (a :: b :: .cells t [v0, v1, v2, v3, v4, v5] :: r) K = K (a :: b :: .cells t [v0, v1, v2, v3, v4, x] :: r) := by
  rcases he with ⟨_, rfl⟩ | ⟨_, rfl, _⟩ <;> rfl
section
variable {bk : Int → List Bs → A} {dk : List Bs → Ws → Bool → A} {jm : Nat → Nat → JS → A}
theorem rdisk_Read_at (hR : R.Ok) (hB : HasRDisk R dk) {k : List Bs} {w : Ws} {d : Bool} {x e : Int} {s : Bs} (hok : dOk k w) (hw : w.length ≤ 1000) (he : dRead k w d x = (s, e)) {h : AHeap A} {b : Nat} (hb : h[b]? = some (.adt (dk k w d))) {K : AVal → AHeap A → Prop}
    (hk : K (.tup [.str s, .int .i64 e]) h) : Tri Pr R n_ref1_Disk_Read [.ptr b 0, .int .i64 x] h K := by
  refine rdisk_Read_ok hR hB hok hw x hb ?_
  rw [he]; exact hk
theorem rdisk_Write_at (hR : R.Ok) (hB : HasRDisk R dk) {k : List Bs} {w w' : Ws} {d : Bool} {x e : Int} {s : Bs} (hok : dOk k w) (hw : w.length ≤ 1000) (he : dWrite k w d x s = (w', e)) {h : AHeap A} {b : Nat} (hb : h[b]? = some (.adt (dk k w d))) {K : AVal → AHeap A → Prop}
    (hk : K (.int .i64 e) (h.set b (.adt (dk k w' d)))) : Tri Pr R n_ref1_Disk_Write [.ptr b 0, .int .i64 x, .str s] h K := by
  refine rdisk_Write_ok hR hB hok hw x s hb ?_
  rw [he]; exact hk
theorem rdisk_Flush_at (hR : R.Ok) (hB : HasRDisk R dk) {k k' : List Bs} {w : Ws} (hok : dOk k w) (hw : w.length ≤ 1000) (he : dPut k w = k') {h : AHeap A} {b : Nat} (hb : h[b]? = some (.adt (dk k w false))) {K : AVal → AHeap A → Prop}
    (hk : K (.int .i64 0) (h.set b (.adt (dk k' [] false)))) : Tri Pr R n_ref1_Disk_Flush [.ptr b 0] h K := by
  refine rdisk_Flush_ok hR hB hok hw hb ?_
  rw [if_neg (by simp), he]; exact hk
theorem RRPut_at (hR : R.Ok) (hB : HasRBook R bk) {m : Int} {ts q : List Bs} {r : Rec} {s : Bs} {n e : Int} (hok : bOk m ts) (he : recPut m ts r = (q, s, n, e)) {h : AHeap A} {b : Nat} (hb : h[b]? = some (.adt (bk m ts))) {K : AVal → AHeap A → Prop}
    (hk : K (.tup [.str s, .int .i64 n, .int .i64 e]) (h.set b (.adt (bk m q)))) : Tri Pr R n_ref1_PutRecord [.ptr b 0, .agg r.row] h K := by
  refine ref1_PutRecord_ok hR hB hok r hb ?_
  rw [he]; exact hk
theorem RRGet_at (hR : R.Ok) (hB : HasRBook R bk) {m : Int} {ts : List Bs} (hok : bOk m ts) {s : Bs} {seq prev n e : Int} {r : Rec} (hs : s.length < 1000) (he : recGet ts s seq prev = (r, n, e)) {h : AHeap A} {b : Nat} (hb : h[b]? = some (.adt (bk m ts))) {K : AVal → AHeap A → Prop}
    (hk : K (.tup [.agg r.row, .int .i64 n, .int .i64 e]) h) : Tri Pr R n_ref1_GetRecord [.ptr b 0, .str s, .int .i64 seq, .int .i64 prev] h K := by
  refine ref1_GetRecord_ok hR hB hok s (by omega) seq prev hb ?_
  rw [he]; exact hk
def ROpI (bk : Int → List Bs → A) (dk : List Bs → Ws → Bool → A) (m : Int) (t : List Bs) (k : List Bs) (boot : Int) (fin : Int × List Ev) (n : Nat) (y : List AVal) (g : AHeap A) : Prop :=
  ∃ (p : Int) (es : List Ev), y = [] ∧ g = .adt (bk m t) :: .adt (dk k [] false) :: rjCells 0 1 boot p (jEv es) false :: jEvs es ∧ jLoad t k n p es = fin ∧ es.length + n = k.length
def ROpJ (bk : Int → List Bs → A) (dk : List Bs → Ws → Bool → A) (m : Int) (t : List Bs) (k : List Bs) (boot : Int) (fin : Int × List Ev) (y : List AVal) (g : AHeap A) : Prop :=
  ∃ r : AHeap A, y = [] ∧ g = .adt (bk m t) :: .adt (dk k [] false) :: rjCells 0 1 boot fin.1 (jEv fin.2) false :: (jEvs fin.2 ++ r)
def ROpG (bk : Int → List Bs → A) (dk : List Bs → Ws → Bool → A) (m : Int) (t : List Bs) (k : List Bs) (boot q f name : Int) (fs : List Ev) (U : AHeap A) (r : Rec) (vs : List AVal) (g : AHeap A) : Prop :=
  vs = [.ptr (U.length + 1 + 1 + 1) 0, .int .i64 name, .int .i64 f] ∧ g = .adt (bk m t) :: .adt (dk k [] false) :: .cells t_bastionref1_Journal [.ptr 0 0, .ptr 1 0, .bool false, .int .i64 q, .int .i64 boot, jEv fs] :: (U ++ [.cells t_api_Record r.row])
theorem ROpen_can (hR : R.Ok) (hB : HasRBook R bk) (hD : HasRDisk R dk) (hJ : HasRJrn R jm) {m : Int} {ts t k k' : List Bs} {w w' : Ws} {dn : Bool} {res : Int ⊕ JS} (hok : bOk m ts) (hdk : dOk k w) (hw : w.length ≤ 900) (he : jOpen m ts k w dn = (t, k', w', res)) {K : AVal → AHeap A → Prop}
    (hk : match res with
      | .inl e => K (.tup [.nilp, .int .i64 e]) [.adt (bk m t), .adt (dk k' w' dn)]
      | .inr J => K (.tup [.ptr 2 0, .int .i64 0]) [.adt (bk m t), .adt (dk k' w' dn), .adt (jm 0 1 J)]) : Tri Pr R n_ref1_OpenJournal [.ptr 0 0, .ptr 1 0] [.adt (bk m ts), .adt (dk k w dn)] K := by
  have hd := hdk.size
  have hpl := dPut_len k w
  have hpf := dPut_full hdk
  refine Tri.post ?_
  apply c_ref1_OpenJournal
  unfold p_ref1_OpenJournal
  unfold jOpen at he
  by_cases hdn : dn = true
  · rw [if_pos hdn] at he
    subst hdn
    simp only [Prod.mk.injEq] at he
    obtain ⟨rfl, rfl, rfl, rfl⟩ := he
    refine rdisk_Read_at hR hD hdk (by omega) (s := []) (e := 801) rfl rfl ?_
    simp -implicitDefEqProofs
    refine rdisk_Read_at hR hD hdk (by omega) (s := []) (e := 801) rfl rfl ?_
    simp -implicitDefEqProofs
    refine rdisk_Read_at hR hD hdk (by omega) (s := []) (e := 801) rfl rfl ?_
    simp -implicitDefEqProofs
    exact Gives.done (by simp) ⟨_, rfl, hk⟩
  have hdn' : dn = false := by simpa using hdn
  subst hdn'
  rw [if_neg hdn] at he
  have r0 : dRead k w false 0 = ((dPut k w).getD 0 [], 0) := by
    unfold dRead; rw [if_neg (by simp), if_neg (by omega)]; rfl
  have l0 := getD_len hpf (i := 0) (by omega)
  by_cases hsz : (k.length : Int) ≤ 2
  · rw [if_pos hsz] at he
    simp only [Prod.mk.injEq] at he
    obtain ⟨rfl, rfl, rfl, rfl⟩ := he
    have r2 : dRead k w false 2 = ([], 800) := by
      unfold dRead; rw [if_neg (by simp), if_pos (by omega)]
    by_cases h1 : (k.length : Int) ≤ 1
    · have r1 : dRead k w false 1 = ([], 800) := by
        unfold dRead; rw [if_neg (by simp), if_pos (by omega)]
      refine rdisk_Read_at hR hD hdk (by omega) r0 rfl ?_
      simp -implicitDefEqProofs
      refine rdisk_Read_at hR hD hdk (by omega) r1 rfl ?_
      simp -implicitDefEqProofs
      refine rdisk_Read_at hR hD hdk (by omega) r2 rfl ?_
      simp -implicitDefEqProofs
      exact Gives.done (by simp) ⟨_, rfl, hk⟩
    · have r1 : dRead k w false 1 = ((dPut k w).getD 1 [], 0) := by
        unfold dRead; rw [if_neg (by simp), if_neg (by omega)]; rfl
      refine rdisk_Read_at hR hD hdk (by omega) r0 rfl ?_
      simp -implicitDefEqProofs
      refine rdisk_Read_at hR hD hdk (by omega) r1 rfl ?_
      simp -implicitDefEqProofs
      refine rdisk_Read_at hR hD hdk (by omega) r2 rfl ?_
      simp -implicitDefEqProofs
      exact Gives.done (by simp) ⟨_, rfl, hk⟩
  rw [if_neg hsz] at he
  have hsz' : ¬ k.length ≤ 2 := by omega
  have r1 : dRead k w false 1 = ((dPut k w).getD 1 [], 0) := by
    unfold dRead; rw [if_neg (by simp), if_neg (by omega)]; rfl
  have r2 : dRead k w false 2 = ((dPut k w).getD 2 [], 0) := by
    unfold dRead; rw [if_neg (by simp), if_neg (by omega)]; rfl
  have l1 := getD_len hpf (i := 1) (by omega)
  obtain ⟨⟨boot, at_, e0⟩, he1⟩ : ∃ z, sPick ts ((dPut k w).getD 0 []) ((dPut k w).getD 1 []) = z := ⟨_, rfl⟩
  obtain ⟨p1, p2, p3, p4⟩ := sPick_may ts ((dPut k w).getD 0 []) ((dPut k w).getD 1 [])
  rw [he1] at he p1 p2 p3 p4
  dsimp only at he p1 p2 p3 p4
  obtain ⟨⟨t1, s, f⟩, he2⟩ : ∃ z, sPut m ts (boot + 1) = z := ⟨_, rfl⟩
  rw [he2] at he
  dsimp only at he
  generalize (dPut k w).getD 0 [] = one at r0 l0 he1
  generalize (dPut k w).getD 1 [] = two at r1 l1 he1
  generalize (dPut k w).getD 2 [] = thr at r2
  have e1 := w64 (n := boot + 1) (by omega)
  refine rdisk_Read_at hR hD hdk (by omega) r0 rfl ?_
  simp -implicitDefEqProofs
  refine rdisk_Read_at hR hD hdk (by omega) r1 rfl ?_
  simp -implicitDefEqProofs
  refine rdisk_Read_at hR hD hdk (by omega) r2 rfl ?_
  simp -implicitDefEqProofs
  refine ref1_Pick_ok hR hB hok one two (by omega) (by omega) rfl ?_
  rw [he1]
  simp -implicitDefEqProofs
  refine joinP_all (fun vs g => vs = [.int .i64 boot, .int .i64 at_] ∧ g = [.adt (bk m ts), .adt (dk k w false)]) ?_ ?_
  · rcases p4 with h | ⟨h, h1, h2⟩
    · subst h
      simp -implicitDefEqProofs
    · subst h h1 h2
      simp -implicitDefEqProofs
  rintro _ _ ⟨rfl, rfl⟩
  refine ⟨by simp, ?_⟩
  simp -implicitDefEqProofs [e1]
  refine ref1_PutSuper_ok hR hB hok _ rfl ?_
  rw [he2]
  by_cases hf : f = 0
  case neg =>
    have hf' : (f != 0) = true := by simpa using hf
    rw [if_neg hf] at he
    simp only [Prod.mk.injEq] at he
    obtain ⟨rfl, rfl, rfl, rfl⟩ := he
    simp -implicitDefEqProofs [hf']
    exact Gives.done (by simp) ⟨_, rfl, hk⟩
  case pos =>
    subst hf
    rw [if_pos rfl] at he
    have hok1 : bOk m t1 := by
      have := sPut_ok (boot := boot + 1) hok
      rwa [he2] at this
    have sl := sPut_sec he2
    have w1 : dWrite k w false at_ s = (w ++ [(at_, s)], 0) := dWrite_good (by omega)
    have ok2 : dOk k (w ++ [(at_, s)]) := dOk_write hdk (by omega)
    have ek : dPut k (w ++ [(at_, s)]) = (dPut k w).set at_.toNat s := dPut_snoc k w (at_, s)
    have ok3 := dOk_put ok2
    rw [ek] at ok3
    have hkl : ((dPut k w).set at_.toNat s).length = k.length := by rw [List.length_set, dPut_len]
    simp -implicitDefEqProofs
    refine rdisk_Write_at hR hD hdk (by omega) w1 rfl ?_
    simp -implicitDefEqProofs
    refine rdisk_Flush_at hR hD ok2 (by simp; omega) ek rfl ?_
    generalize (dPut k w).set at_.toNat s = k2 at *
    obtain ⟨⟨p, es⟩, hl⟩ : ∃ z, jLoad t1 k2 k.length 0 [] = z := ⟨_, rfl⟩
    rw [hl] at he
    simp only [Prod.mk.injEq] at he
    obtain ⟨rfl, rfl, rfl, rfl⟩ := he
    have hsz3 := ok3.size
    have hpf3 := ok3.full
    dsimp only at hk
    simp -implicitDefEqProofs [e1]
    refine joinP_all (ROpJ bk dk m t1 k2 (boot + 1) (p, es)) ?_ ?_
    · refine loopP_go (ROpI bk dk m t1 k2 (boot + 1) (p, es)) k.length (Gives.done (by simp) ⟨0, [], rfl, rfl, hl, by simp [hkl]⟩) ?_
      rintro n y g ⟨q, fs, rfl, rfl, hld, hfn⟩
      have hat := jEv_at fs (.adt (bk m t1)) (.adt (dk k2 [] false)) (rjCells 0 1 (boot + 1) q (jEv fs) false : AObj A)
      have hlen := hat.len
      have stop : (p, es) = (q, fs) → ∀ r : AHeap A, ROpJ bk dk m t1 k2 (boot + 1) (p, es) [] (.adt (bk m t1) :: .adt (dk k2 [] false) :: rjCells 0 1 (boot + 1) q (jEv fs) false :: (jEvs fs ++ r)) := by
        intro hpq r
        obtain ⟨rfl, rfl⟩ := Prod.mk.inj hpq
        exact ⟨r, rfl, rfl⟩
      have q1 := w64 (n := 2 + (fs.length : Int)) (by omega)
      have q2 := w64 (n := (fs.length : Int) + 1) (by omega)
      obtain ⟨U, hU⟩ : ∃ U, (jEvs fs : AHeap A) = U := ⟨_, rfl⟩
      rw [hU] at hat stop ⊢
      unfold rjCells at *
      simp -implicitDefEqProofs [hlen, q1]
      by_cases h1 : (2 + fs.length : Nat) < k2.length
      · obtain ⟨n', rfl⟩ : ∃ n', n = n' + 1 := ⟨n - 1, by omega⟩
        unfold jLoad at hld
        rw [if_pos h1] at hld
        obtain ⟨⟨r, name, f⟩, hr⟩ : ∃ z, recGet t1 (k2.getD (2 + fs.length) []) (fs.length + 1) q = z := ⟨_, rfl⟩
        rw [hr] at hld
        dsimp only at hld
        have hx : 2 + (fs.length : Int) = ((2 + fs.length : Nat) : Int) := by omega
        have rr : dRead k2 [] false (2 + (fs.length : Int)) = (k2.getD (2 + fs.length) [], 0) := by
          unfold dRead; rw [if_neg (by simp), if_neg (by omega), hx, Int.toNat_natCast]; rfl
        have lr := getD_len hpf3 (i := 2 + fs.length) (by omega)
        generalize k2.getD (2 + fs.length) [] = s2 at *
        refine rdisk_Read_at hR hD ok3 (by simp) rr rfl ?_
        simp -implicitDefEqProofs
        refine joinP_all (ROpG bk dk m t1 k2 (boot + 1) q f name fs U r) ?_ ?_
        · have st : ∀ K : AHeap A → Prop, K (.adt (bk m t1) :: .adt (dk k2 [] false) :: .cells t_bastionref1_Journal [.ptr 0 0, .ptr 1 0, .bool false, .int .i64 q, .int .i64 (boot + 1), jEv fs] :: (U ++ [.cells t_api_Record r.row])) → stP 11 (.ptr (U.length + 1 + 1 + 1) 0) (.agg r.row) (.adt (bk m t1) :: .adt (dk k2 [] false) :: .cells t_bastionref1_Journal [.ptr 0 0, .ptr 1 0, .bool false, .int .i64 q, .int .i64 (boot + 1), jEv fs] :: (U ++ [.cells t_api_Record (reps 11 (.int .i64 0))])) K := fun K hK =>
            st_last (base := .adt (bk m t1) :: .adt (dk k2 [] false) :: .cells t_bastionref1_Journal [.ptr 0 0, .ptr 1 0, .bool false, .int .i64 q, .int .i64 (boot + 1), jEv fs] :: U) rfl rfl rfl hK
          simp -implicitDefEqProofs [hlen, q2]
          constructor
          · refine RRGet_at hR hB hok1 (by omega) hr rfl ?_
            simp -implicitDefEqProofs
            exact st _ ⟨rfl, rfl⟩
          · refine RRGet_at hR hB hok1 (by omega) hr rfl ?_
            simp -implicitDefEqProofs
            exact st _ ⟨rfl, rfl⟩
        · rintro _ _ ⟨rfl, rfl⟩
          refine ⟨by rw [← hU]; simp, ?_⟩
          by_cases hf : f = 0
          · rw [if_pos hf] at hld
            subst hf
            simp -implicitDefEqProofs [Rec.row, Ev.row]
            refine app_evs (l := [r.ev]) (a := .sl (U.length + 1 + 1 + 1 + 1) 0 1 1 true) (hat.app _) ?_ (by simp; omega) fun x' e' h' hev hsame hl' he' => ?_
            · have hat : ∀ x y : AObj A, ((.adt (bk m t1) :: .adt (dk k2 [] false) :: .cells t_bastionref1_Journal [.ptr 0 0, .ptr 1 0, .bool false, .int .i64 q, .int .i64 (boot + 1), jEv fs] :: U) ++ [x, y] : AHeap A)[U.length + 1 + 1 + 1 + 1]? = some y := fun x y => by
                rw [List.getElem?_append_right (by simp)]
                simp
              simp only [srcOf, cellsAt, hat, Option.bind_some, AObj.read]
              rfl
            · have ne : ∀ k, k < 3 → fs = [] ∨ k ≠ 3 := fun k hk3 => .inr (by omega)
              have q0 : h'[0]? = some (.adt (bk m t1)) := hsame 0 (ne 0 (by omega)) (by simp)
              have q1 : h'[1]? = some (.adt (dk k2 [] false)) := hsame 1 (ne 1 (by omega)) (by simp)
              have q2 := hsame 2 (ne 2 (by omega)) (by simp)
              replace q2 : h'[2]? = some (.cells t_bastionref1_Journal [.ptr 0 0, .ptr 1 0, .bool false, .int .i64 q, .int .i64 (boot + 1), jEv fs]) := q2
              obtain ⟨h'', rfl⟩ := three q0 q1 q2
              have hge : 3 ≤ e' := by
                rcases he' with ⟨h0, rfl⟩ | h0
                · exact Nat.le_refl _
                · simp at h0; omega
              simp at hl'
              rw [st_rev hev]
              simp -implicitDefEqProofs
              have hev2 : EvAt x' (fs ++ [r.ev]) e' (.adt (bk m t1) :: .adt (dk k2 [] false) :: rjCells 0 1 (boot + 1) name x' false :: h'') := hev.move fun _ => by
                obtain ⟨j, rfl⟩ : ∃ j, e' = j + 3 := ⟨e' - 3, by omega⟩
                rfl
              exact rjrn_canon hR hev2 (fun _ => hge) (rbook_cl hB _ _) (rdisk_cl hD _ _ _) (by simp) rfl ⟨n', by omega, name, fs ++ [r.ev], rfl, rfl, hld, by simp; omega⟩
          · rw [if_neg hf] at hld
            have hf' : (f != 0) = true := by simpa using hf
            simp -implicitDefEqProofs [hf']
            exact stop hld.symm _
      · have hpq : (p, es) = (q, fs) := by
          cases n with
          | zero => exact hld.symm
          | succ n => unfold jLoad at hld; rw [if_neg h1] at hld; exact hld.symm
        have rr : dRead k2 [] false (2 + (fs.length : Int)) = ([], 800) := by
          unfold dRead; rw [if_neg (by simp), if_pos (by omega)]
        refine rdisk_Read_at hR hD ok3 (by simp) rr rfl ?_
        simp -implicitDefEqProofs
        have := stop hpq []
        simpa using this
    · rintro _ _ ⟨r, rfl, rfl⟩
      refine ⟨by simp, ?_⟩
      have hat := jEv_at es (.adt (bk m t1)) (.adt (dk k2 [] false)) (rjCells 0 1 (boot + 1) p (jEv es) false : AObj A)
      simp -implicitDefEqProofs
      exact rjrn_shut hR hJ (J := ⟨boot + 1, p, es, false⟩) (t := []) (e := 3) ((hat.app r)) (by simp) (rbook_cl hB _ _) (rdisk_cl hD _ _ _) (by simp) (by simp) (by simp [ixs, AVal.ix]) ⟨_, rfl, hk⟩
end
end Go.AI

/- The document's journal: put. -/
set_option linter.all false
namespace Go.AI
variable {A : Type} {R : Adts A}
/-- The document's disk, opened. -/
def rdC (N : Nat) (k : List Bs) (w : Ws) (d : Bool) : AObj A := .cells t_bastionref1_Disk [.sl N 0 k.length k.length false, if w = [] then .nils else .sl (N + 1) 0 w.length w.length false, .bool d]
def rdP (k : List Bs) (w : Ws) : AHeap A := if w = [] then [.cells t_string (k.map .str)] else [.cells t_string (k.map .str), .cells t_bastionref1_write (wCells w)]
def rdX (w : Ws) : AHeap A := if w = [] then [.dead] else [.dead, .dead]
theorem kill_up (u s : AHeap A) (a b c x : AObj A) (n : Nat) (hn : n = 3 + u.length) : ((a :: b :: c :: (u ++ x :: s) : AHeap A).set n .dead) = a :: b :: c :: (u ++ .dead :: s) := by
  subst hn
  rw [Nat.add_comm]
  simp
theorem kill_up2 (u s : AHeap A) (a b c x y : AObj A) (n : Nat) (hn : n = 3 + u.length + 1) : ((a :: b :: c :: (u ++ x :: y :: s) : AHeap A).set n .dead) = a :: b :: c :: (u ++ x :: .dead :: s) := by
  have := kill_up (u ++ [x]) s a b c y n (by simp; omega)
  simpa using this
section
variable {bk : Int → List Bs → A} {dk : List Bs → Ws → Bool → A} {jm : Nat → Nat → JS → A}
theorem rdisk_open1 (hD : HasRDisk R dk) {a c : AObj A} {k : List Bs} {w : Ws} {d : Bool} {u : AHeap A} {n : Nat} (hn : n ≤ 3 + u.length) {vs : List AVal} {K : List AVal → AHeap A → Prop}
    (hk : Gives Pr R n (a :: rdC (3 + u.length) k w d :: c :: (u ++ rdP k w)) vs K) : Gives Pr R n (a :: .adt (dk k w d) :: c :: u) vs K := by
  refine Gives.opened 1 rfl (by simp; omega) fun g hg => ?_
  obtain rfl := (hD.lay _ _ _ _).1 hg
  have e1 : u.length + 1 + 1 + 1 = 3 + u.length := by omega
  by_cases h0 : w = []
  · simpa [rdiskG, h0, rdC, rdP, GC.at, e1] using hk
  · simpa [rdiskG, h0, rdC, rdP, GC.at, e1] using hk
theorem rdisk_shut1 (hD : HasRDisk R dk) {a c : AObj A} {k : List Bs} {w : Ws} {d : Bool} {u s : AHeap A} {n : Nat} {vs : List AVal} {K : List AVal → AHeap A → Prop}
    (hk : Gives Pr R n (a :: .adt (dk k w d) :: c :: (u ++ (rdX w ++ s))) vs K) : Gives Pr R n (a :: rdC (3 + u.length) k w d :: c :: (u ++ (rdP k w ++ s))) vs K := by
  have at0 : ∀ (b x : AObj A) (s : AHeap A), (a :: b :: c :: (u ++ x :: s) : AHeap A)[3 + u.length]? = some x := fun b x s => by
    rw [Nat.add_comm]; simp
  have at1 : ∀ (b x y : AObj A) (s : AHeap A), (a :: b :: c :: (u ++ x :: y :: s) : AHeap A)[3 + u.length + 1]? = some y := fun b x y s => by
    have h2 := up_at (u := u ++ [x, y]) (r := s) (a := a) (b := b) (c := c) (u.length + 1) y (by simp)
    have e2 : u ++ [x, y] ++ s = u ++ x :: y :: s := by simp
    rw [e2] at h2
    exact h2
  by_cases h0 : w = []
  · subst h0
    refine Gives.shut 1 [3 + u.length] (dk k [] d) (rdiskG k [] d) ((hD.lay _ _ _ _).2 rfl) ?_ ?_ ?_ (by simp; omega) ?_ ?_ ?_
    · simp [rdiskG, rdC, GC.on]
    · simp [rdiskG]
    · intro i x hs
      match i, hs with
      | 0, hs => simp [rdiskG] at hs; subst hs; exact ⟨by simpa [rdP] using at0 _ _ _, rfl⟩
      | i + 1, hs => simp [rdiskG] at hs
    · intro i o len cap ex hm
      simp [rdiskG] at hm ⊢
      omega
    · simp [rdiskG]
    · have : (kills (a :: rdC (3 + u.length) k [] d :: c :: (u ++ (rdP k [] ++ s))) [3 + u.length]).set 1 (.adt (dk k [] d)) = a :: .adt (dk k [] d) :: c :: (u ++ (rdX [] ++ s)) := by
        simp only [kills, rdP, rdX, if_true, List.singleton_append]
        rw [kill_up _ _ _ _ _ _ _ rfl]
        rfl
      rw [this]; exact hk
  · refine Gives.shut 1 [3 + u.length, 3 + u.length + 1] (dk k w d) (rdiskG k w d) ((hD.lay _ _ _ _).2 rfl) ?_ ?_ ?_ (by simp; omega) ?_ ?_ ?_
    · simp [rdiskG, rdC, GC.on, h0]
    · simp [rdiskG, h0]
    · intro i x hs
      match i, hs with
      | 0, hs => simp [rdiskG, h0] at hs; subst hs; exact ⟨by simpa [rdP, h0] using at0 _ _ _, rfl⟩
      | 1, hs => simp [rdiskG, h0] at hs; subst hs; exact ⟨by simpa [rdP, h0] using at1 _ _ _ _, rfl⟩
      | i + 2, hs => simp [rdiskG, h0] at hs
    · intro i o len cap ex hm
      simp [rdiskG, h0] at hm ⊢
      omega
    · simp [rdiskG, h0]
    · have : (kills (a :: rdC (3 + u.length) k w d :: c :: (u ++ (rdP k w ++ s))) [3 + u.length, 3 + u.length + 1]).set 1 (.adt (dk k w d)) = a :: .adt (dk k w d) :: c :: (u ++ (rdX w ++ s)) := by
        simp only [kills, rdP, rdX, h0, if_false, List.cons_append, List.nil_append]
        rw [kill_up _ _ _ _ _ _ _ rfl, kill_up2 _ _ _ _ _ _ _ _ rfl]
        rfl
      rw [this]; exact hk
theorem rRoom_raw (hR : R.Ok) {h : AHeap A} {j b d n N : Nat} {boot prev : Int} {ev : AVal} {over dn : Bool} {k : List Bs} {w : Ws} (hj : h[j]? = some (rjCells b d boot prev ev over)) (hd : h[d]? = some (rdC N k w dn)) (hl : ∀ K : AVal → Prop, lenP ev K = K (.int .i64 n))
    (hn : n ≤ 10000) (hkl : k.length ≤ 256) {K : AVal → AHeap A → Prop} (hk : K (.int .i64 ((k.length : Int) - 2 - n)) h) : Tri Pr R n_ref1_Journal_Room [.ptr j 0] h K := by
  unfold rjCells at hj
  unfold rdC at hd
  apply c_ref1_Journal_Room
  unfold p_ref1_Journal_Room
  have e1 := w64 (n := (k.length : Int) - 2) (by omega)
  have e2 := w64 (n := (k.length : Int) - 2 - n) (by omega)
  simp -implicitDefEqProofs [cellsAt, hj, hd, AObj.read, hl, e1, e2]
  exact hk
theorem app_str1 {base h : AHeap A} {ss : List Bs} {s : Bs} {j : Nat} {x : AVal} (hn : ss.length ≤ 900) (hx : x = WrX base.length ss) (hh : h = base ++ (WrS ss ++ [.cells t_string [.str s]])) (hj : j = base.length + (WrS ss : AHeap A).length) {K : AVal → AHeap A → Prop}
    (hk : ∀ mid : AHeap A, K (.sl (base.length + mid.length) 0 (ss.length + 1) (ss.length + 1) false) (base ++ (mid ++ [.cells t_string ((ss ++ [s]).map .str)]))) : appP t_string 1 16 x (.sl j 0 1 1 true) h K := by
  subst hx hh hj
  have hat : (base ++ (WrS ss ++ [.cells t_string [.str s]]) : AHeap A)[base.length + (WrS ss : AHeap A).length]? = some (.cells t_string [.str s]) := by
    rw [List.getElem?_append_right (by omega), List.getElem?_append_right (by omega)]
    have : base.length + (WrS ss : AHeap A).length - base.length - (WrS ss : AHeap A).length = 0 := by omega
    rw [this]; rfl
  have hsrc : srcOf 1 (base ++ (WrS ss ++ [.cells t_string [.str s]]) : AHeap A) (.sl (base.length + (WrS ss : AHeap A).length) 0 1 1 true) = some (1, [.str s]) := by
    simp only [srcOf, cellsAt, hat, Option.bind_some, AObj.read]
    rfl
  unfold appP appV
  rw [hsrc]
  dsimp only
  by_cases h0 : ss = []
  · subst h0
    simp only [WrX, WrS, if_true, List.nil_append]
    rw [if_neg (by omega), if_pos (by omega)]
    simp only [optH]
    have := hk [.cells t_string [.str s]]
    simpa using this
  · have hr := room_16k (n := ss.length + 1) (by omega)
    have hat2 : (base ++ (WrS ss ++ [.cells t_string [.str s]]) : AHeap A)[base.length]? = some (.cells t_string (ss.map .str)) := by
      rw [List.getElem?_append_right (by omega)]
      simp [WrS, h0]
    have hX : WrX base.length ss = .sl base.length 0 ss.length ss.length false := by simp [WrX, h0]
    rw [hX]
    dsimp only
    rw [if_neg (by omega), hat2]
    dsimp only
    rw [if_pos ⟨by omega, by simp, .inr hr⟩, if_neg (by simp), if_pos ⟨rfl, by simp, rfl⟩]
    simp only [optH]
    have t1 : ((ss.map AVal.str).drop 0).take (ss.length * 1) ++ [.str s] = (ss ++ [s]).map .str := by simp [List.take_of_length_le]
    rw [t1]
    have e1 : (base ++ (WrS ss ++ [.cells t_string [.str s]]) : AHeap A).set base.length .dead = base ++ ([.dead, .cells t_string [.str s]] : AHeap A) := by
      simp [WrS, h0]
    rw [e1]
    have := hk [.dead, .cells t_string [.str s]]
    simpa [WrS, h0] using this
theorem rd_low (N : Nat) (k : List Bs) (w : Ws) (d : Bool) {n : Nat} (h : N + (rdP k w : AHeap A).length ≤ n) : (rdC N k w d : AObj A).low R n := by
  unfold rdC
  unfold rdP at h
  refine low_cells ?_
  by_cases h0 : w = []
  · simp [h0] at h
    simp [ixs, AVal.ix, h0]; omega
  · simp [h0] at h
    simp [ixs, AVal.ix, h0]; omega
theorem rdP_cl (k : List Bs) (w : Ws) : ∀ o ∈ (rdP k w : AHeap A), o.closed R := by
  intro o ho
  unfold rdP at ho
  split at ho
  · simp at ho; subst ho; exact closed_cells (strs_ix 0 k)
  · simp at ho
    rcases ho with rfl | rfl
    · exact closed_cells (strs_ix 0 k)
    · exact closed_cells (wCells_ix 0 w)
/-- Are the first ones events? -/
def PmI (g0 : AHeap A) (l : List Ev) (mm : Nat) (y : List AVal) (g : AHeap A) : Prop := ∃ i : Nat, y = [.int .i64 i] ∧ g = g0 ∧ i ≤ l.length ∧ (l.take i).all evMay = true ∧ mm = l.length - i
def PwI (bk : Int → List Bs → A) (B C : AObj A) (u : AHeap A) (m boot n prev : Int) (ts : List Bs) (l : List Ev) (mm : Nat) (y : List AVal) (g : AHeap A) : Prop :=
  ∃ (i : Nat) (ti : List Bs) (p : Int) (ss : List Bs), y = [.int .i64 p, WrX (3 + u.length) ss, .int .i64 i] ∧ g = .adt (bk m ti) :: B :: C :: (u ++ WrS ss) ∧ bOk m ti ∧ ss.length = i ∧ i ≤ l.length ∧ mm = l.length - i ∧
    jRecs m boot ts n prev l = jApp ss (jRecs m boot ti (n + i) p (l.drop i))
end
end Go.AI

/- The document's journal: put. -/
set_option linter.all false
namespace Go.AI
variable {A : Type} {R : Adts A}
section
variable {bk : Int → List Bs → A} {dk : List Bs → Ws → Bool → A}
theorem rput_core (hR : R.Ok) (hB : HasRBook R bk) (hD : HasRDisk R dk) {m : Int} {ts t : List Bs} {k : List Bs} {w : Ws} {dn : Bool} {J : JS} {ev a : AVal} {l : List Ev} {u : AHeap A} {ss : List Bs} {p e : Int} (hok : bOk m ts) (hdk : dOk k w)
    (hev : ∀ K : AVal → Prop, lenP ev K = K (.int .i64 J.es.length)) (hn : J.es.length ≤ 300) (hevx : ev.ix (3 + u.length) = true) (ha : EvArg a l 3 u) (hl : l.length < 1000000000) (hu : ∀ o ∈ u, o.closed R)
    (he : jPut m ts J k.length dn l = (t, ss, p, e)) {K : AVal → AHeap A → Prop}
    (hk : ∀ r : AHeap A, K (.tup [WrX (3 + u.length + r.length) ss, .int .i64 p, .int .i64 e]) (.adt (bk m t) :: .adt (dk k w dn) :: rjCells 0 1 J.boot J.prev ev J.over :: (u ++ (r ++ WrS ss)))) :
    Tri Pr R n_ref1_Journal_put [.ptr 2 0, a] (.adt (bk m ts) :: .adt (dk k w dn) :: rjCells 0 1 J.boot J.prev ev J.over :: u) K := by
  have hd := hdk.size
  obtain ⟨boot, prev, es, over⟩ := J
  dsimp only at *
  refine Tri.post (Tri.pre (rdisk_open1 hD (by simp <;> omega) (Gives.done (by simp <;> omega) ?_)))
  obtain ⟨U, hU⟩ : ∃ U, u ++ (rdP k w : AHeap A) = U := ⟨_, rfl⟩
  have hPl : (rdP k w : AHeap A).length = (rdX w : AHeap A).length := by unfold rdP rdX; split <;> rfl
  have hUl : U.length = u.length + (rdX w : AHeap A).length := by rw [← hU, List.length_append, hPl]
  obtain ⟨N, hN⟩ : ∃ N, 3 + u.length = N := ⟨_, rfl⟩
  obtain ⟨X, hX⟩ : ∃ X : AVal, (if w = [] then .nils else .sl (N + 1) 0 w.length w.length false) = X := ⟨_, rfl⟩
  have hBx : (rdC (3 + u.length) k w dn : AObj A) = .cells t_bastionref1_Disk [.sl N 0 k.length k.length false, X, .bool dn] := by
    rw [hN]; unfold rdC; rw [hX]
  have hlowB : ∀ n, 3 + U.length ≤ n → (AObj.cells t_bastionref1_Disk [.sl N 0 k.length k.length false, X, .bool dn] : AObj A).low R n := fun n hn => by
    rw [← hBx]; exact rd_low _ _ _ _ (by rw [hPl]; omega)
  have hUlow : ∀ o ∈ U, o.low R (3 + U.length) := by
    intro o ho
    rw [← hU] at ho
    rcases List.mem_append.1 ho with h | h
    · have := hu o h
      exact ⟨this.1 _, fun τ _ => this.2 τ⟩
    · have := rdP_cl (R := R) k w o h
      exact ⟨this.1 _, fun τ _ => this.2 τ⟩
  have up0 : ∀ (a b c : AObj A) (r : AHeap A) (k : Nat) (o : AObj A), u[k]? = some o → (a :: b :: c :: (U ++ r) : AHeap A)[3 + k]? = some o := fun a b c r k o h => by
    rw [← hU, List.append_assoc]; exact up_at k o h
  have up1 : ∀ (a b c : AObj A) (k : Nat) (o : AObj A), u[k]? = some o → (a :: b :: c :: U : AHeap A)[3 + k]? = some o := fun a b c k o h => by
    have := up0 a b c [] k o h
    simpa using this
  have hevX : ev.ix (3 + U.length) = true := ix_mono (by omega) ev hevx
  unfold rjCells at *
  have finS : ∀ (n : Nat) (ti : List Bs) (ssi : List Bs) (q e9 : Int) (S : AHeap A), n ≤ 3 + u.length → (ti, ssi, q, e9) = (t, ss, p, e) → Gives Pr R n (.adt (bk m ti) :: .cells t_bastionref1_Disk [.sl N 0 k.length k.length false, X, .bool dn] :: .cells t_bastionref1_Journal [.ptr 0 0, .ptr 1 0, .bool over, .int .i64 prev, .int .i64 boot, ev] :: (U ++ (S ++ WrS ssi))) [.tup [WrX (3 + U.length + S.length) ssi, .int .i64 q, .int .i64 e9]] fun vs h2 => ∃ v, vs = [v] ∧ K v h2 := by
    intro n ti ssi q e9 S hn9 h9
    simp only [Prod.mk.injEq] at h9
    obtain ⟨rfl, rfl, rfl, rfl⟩ := h9
    rw [← hU, ← hBx, List.append_assoc]
    refine rdisk_shut1 hD (Gives.done (by simp <;> omega) ⟨_, rfl, ?_⟩)
    have := hk (rdX w ++ S)
    have e1 : 3 + u.length + (rdX w ++ S : AHeap A).length = 3 + (u ++ (rdP k w : AHeap A)).length + S.length := by simp only [List.length_append, hPl]; omega
    rw [e1, List.append_assoc] at this
    exact this
  have fin : ∀ (n : Nat) (ti : List Bs) (ssi : List Bs) (q e9 : Int), n ≤ 3 + u.length → (ti, ssi, q, e9) = (t, ss, p, e) → Gives Pr R n (.adt (bk m ti) :: .cells t_bastionref1_Disk [.sl N 0 k.length k.length false, X, .bool dn] :: .cells t_bastionref1_Journal [.ptr 0 0, .ptr 1 0, .bool over, .int .i64 prev, .int .i64 boot, ev] :: (U ++ WrS ssi)) [.tup [WrX (3 + U.length) ssi, .int .i64 q, .int .i64 e9]] fun vs h2 => ∃ v, vs = [v] ∧ K v h2 :=
    fun n ti ssi q e9 hn9 h9 => finS n ti ssi q e9 [] hn9 h9
  rw [hU, hBx]
  have fin0 : ∀ (n : Nat) (ti : List Bs) (q e9 : Int), n ≤ 3 + u.length → (ti, [], q, e9) = (t, ss, p, e) → Gives Pr R n (.adt (bk m ti) :: .cells t_bastionref1_Disk [.sl N 0 k.length k.length false, X, .bool dn] :: .cells t_bastionref1_Journal [.ptr 0 0, .ptr 1 0, .bool over, .int .i64 prev, .int .i64 boot, ev] :: U) [.tup [.nils, .int .i64 q, .int .i64 e9]] fun vs h2 => ∃ v, vs = [v] ∧ K v h2 := fun n ti q e hn h => by
    have := fin n ti [] q e hn h
    simpa [WrX, WrS] using this
  apply c_ref1_Journal_put
  unfold p_ref1_Journal_put
  unfold jPut at he
  dsimp only at he
  cases over with
  | true =>
    rw [if_pos (.inl rfl)] at he
    simp -implicitDefEqProofs
    exact fin0 _ _ _ _ (by omega) he
  | false =>
  cases dn with
  | true =>
    rw [if_pos (.inr rfl)] at he
    simp -implicitDefEqProofs
    exact fin0 _ _ _ _ (by omega) he
  | false =>
  rw [if_neg (by simp)] at he
  simp -implicitDefEqProofs
  refine loopP_go (PmI (.adt (bk m ts) :: .cells t_bastionref1_Disk [.sl N 0 k.length k.length false, X, .bool false] :: .cells t_bastionref1_Journal [.ptr 0 0, .ptr 1 0, .bool false, .int .i64 prev, .int .i64 boot, ev] :: U) l) l.length (Gives.done (by simp) ⟨0, rfl, rfl, by omega, rfl, rfl⟩) ?_
  rintro mm y g ⟨i, rfl, rfl, hil, hal, rfl⟩
  have e3 := w64 (n := (i : Int) + 1) (by omega)
  by_cases hi : i < l.length
  · have hi' : (i : Int) < (l.length : Int) := by omega
    obtain ⟨pt, hpt, hlv⟩ := ha.get (.adt (bk m ts) :: .cells t_bastionref1_Disk [.sl N 0 k.length k.length false, X, .bool false] :: .cells t_bastionref1_Journal [.ptr 0 0, .ptr 1 0, .bool false, .int .i64 prev, .int .i64 boot, ev] :: U) (up1 _ _ _) i hi
    simp -implicitDefEqProofs [ha.len, hi, hi', hpt, hlv]
    refine ref1_EventMay_ok hR _ ?_
    cases hm : evMay l[i] with
    | false =>
      have hall : ¬ l.all evMay = true := fun h => by
        have := List.all_eq_true.1 h l[i] (List.getElem_mem hi)
        rw [hm] at this; cases this
      rw [if_neg hall] at he
      simp -implicitDefEqProofs
      exact fin0 _ _ _ _ (by omega) he
    | true =>
      simp -implicitDefEqProofs [e3]
      refine Gives.done (by simp) ⟨l.length - (i + 1), by omega, i + 1, rfl, rfl, by omega, ?_, rfl⟩
      rw [List.take_add_one, List.all_append, hal, List.getElem?_eq_getElem hi]
      simp [hm]
  have hi' : ¬ (i : Int) < (l.length : Int) := by omega
  obtain rfl : i = l.length := by omega
  have hall : l.all evMay = true := by simpa using hal
  rw [if_pos hall] at he
  simp -implicitDefEqProofs [ha.len, hi, hi']
  refine rRoom_raw hR (n := es.length) (j := 2) (b := 0) (d := 1) (k := k) (w := w) (dn := false) (N := 3 + u.length) rfl (by rw [hBx]; rfl) hev (by omega) (by omega) ?_
  by_cases hrm : (k.length : Int) - 2 - es.length < l.length
  · rw [if_pos hrm] at he
    simp -implicitDefEqProofs [hrm]
    exact fin0 _ _ _ _ (by omega) he
  rw [if_neg hrm] at he
  simp -implicitDefEqProofs [hrm, ha.len]
  refine loopP_go (PwI bk (.cells t_bastionref1_Disk [.sl N 0 k.length k.length false, X, .bool false]) (.cells t_bastionref1_Journal [.ptr 0 0, .ptr 1 0, .bool false, .int .i64 prev, .int .i64 boot, ev]) U m boot es.length prev ts l) l.length (Gives.done (by simp) ⟨0, ts, prev, [], by simp [WrX], by simp [WrS], hok, rfl, by omega, rfl, ?_⟩) ?_
  · simp only [List.drop_zero, Int.natCast_zero, Int.add_zero]
    rw [jApp_recs]
  rintro mm y g ⟨i, ti, q, ssi, rfl, rfl, hoki, hsl, hil, rfl, htot⟩
  have e1 := w64 (n := (es.length : Int) + 1) (by omega)
  have e2 := w64 (n := (es.length : Int) + 1 + i) (by omega)
  have e3 := w64 (n := (i : Int) + 1) (by omega)
  by_cases hi : i < l.length
  · have hi' : (i : Int) < (l.length : Int) := by omega
    have hdr : l.drop i = l[i] :: l.drop (i + 1) := by rw [List.drop_eq_getElem_cons hi]
    rw [hdr] at htot
    have hsq : (es.length : Int) + i + 1 = (es.length : Int) + 1 + i := by omega
    obtain ⟨⟨t1, s, name, f⟩, hrp⟩ : ∃ z, recPut m ti ⟨es.length + 1 + i, boot, q, l[i]⟩ = z := ⟨_, rfl⟩
    have hrp2 : recPut m ti ⟨es.length + i + 1, boot, q, l[i]⟩ = (t1, s, name, f) := by rw [hsq]; exact hrp
    rw [jRecs_cons hrp2] at htot
    have hok1 := bOk_rput hoki hrp
    obtain ⟨pt, hpt, hlv⟩ := ha.get (.adt (bk m ti) :: .cells t_bastionref1_Disk [.sl N 0 k.length k.length false, X, .bool false] :: .cells t_bastionref1_Journal [.ptr 0 0, .ptr 1 0, .bool false, .int .i64 prev, .int .i64 boot, ev] :: (U ++ WrS ssi)) (up0 _ _ _ _) i hi
    obtain ⟨V, hV⟩ : ∃ V, U ++ (WrS ssi : AHeap A) = V := ⟨_, rfl⟩
    rw [hV] at hlv
    rw [hV]
    generalize l[i] = ei at *
    simp -implicitDefEqProofs [hi, hi', hpt, hlv, hev, e1, e2, Ev.row]
    refine RRPut_at (r := ⟨es.length + 1 + i, boot, q, ei⟩) hR hB hoki hrp rfl ?_
    by_cases hf : f = 0
    · subst hf
      rw [if_pos rfl, jApp_app] at htot
      simp -implicitDefEqProofs [e3]
      refine app_str1 (base := .adt (bk m t1) :: .cells t_bastionref1_Disk [.sl N 0 k.length k.length false, X, .bool false] :: .cells t_bastionref1_Journal [.ptr 0 0, .ptr 1 0, .bool false, .int .i64 prev, .int .i64 boot, ev] :: U) (s := s) (ss := ssi) (by omega) (by simp; congr 1; omega) (by rw [← hV]; simp) (by rw [← hV]; simp; omega) fun mid => ?_
      have hln : (.adt (bk m t1) :: .cells t_bastionref1_Disk [.sl N 0 k.length k.length false, X, .bool false] :: .cells t_bastionref1_Journal [.ptr 0 0, .ptr 1 0, .bool false, .int .i64 prev, .int .i64 boot, ev] :: U : AHeap A).length = 3 + U.length := by simp; omega
      refine Gives.pick hR (.adt (bk m t1) :: .cells t_bastionref1_Disk [.sl N 0 k.length k.length false, X, .bool false] :: .cells t_bastionref1_Journal [.ptr 0 0, .ptr 1 0, .bool false, .int .i64 prev, .int .i64 boot, ev] :: U) mid (.cells t_string ((ssi ++ [s]).map .str)) _ [.int .i64 name, .sl (3 + U.length) 0 (ssi.length + 1) (ssi.length + 1) false, .int .i64 (i + 1)] rfl (by simp) ?_ ?_ ?_ ?_ ?_
      · rw [hln]
        intro o ho
        simp only [List.mem_cons] at ho
        rcases ho with rfl | rfl | rfl | ho
        · exact ⟨rbook_ix hB _ _ _, fun τ _ => rbook_ren hB _ _ _⟩
        · exact hlowB _ (Nat.le_refl _)
        · exact low_cells (by simp [ixs, AVal.ix, hevX]; omega)
        · exact hUlow o ho
      · exact ⟨by show ixs _ _ = true; simp [ixs_all, AVal.ix], fun τ => by simp only [AObj.ren]; rw [strs_ren]⟩
      · rw [hln]; simp [rens, AVal.ren]
      · rw [hln]; simp [ixs, AVal.ix]
      · refine ⟨l.length - (i + 1), by omega, i + 1, t1, name, ssi ++ [s], by simp [WrX], by simp [WrS], hok1, by simp [hsl], by omega, rfl, ?_⟩
        rw [htot]
        have : (es.length : Int) + (i : Int) + 1 = (es.length : Int) + ((i + 1 : Nat) : Int) := by omega
        rw [this]
    · rw [if_neg hf] at htot
      have hf' : (f != 0) = true := by simpa using hf
      have hz : jRecs m boot ts es.length prev l = (t1, [], 0, false) := by rw [htot, jApp_bad]
      rw [hz] at he
      simp -implicitDefEqProofs [hf']
      rw [← hV]
      have := finS (u.length + 1 + 1 + 1) t1 [] 0 1101 (WrS ssi) (by omega) he
      simpa [WrX, WrS] using this
  · have hi' : ¬ (i : Int) < (l.length : Int) := by omega
    obtain rfl : i = l.length := by omega
    have hz : jRecs m boot ts es.length prev l = (ti, ssi, q, true) := by
      rw [htot, List.drop_length, jApp_end]
    rw [hz] at he
    simp -implicitDefEqProofs [hi, hi', ha.len]
    exact fin _ _ _ _ _ (by omega) he
end
end Go.AI
