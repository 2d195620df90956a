/- Disks under any calls. -/
import Derived.Test.YtlhmikjjnndjcaaSpLaw8
import Derived.Test.YtlhmikjjnndjcaaAiT
set_option linter.all false
namespace Go.AI
variable {A : Type} {R : Adts A}
/-- A call of a disk's. -/
structure DAct where
  kind : Int
  sector : Int
  s : Bs
  whole : Bool
  mask : Int
  torn : Int
def DAct.row (a : DAct) : List AVal := [.int .i64 a.kind, .int .i64 a.sector, .str a.s, .bool a.whole, .int .i64 a.mask, .int .i64 a.torn]
def IsDActs (a : AVal) (l : List DAct) : Prop := (a = .nils ∧ l = []) ∨ ∃ b o cap, a = .lst b o l.length cap (l.flatMap DAct.row)
theorem flat_drop {α β : Type} {f : α → List β} {n : Nat} (hf : ∀ x, (f x).length = n) : ∀ (l : List α) (i : Nat) (h : i < l.length), (l.flatMap f).drop (i * n) = f l[i] ++ (l.drop (i + 1)).flatMap f
  | [], i, h => by simp at h
  | a :: r, 0, h => by simp
  | a :: r, i + 1, h => by
    have := flat_drop hf r i (by simpa using h)
    have e1 : (i + 1) * n = (f a).length + i * n := by rw [hf, Nat.succ_mul]; omega
    rw [e1, ← List.drop_drop, List.flatMap_cons, List.drop_left, this]
    simp
theorem IsDActs.len {a : AVal} {l : List DAct} (h : IsDActs a l) (K : AVal → Prop) : lenP a K = K (.int .i64 l.length) := by
  rcases h with ⟨rfl, rfl⟩ | ⟨b, o, cap, rfl⟩ <;> simp
theorem IsDActs.get {a : AVal} {l : List DAct} (h : IsDActs a l) {n : Int} (h0 : 0 ≤ n) (h1 : n < l.length) : ∃ x b o cs, x ∈ l ∧ ∀ K, idxP 6 a (.int .i64 n) K = K (.fp b o (.int .i64 x.kind :: .int .i64 x.sector :: .str x.s :: .bool x.whole :: .int .i64 x.mask :: .int .i64 x.torn :: cs)) := by
  rcases h with ⟨rfl, rfl⟩ | ⟨b, o, cap, rfl⟩
  · simp at h1; omega
  · have h2 : n.toNat < l.length := by omega
    refine ⟨l[n.toNat], b, o + n.toNat * 6, (l.drop (n.toNat + 1)).flatMap DAct.row, List.getElem_mem h2, fun K => ?_⟩
    rw [idxP_l K 6 b o l.length cap _ .i64 n h0 h1, flat_drop (n := 6) (fun x => rfl) l n.toNat h2]
    rfl
theorem rdisk_New_at (hR : R.Ok) {mk : List Bs → Ws → Bool → A} (hB : HasRDisk R mk) {n : Int} {k : List Bs} (hn : 1 ≤ n ∧ n ≤ 256) (he : List.replicate n.toNat zSec = k) {h : AHeap A} {K : AVal → AHeap A → Prop}
    (hk : K (.tup [.ptr h.length 0, .int .i64 0]) (h ++ [.adt (mk k [] false)])) : Tri Pr R n_ref1_NewDisk [.int .i64 n] h K := by
  refine rdisk_New_ok hR hB n ?_
  rw [if_pos hn, he]; exact hk
theorem dacts_TR {P : Program} {n : Nat} {t e i s b : TypeId} {f0 f1 f2 f3 f4 f5 : Field} {us : List AVal} (hu : P.underlying t = some (.slice e)) (he : P.underlying e = some (.struct #[f0, f1, f2, f3, f4, f5]))
    (hi : P.underlying i = some (.int .i64)) (hs : P.underlying s = some .string) (hb : P.underlying b = some .bool) (hc : P.cellsOf e = 6) (ci : P.cellsOf i = 1) (cs : P.cellsOf s = 1) (cb : P.cellsOf b = 1)
    (hf : (f0.type = i ∧ f0.offset = 0) ∧ (f1.type = i ∧ f1.offset = 1) ∧ (f2.type = s ∧ f2.offset = 2) ∧ (f3.type = b ∧ f3.offset = 3) ∧ (f4.type = i ∧ f4.offset = 4) ∧ (f5.type = i ∧ f5.offset = 5)) (h : TR P (n + 3) t us) :
    ∃ a l, us = [a] ∧ IsDActs a l ∧ ∀ x ∈ l, x.s.length ≤ reachBytes := by
  obtain ⟨⟨t0, o0⟩, ⟨t1, o1⟩, ⟨t2, o2⟩, ⟨t3, o3⟩, ⟨t4, o4⟩, ⟨t5, o5⟩⟩ := hf
  rcases TR_slice hu h with rfl | ⟨b', o, len, cap, rows, rfl, h1, h2, h3, h4⟩
  · exact ⟨_, [], rfl, .inl ⟨rfl, rfl⟩, by simp⟩
  · have : ∃ l : List DAct, rows = l.map DAct.row ∧ ∀ x ∈ l, x.s.length ≤ reachBytes := by
      clear h1 h2 h3 h
      induction rows with
      | nil => exact ⟨[], rfl, by simp⟩
      | cons r rs ih =>
        obtain ⟨l, rfl, hl⟩ := ih fun r hr => h4 r (by simp [hr])
        obtain ⟨hr, h5⟩ := h4 r (by simp)
        rw [hc] at hr
        obtain ⟨r0, r1, r2, r3, r4, r5, rfl⟩ := len_6 hr
        obtain ⟨_, h6⟩ := TR_struct he h5
        have g0 := h6 0 f0 rfl
        have g1 := h6 1 f1 rfl
        have g2 := h6 2 f2 rfl
        have g3 := h6 3 f3 rfl
        have g4 := h6 4 f4 rfl
        have g5 := h6 5 f5 rfl
        rw [t0, o0, ci] at g0
        rw [t1, o1, ci] at g1
        rw [t2, o2, cs] at g2
        rw [t3, o3, cb] at g3
        rw [t4, o4, ci] at g4
        rw [t5, o5, ci] at g5
        obtain ⟨x0, e0, _⟩ := TR_int hi g0
        obtain ⟨x1, e1, _⟩ := TR_int hi g1
        obtain ⟨x2, e2, q2⟩ := TR_string hs g2
        obtain ⟨x3, e3⟩ := TR_bool hb g3
        obtain ⟨x4, e4, _⟩ := TR_int hi g4
        obtain ⟨x5, e5, _⟩ := TR_int hi g5
        simp at e0 e1 e2 e3 e4 e5
        subst e0 e1 e2 e3 e4 e5
        refine ⟨⟨x0, x1, x2, x3, x4, x5⟩ :: l, rfl, fun y hy => ?_⟩
        rcases List.mem_cons.1 hy with rfl | hy
        · exact q2
        · exact hl y hy
    obtain ⟨l, rfl, hl⟩ := this
    subst h3
    refine ⟨_, l, rfl, .inr ⟨b', o, cap, ?_⟩, hl⟩
    rw [List.length_map, List.flatMap]
section
variable {mk : List Bs → Ws → Bool → A}
theorem disk_low (hB : HasDisk R mk) (k : List Bs) (w : Ws) (d : Bool) {m : Nat} : AObj.low R m (.adt (mk k w d)) := ⟨disk_ix hB _ _ _ _, fun τ _ => disk_ren hB _ _ _ _⟩
theorem rdisk_low (hB : HasRDisk R mk) (k : List Bs) (w : Ws) (d : Bool) {m : Nat} : AObj.low R m (.adt (mk k w d)) := ⟨rdisk_ix hB _ _ _ _, fun τ _ => rdisk_ren hB _ _ _ _⟩
end
section
variable {mk rk : List Bs → Ws → Bool → A}
def DisksI (mk rk : List Bs → Ws → Bool → A) (n : Nat) (m : Nat) (y : List AVal) (g : AHeap A) : Prop :=
  ∃ (i : Int) (k : List Bs) (w : Ws) (d : Bool), y = [.int .i64 i] ∧ g = [.adt (mk k w d), .adt (rk k w d)] ∧ dOk k w ∧ k.length = n ∧ w.length ≤ i ∧ 0 ≤ i ∧ i ≤ 80 ∧ m = (80 - i).toNat
def DisksS (o : AHeap A) (vs : List AVal) (g : AHeap A) : Prop := ∃ s : Bs, s.length + 64 < 9223372036854775808 ∧ vs = [.str s] ∧ g = o
def DisksJ (mk rk : List Bs → Ws → Bool → A) (n m : Nat) (o : AObj A) (vs : List AVal) (g : AHeap A) : Prop :=
  ∃ (k' : List Bs) (w' : Ws) (d' : Bool) (e : Int), dOk k' w' ∧ k'.length = n ∧ w'.length ≤ m + 1 ∧ vs = [.int .i64 e, .int .i64 e] ∧ g = [.adt (mk k' w' d'), .adt (rk k' w' d'), o]
def DisksR (mk rk : List Bs → Ws → Bool → A) (k : List Bs) (w : Ws) (d : Bool) (o : AObj A) (m : Nat) (y : List AVal) (g : AHeap A) : Prop :=
  ∃ j : Int, y = [.int .i64 j] ∧ g = [.adt (mk k w d), .adt (rk k w d), o] ∧ -1 ≤ j ∧ j ≤ 300 ∧ m = (300 - j).toNat
theorem Disks_ok (hR : R.Ok) (hB : HasDisk R mk) (hB' : HasRDisk R rk) (n : Int) (a : AVal) (l : List DAct) (ha : IsDActs a l) (hl : ∀ x ∈ l, x.s.length + 64 < 9223372036854775808) :
    Tri Pr R n_law8_Disks [.int .i64 n, a] [] fun u _ => u = .bool true := by
  apply c_law8_Disks
  unfold p_law8_Disks
  by_cases hn : 1 ≤ n ∧ n ≤ 256
  · obtain ⟨k0, ek0⟩ : ∃ k, List.replicate n.toNat zSec = k := ⟨_, rfl⟩
    have o0 : dOk k0 [] := by rw [← ek0]; exact dOk_new hn
    have kl : k0.length = n.toNat := by rw [← ek0]; simp
    refine disk_New_at hR hB hn ek0 ?_
    simp -implicitDefEqProofs
    refine rdisk_New_at hR hB' hn ek0 ?_
    clear ek0
    simp -implicitDefEqProofs
    refine num14_ok ?_
    simp -implicitDefEqProofs
    refine loopP_go (DisksI mk rk n.toNat) 80 (Gives.done (by simp) ⟨0, k0, [], false, rfl, rfl, o0, kl, by simp, by omega, by omega, rfl⟩) ?_
    rintro m y g ⟨i, k, w, d, rfl, rfl, ok, kl, wl, i0, i1, rfl⟩
    have e2 := w64 (n := i + 1) (by omega)
    simp -implicitDefEqProofs [ha.len]
    refine iteP_of (fun h1 => iteP_of (fun h2 => ?_) (fun h2 => ?_)) (fun h1 => ?_)
    · simp at h1 h2
      obtain ⟨x, bb, oo, cs, hx, hg⟩ := ha.get i0 h1
      have hxl := hl x hx
      simp -implicitDefEqProofs [hg]
      obtain ⟨o, ho⟩ : ∃ o : AObj A, .cells t_bastionlaw8_Act [.int .i64 x.kind, .int .i64 x.sector, .str x.s, .bool x.whole, .int .i64 x.mask, .int .i64 x.torn] = o := ⟨_, rfl⟩
      refine joinP_all (DisksS [.adt (mk k w d), .adt (rk k w d), .cells t_bastionlaw8_Act [.int .i64 x.kind, .int .i64 x.sector, .str x.s, .bool x.whole, .int .i64 x.mask, .int .i64 x.torn]]) ?_ ?_
      · refine iteP_of (fun h3 => ?_) (fun h3 => ?_)
        · refine law8_sectorOf_ok hR _ hxl ?_
          exact ⟨_, by rw [sec_len]; omega, rfl, rfl⟩
        · exact ⟨_, hxl, rfl, rfl⟩
      rintro _ _ ⟨s, hs, rfl, rfl⟩
      refine ⟨by simp, ?_⟩
      simp -implicitDefEqProofs
      refine joinP_all (DisksJ mk rk k.length w.length (.cells t_bastionlaw8_Act [.int .i64 x.kind, .int .i64 x.sector, .str x.s, .bool x.whole, .int .i64 x.mask, .int .i64 x.torn])) ?_ ?_
      · refine iteP_of (fun h3 => ?_) (fun h3 => iteP_of (fun h4 => ?_) (fun h4 => iteP_of (fun h5 => ?_) (fun h5 => iteP_of (fun h6 => ?_) (fun h6 => ?_))))
        · refine disk_Write_ok hR hB ok (by omega) _ _ rfl ?_
          simp -implicitDefEqProofs
          refine num14_ok ?_
          simp -implicitDefEqProofs
          refine rdisk_Write_ok hR hB' ok (by omega) _ _ rfl ?_
          simp -implicitDefEqProofs
          exact ⟨_, _, _, _, (dOk_any ok).1, rfl, (dOk_any ok).2, rfl, rfl⟩
        · refine disk_Flush_ok hR hB ok (by omega) rfl ?_
          cases d with
          | true =>
            simp -implicitDefEqProofs
            refine num14_ok ?_
            refine rdisk_Flush_ok hR hB' ok (by omega) rfl ?_
            simp -implicitDefEqProofs
            exact ⟨_, _, _, _, ok, rfl, by omega, rfl, rfl⟩
          | false =>
            simp -implicitDefEqProofs
            refine num14_ok ?_
            refine rdisk_Flush_ok hR hB' ok (by omega) rfl ?_
            simp -implicitDefEqProofs
            exact ⟨_, _, _, _, dOk_put ok, dPut_len _ _, by simp, rfl, rfl⟩
        · skip
          refine disk_Crash_ok hR hB ok (by omega) _ _ rfl ?_
          cases d with
          | true =>
            simp -implicitDefEqProofs
            refine num14_ok ?_
            simp -implicitDefEqProofs
            refine rdisk_Crash_ok hR hB' ok (by omega) _ _ rfl ?_
            simp -implicitDefEqProofs
            exact ⟨_, _, _, _, ok, rfl, by omega, rfl, rfl⟩
          | false =>
            by_cases hm : x.mask < 0 ∨ x.torn < 0
            · simp -implicitDefEqProofs [hm]
              refine num14_ok ?_
              simp -implicitDefEqProofs
              refine rdisk_Crash_ok hR hB' ok (by omega) _ _ rfl ?_
              simp -implicitDefEqProofs [hm]
              exact ⟨_, _, _, _, ok, rfl, by omega, rfl, rfl⟩
            · simp -implicitDefEqProofs [hm]
              refine num14_ok ?_
              simp -implicitDefEqProofs
              refine rdisk_Crash_ok hR hB' ok (by omega) _ _ rfl ?_
              simp -implicitDefEqProofs [hm]
              exact ⟨_, _, _, _, dOk_lost ok (by omega), by unfold dLost; exact dCr_len _ _ _ _ _, by simp, rfl, rfl⟩
        · refine disk_Restart_ok hR hB rfl ?_
          simp -implicitDefEqProofs
          refine num14_ok ?_
          refine rdisk_Restart_ok hR hB' rfl ?_
          simp -implicitDefEqProofs
          exact ⟨_, _, _, _, ok, rfl, by omega, rfl, rfl⟩
        · exact ⟨k, w, d, 0, ok, rfl, by omega, rfl, rfl⟩
      rintro _ _ ⟨k', w', d', e, ok', kl', wl', rfl, rfl⟩
      refine ⟨by simp, ?_⟩
      simp -implicitDefEqProofs
      refine disk_Waits_ok hR hB rfl ?_
      refine rdisk_Waits_ok hR hB' rfl ?_
      simp -implicitDefEqProofs
      refine loopP_go (DisksR mk rk k' w' d' (.cells t_bastionlaw8_Act [.int .i64 x.kind, .int .i64 x.sector, .str x.s, .bool x.whole, .int .i64 x.mask, .int .i64 x.torn])) 301 (Gives.done (by simp) ⟨-1, rfl, rfl, by omega, by omega, rfl⟩) ?_
      rintro m y g ⟨j, rfl, rfl, j0, j1, rfl⟩
      have e3 := w64 (n := j + 1) (by omega)
      simp -implicitDefEqProofs
      refine iteP_of (fun h3 => ?_) (fun h3 => ?_)
      · refine disk_Read_ok hR hB ok' (by omega) _ rfl ?_
        simp -implicitDefEqProofs
        refine rdisk_Read_ok hR hB' ok' (by omega) _ rfl ?_
        simp -implicitDefEqProofs
        refine num14_ok ?_
        simp -implicitDefEqProofs [e3]
        simp at h3
        refine Gives.done (by simp) ⟨(300 - (j + 1)).toNat, by omega, j + 1, rfl, rfl, by omega, by omega, rfl⟩
      · simp -implicitDefEqProofs [e2]
        refine Gives.cut hR (m := 2) (by omega) (by simp) rfl (by simp; exact ⟨disk_low hB _ _ _, rdisk_low hB' _ _ _⟩) ?_
        exact ⟨(80 - (i + 1)).toNat, by omega, i + 1, k', w', d', rfl, rfl, ok', by omega, by omega, by omega, by omega, rfl⟩
    all_goals
      refine awake8_ok hR hB ?_
      simp
  · refine disk_New_bad hR hB hn ?_
    simp -implicitDefEqProofs
    refine rdisk_New_ok hR hB' n ?_
    rw [if_neg hn]
    simp -implicitDefEqProofs
    refine num14_ok ?_
    simp -implicitDefEqProofs
    refine awake8_ok hR hB ?_
    simp -implicitDefEqProofs
end
end Go.AI
