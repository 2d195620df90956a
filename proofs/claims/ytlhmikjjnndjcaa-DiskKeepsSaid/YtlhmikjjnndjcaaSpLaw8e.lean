/- DiskKeeps. -/
import Derived.Test.YtlhmikjjnndjcaaSpLaw8d
set_option linter.all false
namespace Go.AI
variable {A : Type} {R : Adts A}
theorem room8 {n : Nat} (h : n ≤ 1000) : (2 * (n + 1) + 1000) * 8 ≤ 140737488355328 := by omega
theorem room16 {n : Nat} (h : n ≤ 1000) : (2 * (n + 1) + 1000) * 16 ≤ 140737488355328 := by omega
theorem Gives.sel2 (hR : R.Ok) {n : Nat} (base : AHeap A) (o1 o2 : AObj A) (a b : Nat) (vs vs2 : List AVal) {h : AHeap A} {K : List AVal → AHeap A → Prop} (he : ∀ k, k < base.length → h[k]? = base[k]?) (ha : h[a]? = some o1) (hb : h[b]? = some o2) (hab : base.length ≤ a ∧ base.length ≤ b ∧ a ≠ b)
    (hn : n ≤ base.length) (hl : ∀ o ∈ base, o.low R base.length) (h1 : o1.ix R (base.length + 2) ∧ ∀ τ, o1.ren R τ = o1) (h2 : o2.ix R (base.length + 2) ∧ ∀ τ, o2.ren R τ = o2)
    (hv : vs = rens (fun k => if k = base.length then a else if k = base.length + 1 then b else k) vs2) (hx : ixs (base.length + 2) vs2 = true) (hk : K vs2 (base ++ [o1, o2])) : Gives Pr R n h vs K := by
  have hat : ∀ k, k < base.length → at_ (List.range base.length ++ [a, b]) h.length k = k := fun k hk => at_get (by rw [List.getElem?_append_left (by simpa using hk)]; simp [hk])
  have hat1 : at_ (List.range base.length ++ [a, b]) h.length base.length = a := at_get (by rw [List.getElem?_append_right (by simp)]; simp)
  have hat2 : at_ (List.range base.length ++ [a, b]) h.length (base.length + 1) = b := at_get (by rw [List.getElem?_append_right (by simp)]; simp)
  refine Gives.keep hR (List.range base.length ++ [a, b]) (h2 := base ++ [o1, o2]) (vs2 := vs2) ⟨by simp, ?_, fun k o' hk => ?_, fun o' ho' => ?_⟩ ?_ (by simpa using hx) (fun k hk => by rw [List.getElem?_append_left (by simp; omega), List.getElem?_range (by omega)]) (Gives.done (by simp; omega) hk)
  · rw [List.nodup_append]
    refine ⟨List.nodup_range, by simpa using hab.2.2, fun x hx y hy => ?_⟩
    simp at hx hy; omega
  · by_cases hkb : k < base.length
    · rw [List.getElem?_append_left hkb] at hk
      refine ⟨k, by rw [List.getElem?_append_left (by simpa using hkb)]; simp [hkb], ?_⟩
      rw [(hl o' (List.mem_of_getElem? hk)).2 _ hat, he k hkb, hk]
    · have hk2 : k < base.length + 2 := by have := (List.getElem?_eq_some_iff.1 hk).1; simpa using this
      rw [List.getElem?_append_right (by omega)] at hk
      rcases (by omega : k = base.length ∨ k = base.length + 1) with rfl | rfl
      · simp at hk; subst hk
        exact ⟨a, by rw [List.getElem?_append_right (by simp)]; simp, by rw [ha, h1.2]⟩
      · simp at hk; subst hk
        exact ⟨b, by rw [List.getElem?_append_right (by simp)]; simp, by rw [hb, h2.2]⟩
  · rcases List.mem_append.1 ho' with h3 | h3
    · exact AObj.ix_mono (R := R) (by simp) (hl o' h3).1
    · simp at h3
      rcases h3 with rfl | rfl
      · simpa using h1.1
      · simpa using h2.1
  · rw [hv]
    refine rens_agree (m := base.length + 2) (fun k hk => ?_) vs2 hx
    by_cases hkb : k = base.length
    · subst hkb; rw [hat1, if_pos rfl]
    · by_cases hkb2 : k = base.length + 1
      · subst hkb2; rw [hat2, if_neg hkb, if_pos rfl]
      · rw [hat k (by omega), if_neg hkb, if_neg hkb2]
/-- Two rows that grow: sectors, texts. -/
def KRows (w : Ws) (x y : AVal) (rs : AHeap A) : Prop :=
  (w = [] ∧ x = .nils ∧ y = .nils ∧ rs = []) ∨ (w ≠ [] ∧ x = .sl 2 0 w.length w.length false ∧ y = .sl 3 0 w.length w.length false ∧ rs = [.cells t_int ((w.map (·.1)).map (.int .i64)), .cells t_string ((w.map (·.2)).map .str)])
theorem KRows.len {w : Ws} {x y : AVal} {rs : AHeap A} (h : KRows w x y rs) (K : AVal → Prop) : lenP x K = K (.int .i64 w.length) := by
  rcases h with ⟨rfl, rfl, rfl, rfl⟩ | ⟨_, rfl, rfl, rfl⟩ <;> simp
theorem cells_ints {t : TypeId} {m : Nat} (l : List Int) : (AObj.cells t (l.map (.int .i64)) : AObj A).ix R m ∧ ∀ τ, (AObj.cells t (l.map (.int .i64)) : AObj A).ren R τ = .cells t (l.map (.int .i64)) := by
  have h1 : ∀ m, ixs m (l.map (.int .i64)) = true := fun m => by simp [ixs_all, AVal.ix]
  exact ⟨h1 m, fun τ => by simp only [AObj.ren]; rw [rens_ix0 τ _ (h1 0)]⟩
theorem cells_strs {t : TypeId} {m : Nat} (l : List Bs) : (AObj.cells t (l.map .str) : AObj A).ix R m ∧ ∀ τ, (AObj.cells t (l.map .str) : AObj A).ren R τ = .cells t (l.map .str) :=
  ⟨strs_ix _ _, fun τ => by simp only [AObj.ren]; rw [rens_ix0 τ _ (strs_ix 0 _)]⟩
section
variable {mk : List Bs → Ws → Bool → A}
def KeepsI (mk : List Bs → Ws → Bool → A) (f n : Int) (m : Nat) (y : List AVal) (g : AHeap A) : Prop :=
  ∃ (i : Int) (k : List Bs) (w : Ws) (x1 x2 : AVal) (rs : AHeap A), y = [x1, x2, .int .i64 i] ∧ g = [.adt (mk k w false), .cells t_arr4_string (k.map .str)] ++ rs ∧ KRows w x1 x2 rs ∧ dOk k w ∧ k.length = 4 ∧ w.length ≤ i ∧ (i ≤ f → w = []) ∧ 0 ≤ i ∧ i ≤ n ∧ m = (n - i).toNat
def KeepsC (mk : List Bs → Ws → Bool → A) (mask torn : Int) (k k' : List Bs) (w : Ws) (rs : AHeap A) (m : Nat) (y : List AVal) (g : AHeap A) : Prop :=
  ∃ i : Nat, y = [.bool (!(dCr mask torn k w i).2), .int .i64 i] ∧ g = [.adt (mk k' [] false), .cells t_arr4_string ((dCr mask torn k w i).1.map .str)] ++ rs ∧ i ≤ w.length ∧ m = w.length - i
def KeepsR (mk : List Bs → Ws → Bool → A) (k : List Bs) (rs : AHeap A) (m : Nat) (y : List AVal) (g : AHeap A) : Prop :=
  ∃ j : Nat, y = [.int .i64 j] ∧ g = [.adt (mk k [] false), .cells t_arr4_string (k.map .str)] ++ rs ∧ j ≤ 4 ∧ m = 4 - j
theorem DiskKeeps_ok (hR : R.Ok) (hB : HasDisk R mk) (a : AVal) (l : List Int) (ha : IsInts a l) (flush mask torn : Int) : Tri Pr R n_law8_DiskKeeps [a, .int .i64 flush, .int .i64 mask, .int .i64 torn] [] fun u _ => u = .bool true := by
  apply c_law8_DiskKeeps
  unfold p_law8_DiskKeeps
  refine awake8_ok hR hB ?_
  simp -implicitDefEqProofs
  obtain ⟨k0, ek0⟩ : ∃ k, List.replicate (4 : Int).toNat zSec = k := ⟨_, rfl⟩
  have es : sec [] = zSec := by simp [sec, zSec]
  have kl : k0.length = 4 := by rw [← ek0]; rfl
  have o0 : dOk k0 [] := by rw [← ek0]; exact dOk_new (by omega)
  refine disk_New_at hR hB (k := k0) (by omega) ek0 ?_
  simp -implicitDefEqProofs
  refine num14_ok ?_
  simp -implicitDefEqProofs
  refine loopP_go (FillI t_arr4_string 4 [.adt (mk k0 [] false)]) 4 (Gives.done (by simp) ⟨0, rfl, rfl, by omega, rfl⟩) ?_
  rintro m y g ⟨i, rfl, rfl, hi, rfl⟩
  have e1 := w64 (n := (i : Int) + 1) (by omega)
  simp -implicitDefEqProofs
  refine iteP_of (fun h1 => ?_) (fun h1 => ?_)
  · simp at h1
    have h1' : i < 4 := by omega
    refine sec_at hR (by decide) es ?_
    have hso := fun g : AHeap A => setO_one g 1 i (.str zSec) t_arr4_string ((List.replicate i zSec ++ List.replicate (4 - i) []).map .str) rfl (by simp; omega)
    simp at hso
    simp -implicitDefEqProofs [h1, hso, e1]
    refine Gives.done (by simp) ⟨4 - (i + 1), by omega, i + 1, rfl, ?_, by omega, rfl⟩
    have := congrArg (List.map AVal.str) (fill_set i 4 h1')
    simp at this
    simp [this]
  · simp at h1
    obtain rfl : i = 4 := by omega
    have hd : k0.map AVal.str = List.replicate 4 (AVal.str zSec) := by rw [← ek0]; rfl
    clear ek0
    simp -implicitDefEqProofs [ha.len]
    obtain ⟨n, hn, n0, n1, n2⟩ : ∃ n : Int, (if 20 < (l.length : Int) then 20 else (l.length : Int)) = n ∧ 0 ≤ n ∧ n ≤ 20 ∧ n ≤ l.length := ⟨_, rfl, by split <;> omega, by split <;> omega, by split <;> omega⟩
    rw [hn]
    obtain ⟨f, hf, f0, f1⟩ : ∃ f, (IntKind.u64.wrap flush).tmod (n + 1) = f ∧ 0 ≤ f ∧ f < n + 1 := by
      have h1 : 0 ≤ IntKind.u64.wrap flush := by simp [IntKind.wrap, IntKind.signed, IntKind.bits]; omega
      exact ⟨_, rfl, Int.tmod_nonneg _ h1, Int.tmod_lt_of_pos _ (by omega)⟩
    have e2 := w64 (n := n + 1) (by omega)
    have e3 := wu64 (n := n + 1) (by omega)
    have e4 := w64 (n := f) (by omega)
    have e5 : ¬ n + 1 = 0 := by omega
    simp -implicitDefEqProofs [e2, e3, hf, e4, e5]
    refine loopP_go (KeepsI mk f n) n.toNat (Gives.done (by simp) ⟨0, k0, [], _, _, [], rfl, by rw [hd]; rfl, .inl ⟨rfl, rfl, rfl, rfl⟩, o0, kl, by simp, fun _ => rfl, by omega, n0, by omega⟩) ?_
    rintro m y g ⟨i, k, w, x1, x2, rs, rfl, rfl, hrow, ok, kl', wl, hw0, i0, i1, rfl⟩
    have e6 := w64 (n := i + 1) (by omega)
    simp -implicitDefEqProofs
    refine iteP_of (fun h2 => ?_) (fun h2 => ?_)
    · simp at h2
      obtain ⟨bb, oo, cs, hg⟩ := ha.get i0 (by omega)
      generalize l.getD i.toNat 0 = s0 at hg
      simp -implicitDefEqProofs [hg]
      refine joinP_go ?_
      simp -implicitDefEqProofs
      rw [bits_mask s0 2 (by omega) 3 (by decide)]
      obtain ⟨q, hq, q0, q1⟩ : ∃ q, s0 % 2 ^ 2 = q ∧ 0 ≤ q ∧ q < 4 := ⟨_, rfl, by omega, by omega⟩
      rw [hq]
      refine Decimal_some hR i i0 (by omega) fun s hs => ?_
      have h4 : 1 + s.length < 9223372036854775808 := by omega
      simp -implicitDefEqProofs [h4]
      refine law8_sectorOf_ok hR _ (by simp; omega) ?_
      generalize hss : sec (119 :: s) = s1
      have l1 : s1.length = 64 := by rw [← hss]; exact sec_len _
      refine disk_Write_at hR hB ok (by omega) (dWrite_good (by omega)) rfl ?_
      simp -implicitDefEqProofs
      refine num14_ok ?_
      simp -implicitDefEqProofs
      have okw := dOk_write (x := q) (s := s1) ok (by omega)
      refine iteP_of (fun h5 => ?_) (fun h5 => ?_)
      · simp at h5
        obtain rfl := hw0 (by omega)
        rcases hrow with ⟨_, rfl, rfl, rfl⟩ | ⟨hne, _⟩
        · have hput : dPut k ([] ++ [(q, s1)]) = k.set q.toNat s1 := rfl
          refine disk_Flush_at hR hB okw (by simp) hput rfl ?_
          have hso := fun g : AHeap A => setO_one g 1 q.toNat (.str s1) t_arr4_string (k.map .str) rfl (by simp; omega)
          simp -implicitDefEqProofs [q0, q1, hso]
          refine num14_ok ?_
          simp -implicitDefEqProofs [e6]
          have := dOk_put okw
          rw [hput] at this
          exact Gives.done (by simp) ⟨(n - (i + 1)).toNat, by omega, i + 1, k.set q.toNat s1, [], _, _, [], rfl, by simp, .inl ⟨rfl, rfl, rfl, rfl⟩, this, by simpa using kl', by simp; omega, fun _ => rfl, by omega, by omega, rfl⟩
        · exact absurd rfl hne
      · simp at h5
        have fin : ∀ (h : AHeap A) (a b : Nat), h[0]? = some (.adt (mk k (w ++ [(q, s1)]) false)) → h[1]? = some (.cells t_arr4_string (k.map .str)) → h[a]? = some (.cells t_int (((w ++ [(q, s1)]).map (·.1)).map (.int .i64))) → h[b]? = some (.cells t_string (((w ++ [(q, s1)]).map (·.2)).map .str)) → (2 ≤ a ∧ 2 ≤ b ∧ a ≠ b) →
            Gives Pr R 2 h [.sl a 0 (w.length + 1) (w.length + 1) false, .sl b 0 (w.length + 1) (w.length + 1) false, .int .i64 (i + 1)] fun z k => ∃ m' : Nat, (m' : Int) < n - i ∧ KeepsI mk f n m' z k := by
          intro h a b g0 g1 ga gb hab
          have lw := fun m => disk_low (R := R) hB k (w ++ [(q, s1)]) false (m := m)
          refine Gives.sel2 hR [.adt (mk k (w ++ [(q, s1)]) false), .cells t_arr4_string (k.map .str)] _ _ a b _ [.sl 2 0 (w.length + 1) (w.length + 1) false, .sl 3 0 (w.length + 1) (w.length + 1) false, .int .i64 (i + 1)] (fun j hj => ?_) ga gb hab (by simp) (by simp; exact ⟨lw _, strs_low _⟩)
            ⟨(cells_ints _).1, (cells_ints (m := 0) _).2⟩ ⟨(cells_strs _).1, (cells_strs (m := 0) _).2⟩ (by simp [rens, AVal.ren]) rfl ?_
          · match j, hj with
            | 0, _ => exact g0
            | 1, _ => exact g1
          · exact ⟨(n - (i + 1)).toNat, by omega, i + 1, k, w ++ [(q, s1)], _, _, _, rfl, rfl, .inr ⟨by simp, by simp, by simp, rfl⟩, okw, kl', by simp; omega, fun h => by omega, by omega, by omega, rfl⟩
        rcases hrow with ⟨rfl, rfl, rfl, rfl⟩ | ⟨hne, rfl, rfl, rfl⟩
        · simp -implicitDefEqProofs [appP, appV, srcOf, cellsAt, e6]
          exact fin _ 3 5 rfl rfl rfl rfl (by decide)
        · have hwl : w.length ≤ 20 := by omega
          have h6 : ¬ w.length + 1 ≤ w.length := by omega
          have h7 : (2 * (w.length + 1) + 1000) * 8 ≤ 140737488355328 := room8 (by omega)
          have h8 : (2 * (w.length + 1) + 1000) * 16 ≤ 140737488355328 := room16 (by omega)
          have t1 : List.take w.length (w.map (AVal.int IntKind.i64 ∘ fun x => x.fst)) = w.map (AVal.int IntKind.i64 ∘ fun x => x.fst) := List.take_of_length_le (by simp)
          have t2 : List.take w.length (w.map (AVal.str ∘ fun x => x.snd)) = w.map (AVal.str ∘ fun x => x.snd) := List.take_of_length_le (by simp)
          simp -implicitDefEqProofs [appP, appV, srcOf, cellsAt, e6, h6, h7, h8, t1, t2]
          exact fin _ 5 7 rfl rfl (by simp) (by simp) (by decide)
    · simp at h2
      refine disk_Waits_ok hR hB rfl ?_
      simp -implicitDefEqProofs [hrow.len]
      rw [bits_mask mask 30 (by omega) 1073741823 (by decide), bits_mask torn 7 (by omega) 127 (by decide)]
      obtain ⟨p, hp, p0⟩ : ∃ q, mask % 2 ^ 30 = q ∧ 0 ≤ q := ⟨_, rfl, by omega⟩
      obtain ⟨q, hq, q0⟩ : ∃ q, torn % 2 ^ 7 = q ∧ 0 ≤ q := ⟨_, rfl, by omega⟩
      rw [hp, hq]
      obtain ⟨k', ek⟩ : ∃ k', dLost p q k w = k' := ⟨_, rfl⟩
      have ok' := dOk_lost (mask := p) ok q0
      rw [ek] at ok'
      refine disk_Crash_at hR hB ok (by omega) ⟨p0, q0⟩ ek rfl ?_
      simp -implicitDefEqProofs
      refine disk_Restart_at hR hB rfl ?_
      simp -implicitDefEqProofs
      refine loopP_go (KeepsC mk p q k k' w rs) w.length (Gives.done (by simp) ⟨0, rfl, rfl, by omega, rfl⟩) ?_
      rintro m y g ⟨i, rfl, rfl, hi, rfl⟩
      have e7 := w64 (n := (i : Int) + 1) (by omega)
      have e8 := wu64 (n := (i : Int)) (by omega)
      simp -implicitDefEqProofs [hrow.len]
      refine iteP_of (fun h3 => ?_) (fun h3 => ?_)
      · simp at h3
        rcases hrow with ⟨rfl, rfl, rfl, rfl⟩ | ⟨hne, rfl, rfl, rfl⟩
        · simp at h3
        · simp -implicitDefEqProofs [h3, e7, e8]
          obtain ⟨u0, u1, u2⟩ := ok.wait w[i] (List.getElem_mem h3)
          have u1' : w[i].1 < 4 := by omega
          have hg : w.getD i (0, []) = w[i] := by simp [List.getD_eq_getElem?_getD, h3]
          have hdl := dCr_len p q k w i
          have hfl := dCr_full (mask := p) ok q0 i hi
          have hlt : w[i].1.toNat < (dCr p q k w i).1.length := by omega
          have hol := hfl _ (List.getElem_mem hlt)
          have hso := fun (g : AHeap A) (s : Bs) => setO_one g 1 w[i].1.toNat (.str s) t_arr4_string ((dCr p q k w i).1.map .str) rfl (by simp; omega)
          have hnx : dCr p q k w (i + 1) = if dKeep p i = true then ((dCr p q k w i).1.set w[i].1.toNat w[i].2, (dCr p q k w i).2) else if (dCr p q k w i).2 = true then ((dCr p q k w i).1.set w[i].1.toNat (dPiece q w[i].2 ((dCr p q k w i).1.getD w[i].1.toNat [])), false) else dCr p q k w i := by rw [dCr, hg]
          have fin : ∀ (k1 : List Bs) (b : Bool), dCr p q k w (i + 1) = (k1, b) → Gives Pr R 4 [.adt (mk k' [] false), .cells t_arr4_string (k1.map .str), .cells t_int ((w.map (·.1)).map (.int .i64)), .cells t_string ((w.map (·.2)).map .str)] [.bool (!b), .int .i64 ((i : Int) + 1)] fun z k_1 => ∃ m', m' < w.length - i ∧ KeepsC mk p q k k' w [.cells t_int ((w.map (·.1)).map (.int .i64)), .cells t_string ((w.map (·.2)).map .str)] m' z k_1 := by
            intro k1 b he
            exact Gives.done (by simp) ⟨w.length - (i + 1), by omega, i + 1, by simp [he], by simp [he], by omega, rfl⟩
          have hl20 : w.length ≤ 20 := by omega
          have h2 : i < 30 := by omega
          refine joinP_go ?_
          obtain ⟨c, hc, hcl⟩ : ∃ c : Nat, (if (64 : Int) < q then (64 : Int) else q) = (c : Int) ∧ c = min q.toNat 64 := ⟨_, by split <;> omega, rfl⟩
          have hc1 : c ≤ 64 := by omega
          have hc2 : (c : Int) ≤ 64 := by omega
          have hmin : min c 64 = c := by omega
          have hadd : c + (64 - c) < 9223372036854775808 := by omega
          have hbit := bits_and1 (p.fdiv (2 ^ min i IntKind.i64.bits))
          have hb2 : p.fdiv (2 ^ min i IntKind.i64.bits) % 2 = p / 2 ^ i % 2 := by
            rw [show min i IntKind.i64.bits = i from Nat.min_eq_left (by show i ≤ 64; omega), Int.fdiv_eq_ediv_of_nonneg _ (Int.le_of_lt (Int.pow_pos (by omega)))]
          rw [hb2] at hbit
          by_cases h4 : p / 2 ^ i % 2 = 1
          · simp -implicitDefEqProofs [hbit, h4, u0, u1', hso]
            have := fin _ _ (by rw [hnx, if_pos (by simp [dKeep, h2, h4])])
            simpa using this
          · have h4' : (p / 2 ^ i % 2 == 1) = false := by simp [h4]
            rw [if_neg (by simp [dKeep, h2, h4])] at hnx
            cases hf : (dCr p q k w i).2 with
            | true =>
              simp -implicitDefEqProofs [hbit, h4', hc, u0, u1', hlt, u2, hol, hc1, hc2, hmin, hadd, hso]
              have := fin _ _ (by rw [hnx, if_pos hf])
              simpa [dPiece, hcl, hlt] using this
            | false =>
              simp -implicitDefEqProofs [hbit, h4']
              have := fin _ false (by rw [hnx, if_neg (by simp [hf]), ← hf])
              simpa using this
      · simp at h3
        obtain rfl : i = w.length := by omega
        have ek2 : (dCr p q k w w.length).1 = k' := ek
        rw [ek2]
        refine loopP_go (KeepsR mk k' rs) 4 (Gives.done (by simp) ⟨0, rfl, rfl, by omega, rfl⟩) ?_
        rintro m y g ⟨j, rfl, rfl, hj, rfl⟩
        have e9 := w64 (n := (j : Int) + 1) (by omega)
        have hl' : k'.length = 4 := by rw [← ek]; unfold dLost; rw [dCr_len]; exact kl'
        simp -implicitDefEqProofs
        refine iteP_of (fun h4 => ?_) (fun h4 => ?_)
        · simp at h4
          have hlt : j < k'.length := by omega
          refine disk_Read_at hR hB ok' (by simp) (dRead_good (by omega)) rfl ?_
          simp -implicitDefEqProofs
          refine num14_ok ?_
          simp -implicitDefEqProofs [h4, dPut, hlt, e9]
          exact Gives.done (by simp) ⟨4 - (j + 1), by omega, j + 1, rfl, rfl, by omega, rfl⟩
        · refine num14_ok ?_
          simp -implicitDefEqProofs
          refine num14_ok ?_
          simp -implicitDefEqProofs
          refine disk_Waits_ok hR hB rfl ?_
          simp -implicitDefEqProofs
end
end Go.AI
