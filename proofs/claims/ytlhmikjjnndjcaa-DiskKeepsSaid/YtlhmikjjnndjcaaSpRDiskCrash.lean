/- The document's disk crashes; its new disks. -/
import Derived.Test.YtlhmikjjnndjcaaSpDiskCrash
set_option linter.all false
namespace Go.AI
variable {A : Type} {R : Adts A}
theorem Gives.pick2 (hR : R.Ok) {t t2 : TypeId} {m : Nat} {ex : Bool} {rest cs : List AVal} (j : Nat) {h : AHeap A} {vs : List AVal} {K : List AVal → AHeap A → Prop} (h0 : h[0]? = some (.cells t (.sl j 0 m m ex :: rest))) (hj : h[j]? = some (.cells t2 cs)) (hj0 : 0 ≠ j)
    (hr : ixs 0 rest = true) (hc : ixs 0 cs = true) (hv : ixs 0 vs = true) (hk : K vs [.cells t (.sl 1 0 m m ex :: rest), .cells t2 cs]) : Gives Pr R 1 h vs K := by
  have h1 : at_ [0, j] h.length 1 = j := at_get (by simp)
  refine Gives.keep hR [0, j] (h2 := [.cells t (.sl 1 0 m m ex :: rest), .cells t2 cs]) (vs2 := vs) ⟨by simp, by simpa using hj0, fun k o' hk => ?_, fun o' ho' => ?_⟩ (by rw [rens_ix0 _ _ hv]) (ixs_mono (Nat.zero_le _) _ hv) (fun k hk => match k, hk with | 0, _ => rfl) (Gives.done (by simp) hk)
  · match k, hk with
    | 0, hk => simp at hk; subst hk; exact ⟨0, rfl, by rw [h0]; simp [AObj.ren, rens, AVal.ren, h1, rens_ix0 _ _ hr]⟩
    | 1, hk => simp at hk; subst hk; exact ⟨j, rfl, by rw [hj]; simp [AObj.ren, rens_ix0 _ _ hc]⟩
    | k + 2, hk => simp at hk
  · simp at ho'
    rcases ho' with rfl | rfl
    · show ixs _ _ = true
      simp [ixs, AVal.ix]; exact ixs_mono (Nat.zero_le _) _ hr
    · exact ixs_mono (Nat.zero_le _) _ hc
section disk
variable {mk : List Bs → Ws → Bool → A}
theorem rdisk_Crash_ok (hR : R.Ok) (hB : HasRDisk R mk) {k : List Bs} {w : Ws} {d : Bool} (hok : dOk k w) (hw : w.length ≤ 1000) (mask torn : Int) {h : AHeap A} {b : Nat} (hb : h[b]? = some (.adt (mk k w d))) {K : AVal → AHeap A → Prop}
    (hk : if d = true then K (.int .i64 801) h else if mask < 0 ∨ torn < 0 then K (.int .i64 800) h else K (.int .i64 0) (h.set b (.adt (mk (dLost mask torn k w) [] true)))) : Tri Pr R n_ref1_Disk_Crash [.ptr b 0, .int .i64 mask, .int .i64 torn] h K := by
  refine Tri.own hR (as2 := [.ptr 0 0, .int .i64 mask, .int .i64 torn]) (Q := fun v o => if d = true then v = .int .i64 801 ∧ o = .adt (mk k w d) else if mask < 0 ∨ torn < 0 then v = .int .i64 800 ∧ o = .adt (mk k w d) else v = .int .i64 0 ∧ o = .adt (mk (dLost mask torn k w) [] true)) rfl (rdisk_ix hB _ _ _ _) ?_ (rdisk_ren hB _ _ _) ?_ hb (by simp [rens, AVal.ren]) ?_
  · intro v o hq
    split at hq
    · obtain ⟨rfl, rfl⟩ := hq; exact ⟨rfl, rdisk_ren hB _ _ _⟩
    · split at hq <;> (obtain ⟨rfl, rfl⟩ := hq; exact ⟨rfl, rdisk_ren hB _ _ _⟩)
  · refine Tri.post (Tri.pre (Gives.opened 0 rfl (by simp) fun g hg => ?_))
    obtain rfl := (hB.lay _ _ _ _).1 hg
    refine Gives.done (by simp) ?_
    apply c_ref1_Disk_Crash
    unfold p_ref1_Disk_Crash
    by_cases h0 : w = []
    · subst h0
      cases d with
      | true =>
        simp [rdiskG, GC.at]
        exact rdisk_shut0 hR hB 1 _ rfl rfl rfl (by omega) rfl ⟨_, rfl, _, ⟨rfl, rfl⟩, rfl⟩
      | false =>
        by_cases hm : mask < 0 ∨ torn < 0
        · by_cases hm1 : mask < 0
          · simp [rdiskG, GC.at, hm1]
            exact rdisk_shut0 hR hB 1 _ rfl rfl rfl (by omega) rfl ⟨_, rfl, _, ⟨rfl, rfl⟩, rfl⟩
          · have hm2 : torn < 0 := by omega
            simp [rdiskG, GC.at, hm1, hm2]
            exact rdisk_shut0 hR hB 1 _ rfl rfl rfl (by omega) rfl ⟨_, rfl, _, ⟨rfl, rfl⟩, rfl⟩
        · have m1 : ¬ mask < 0 := by omega
          have m2 : ¬ torn < 0 := by omega
          simp [rdiskG, GC.at, m1, m2]
          refine loopP_unr 1 ?_
          rw [unr]
          simp
          exact rdisk_shut0 hR hB 1 _ rfl rfl rfl (by omega) rfl ⟨_, rfl, _, ⟨rfl, rfl⟩, rfl⟩
    · cases d with
      | true =>
        simp [rdiskG, GC.at, h0]
        exact rdisk_shut hR hB h0 1 2 _ _ rfl rfl rfl rfl rfl (by omega) rfl ⟨_, rfl, _, ⟨rfl, rfl⟩, rfl⟩
      | false =>
        by_cases hm : mask < 0 ∨ torn < 0
        · by_cases hm1 : mask < 0
          · simp [rdiskG, GC.at, h0, hm1]
            exact rdisk_shut hR hB h0 1 2 _ _ rfl rfl rfl rfl rfl (by omega) rfl ⟨_, rfl, _, ⟨rfl, rfl⟩, rfl⟩
          · have hm2 : torn < 0 := by omega
            simp [rdiskG, GC.at, h0, hm1, hm2]
            exact rdisk_shut hR hB h0 1 2 _ _ rfl rfl rfl rfl rfl (by omega) rfl ⟨_, rfl, _, ⟨rfl, rfl⟩, rfl⟩
        · have m1 : ¬ mask < 0 := by omega
          have m2 : ¬ torn < 0 := by omega
          simp [rdiskG, GC.at, h0, m1, m2]
          refine loopP_go (fun m y g => ∃ i : Nat, y = [.bool (!(dCr mask torn k w i).2), .int .i64 i] ∧ g = [.cells t_bastionref1_Disk [.sl 1 0 k.length k.length false, .sl 2 0 w.length w.length false, .bool false], .cells t_string ((dCr mask torn k w i).1.map .str), .cells t_bastionref1_write (wCells w)] ∧ i ≤ w.length ∧ m = w.length - i) w.length
            (Gives.done (by simp) ⟨0, by simp [dCr], by simp [dCr], by omega, by omega⟩) ?_
          rintro m y g ⟨i, rfl, rfl, hi, rfl⟩
          simp
          refine iteP_of (fun h1 => ?_) (fun h1 => ?_)
          · simp at h1
            have e1 := w64 (n := (i : Int) + 1) (by omega)
            have hwc := wCells_at w i h1
            have hwl := wCells_len w
            have hle : i * 2 + 2 ≤ (wCells w).length := by omega
            obtain ⟨q0, q1, q2⟩ := hok.wait w[i] (List.getElem_mem h1)
            have hg : w.getD i (0, []) = w[i] := by simp [List.getD_eq_getElem?_getD, h1]
            have hdl := dCr_len mask torn k w i
            have hfl := dCr_full (mask := mask) hok (by omega : 0 ≤ torn) i hi
            have hlt : w[i].1.toNat < (dCr mask torn k w i).1.length := by omega
            have hol := hfl _ (List.getElem_mem hlt)
            have hso := fun (g : AHeap A) (s : Bs) => setO_one g 1 w[i].1.toNat (.str s) t_string ((dCr mask torn k w i).1.map .str) rfl (by simp; omega)
            have hnx : dCr mask torn k w (i + 1) = if dKeep mask i = true then ((dCr mask torn k w i).1.set w[i].1.toNat w[i].2, (dCr mask torn k w i).2) else if (dCr mask torn k w i).2 = true then ((dCr mask torn k w i).1.set w[i].1.toNat (dPiece torn w[i].2 ((dCr mask torn k w i).1.getD w[i].1.toNat [])), false) else dCr mask torn k w i := by rw [dCr, hg]
            have fin : ∀ (o : AObj A) (k' : List Bs) (f : Bool), dCr mask torn k w (i + 1) = (k', f) → Gives Pr R 3 [.cells t_bastionref1_Disk [.sl 1 0 k.length k.length false, .sl 2 0 w.length w.length false, .bool false], .cells t_string (k'.map .str), .cells t_bastionref1_write (wCells w), o] [.bool (!f), .int .i64 ((i : Int) + 1)] fun y g => ∃ m', m' < w.length - i ∧ ∃ i : Nat, y = [.bool (!(dCr mask torn k w i).2), .int .i64 i] ∧ g = [.cells t_bastionref1_Disk [.sl 1 0 k.length k.length false, .sl 2 0 w.length w.length false, .bool false], .cells t_string ((dCr mask torn k w i).1.map .str), .cells t_bastionref1_write (wCells w)] ∧ i ≤ w.length ∧ m' = w.length - i := by
              intro o k' f he
              refine Gives.cut hR (m := 3) (by omega) (by simp) rfl (by simp; exact ⟨low_cells rfl, low_cells (strs_ix _ _), low_cells (wCells_ix _ _)⟩) ?_
              exact ⟨w.length - (i + 1), by omega, i + 1, by simp [he], by simp [he], by omega, rfl⟩
            refine joinP_go ?_
            obtain ⟨c, hc, hcl⟩ : ∃ c : Nat, (if (64 : Int) < torn then (64 : Int) else torn) = (c : Int) ∧ c = min torn.toNat 64 := ⟨_, by split <;> omega, rfl⟩
            have hc1 : c ≤ 64 := by omega
            have hc2 : (c : Int) ≤ 64 := by omega
            have hmin : min c 64 = c := by omega
            have e3 := wu64 (n := (i : Int)) (by omega)
            have hadd : c + (64 - c) < 9223372036854775808 := by omega
            simp [h1, hwc, hle, q0, q1, e1, hso, hc, hlt, List.getElem?_eq_getElem hlt]
            have hbit := bits_and1 (mask.fdiv (2 ^ min i IntKind.i64.bits))
            by_cases h2 : i < 30
            · have h2' : (i : Int) < 30 := by omega
              have hb2 : mask.fdiv (2 ^ min i IntKind.i64.bits) % 2 = mask / 2 ^ i % 2 := by
                rw [show min i IntKind.i64.bits = i from Nat.min_eq_left (by show i ≤ 64; omega), Int.fdiv_eq_ediv_of_nonneg _ (Int.le_of_lt (Int.pow_pos (by omega)))]
              rw [hb2] at hbit
              by_cases h3 : mask / 2 ^ i % 2 = 1
              · simp [h2', e3, hbit, h3]
                have := fin (AObj.cells t_bastionref1_write [.int .i64 w[i].1, .str w[i].2]) _ _ (by rw [hnx, if_pos (by simp [dKeep, h2, h3])])
                simpa using this
              · have h3' : (mask / 2 ^ i % 2 == 1) = false := by simp [h3]
                rw [if_neg (by simp [dKeep, h2, h3])] at hnx
                cases hf : (dCr mask torn k w i).2 with
                | true =>
                  simp [h2', e3, hbit, h3', q2, hol, hc1, hc2, hmin, hadd, hso]
                  have := fin (AObj.cells t_bastionref1_write [.int .i64 w[i].1, .str w[i].2]) _ _ (by rw [hnx, if_pos hf])
                  simpa [dPiece, hcl, hlt] using this
                | false =>
                  simp [h2', e3, hbit, h3']
                  have := fin (AObj.cells t_bastionref1_write [.int .i64 w[i].1, .str w[i].2]) _ false (by rw [hnx, if_neg (by simp [hf]), ← hf])
                  simpa using this
            · have h2' : ¬ (i : Int) < 30 := by omega
              rw [if_neg (by simp [dKeep, h2])] at hnx
              cases hf : (dCr mask torn k w i).2 with
              | true =>
                simp [h2', q2, hol, hc1, hc2, hmin, hadd, hso]
                have := fin (AObj.cells t_bastionref1_write [.int .i64 w[i].1, .str w[i].2]) _ _ (by rw [hnx, if_pos hf])
                simpa [dPiece, hcl, hlt] using this
              | false =>
                simp [h2']
                have := fin (AObj.cells t_bastionref1_write [.int .i64 w[i].1, .str w[i].2]) _ false (by rw [hnx, if_neg (by simp [hf]), ← hf])
                simpa using this
          · simp at h1
            obtain rfl : i = w.length := by omega
            exact rdisk_shut0 hR hB 1 _ (dCr_len mask torn k w _).symm rfl rfl (by omega) rfl ⟨_, rfl, _, ⟨rfl, rfl⟩, rfl⟩
  · intro v o hq
    cases d with
    | true => simp at hq hk; obtain ⟨rfl, rfl⟩ := hq; rw [set_same hb]; exact hk
    | false =>
      simp at hq hk
      by_cases hm : mask < 0 ∨ torn < 0
      · rw [if_pos hm] at hq hk; obtain ⟨rfl, rfl⟩ := hq; rw [set_same hb]; exact hk
      · rw [if_neg hm] at hq hk; obtain ⟨rfl, rfl⟩ := hq; exact hk
theorem rdisk_New_ok (hR : R.Ok) (hB : HasRDisk R mk) (n : Int) {h : AHeap A} {K : AVal → AHeap A → Prop}
    (hk : if 1 ≤ n ∧ n ≤ 256 then K (.tup [.ptr h.length 0, .int .i64 0]) (h ++ [.adt (mk (List.replicate n.toNat zSec) [] false)]) else K (.tup [.nilp, .int .i64 800]) h) : Tri Pr R n_ref1_NewDisk [.int .i64 n] h K := by
  by_cases hm : 1 ≤ n ∧ n ≤ 256
  · rw [if_pos hm] at hk
    refine Tri.make hR rfl (v0 := .tup [.ptr 0 0, .int .i64 0]) (h0 := [.adt (mk (List.replicate n.toNat zSec) [] false)]) (Tri.post ?_) (by simpa [AVal.ren, rens, rdisk_ren hB] using hk)
    apply c_ref1_NewDisk
    unfold p_ref1_NewDisk
    have h1 : ¬ n < 1 := by omega
    have h2 : ¬ 256 < n := by omega
    simp [h1, h2]
    refine loopP_go (fun m y g => ∃ i : Nat, y = [.int .i64 i] ∧ ((i = 0 ∧ g = [.cells t_bastionref1_Disk [.nils, .nils, .bool false]]) ∨ (i ≠ 0 ∧ g = [.cells t_bastionref1_Disk [.sl 1 0 i i false, .nils, .bool false], .cells t_string ((List.replicate i zSec).map .str)])) ∧ i ≤ n.toNat ∧ m = n.toNat - i) n.toNat
      (Gives.done (by simp) ⟨0, rfl, .inl ⟨rfl, rfl⟩, by omega, by omega⟩) ?_
    rintro m y g ⟨i, rfl, hg, hi, rfl⟩
    simp
    refine iteP_of (fun h3 => ?_) (fun h3 => ?_)
    · simp at h3
      have e1 := w64 (n := (i : Int) + 1) (by omega)
      rcases hg with ⟨rfl, rfl⟩ | ⟨hne, rfl⟩
      · simp [mkslP]
        refine z_read (by rfl) (by rfl) ?_
        simp [appP, appV, srcOf, cellsAt]
        refine Gives.pick2 hR 3 rfl rfl (by omega) rfl rfl rfl ?_
        exact ⟨n.toNat - 1, by omega, 1, rfl, .inr ⟨by omega, rfl⟩, by omega, rfl⟩
      · have h6 : ¬ i + 1 ≤ i := by omega
        have h7 : (2 * (i + 1) + 1000) * 16 ≤ 140737488355328 := by omega
        simp [mkslP]
        refine z_read (by rfl) (by rfl) ?_
        simp [appP, appV, srcOf, cellsAt, h6, h7, e1]
        refine Gives.pick2 hR 4 rfl rfl (by omega) rfl (by simp [ixs_all, AVal.ix]) rfl ?_
        refine ⟨n.toNat - (i + 1), by omega, i + 1, by simp, .inr ⟨by omega, ?_⟩, by omega, rfl⟩
        simp [List.replicate_succ']
    · simp at h3
      obtain rfl : i = n.toNat := by omega
      rcases hg with ⟨h4, rfl⟩ | ⟨hne, rfl⟩
      · omega
      · have hg : (rdiskG (List.replicate n.toNat zSec) [] false : Grp A) = { e := t_bastionref1_Disk, cs := [.sl 0 0 n.toNat n.toNat false, .g .nils, .g (.bool false)], subs := [.cells t_string (List.replicate n.toNat (.str zSec))] } := by simp [rdiskG]
        have hu := hB.lay (List.replicate n.toNat zSec) [] false _ |>.2 hg.symm
        refine Gives.shut 0 [1] (mk (List.replicate n.toNat zSec) [] false) _ hu rfl rfl (fun i s hs => ?_) (by simp) (by simp; omega) (by simp) ?_
        · match i, hs with
          | 0, hs => simp at hs; subst hs; exact ⟨by simp, rfl⟩
          | i + 1, hs => simp at hs
        · refine Gives.cut hR (m := 1) (by omega) (by simp [kills_length]) rfl (by simp [kills]; exact ⟨rdisk_ix hB _ _ _ _, fun τ _ => rdisk_ren hB _ _ _ _⟩) ?_
          exact ⟨_, rfl, rfl, rfl⟩
  · rw [if_neg hm] at hk
    refine Tri.fn1 hR _ rfl rfl ?_ hk
    apply c_ref1_NewDisk
    unfold p_ref1_NewDisk
    simp
    refine iteP_of (fun h1 => iteP_of (fun h2 => Ans.rfl' _) (fun h2 => ?_)) (fun h1 => Ans.rfl' _)
    simp at h1 h2; omega
end disk
end Go.AI
