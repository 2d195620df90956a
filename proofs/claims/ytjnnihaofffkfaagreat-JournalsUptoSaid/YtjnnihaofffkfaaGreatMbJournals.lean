/- The document's disk. -/
import Derived.Test.YtjnnihaofffkfaaGreatMaJournals
import Derived.Test.YtjnnihaofffkfaaGreatFns
import Derived.WalkKit
import Derived.LaidEql
import Derived.Stop.Asserts
import Derived.RowKitTokens
import Derived.Lib.IfaceEq
set_option linter.all false
namespace Go.AI
variable {A : Type} {R : Adts A}
section disk
variable {mk : List Bs → Ws → Bool → A}
theorem rdisk_ix (hB : HasRDisk R mk) (k : List Bs) (w : Ws) (d : Bool) (n : Nat) : (AObj.adt (mk k w d)).ix R n := by
  intro g hg
  obtain rfl := (hB.lay _ _ _ _).1 hg
  unfold rdiskG
  split <;> simp [AVal.ix, strs_ix, wCells_ix]
theorem rdisk_ren (hB : HasRDisk R mk) (k : List Bs) (w : Ws) (d : Bool) (τ : Nat → Nat) : (AObj.adt (mk k w d)).ren R τ = .adt (mk k w d) := by simp [AObj.ren, hB.ren]
theorem rdisk_shut0 (hR : R.Ok) (hB : HasRDisk R mk) {k : List Bs} {d : Bool} {h : AHeap A} {v : AVal} {K : List AVal → AHeap A → Prop} (j0 n : Nat) (hn : n = k.length) (h0 : h[0]? = some (.cells t_bastionref1_Disk [.sl j0 0 n n false, .nils, .bool d]))
    (hs : h[j0]? = some (.cells t_string (k.map .str))) (hd : 0 ≠ j0) (hv : v.ix 0 = true) (hk : K [v] [.adt (mk k [] d)]) : Gives Pr R 1 h [v] K := by
  subst hn
  refine adt_shut hR ((hB.lay _ _ _ _).2 rfl) (rdisk_ix hB _ _ _ _) (rdisk_ren hB _ _ _) [j0] (by simpa [rdiskG, GC.on] using h0) rfl (fun i s hs' => ?_) (by simp [hd]) (by simp [rdiskG]; omega) (by simp [rdiskG]) hv hk
  match i, hs' with
  | 0, hs' => simp [rdiskG] at hs'; subst hs'; exact ⟨hs, rfl⟩
  | i + 1, hs' => simp [rdiskG] at hs'
theorem rdisk_shut (hR : R.Ok) (hB : HasRDisk R mk) {k : List Bs} {w : Ws} (hne : w ≠ []) {d : Bool} {h : AHeap A} {v : AVal} {K : List AVal → AHeap A → Prop} (j0 j1 n m : Nat) (hn : n = k.length) (hm : m = w.length)
    (h0 : h[0]? = some (.cells t_bastionref1_Disk [.sl j0 0 n n false, .sl j1 0 m m false, .bool d])) (hs : h[j0]? = some (.cells t_string (k.map .str))) (hw : h[j1]? = some (.cells t_bastionref1_write (wCells w)))
    (hd : 0 ≠ j0 ∧ 0 ≠ j1 ∧ j0 ≠ j1) (hv : v.ix 0 = true) (hk : K [v] [.adt (mk k w d)]) : Gives Pr R 1 h [v] K := by
  subst hn hm
  refine adt_shut hR ((hB.lay _ _ _ _).2 rfl) (rdisk_ix hB _ _ _ _) (rdisk_ren hB _ _ _) [j0, j1] (by simpa [rdiskG, GC.on, hne] using h0) (by simp [rdiskG, hne]) (fun i s hs' => ?_) (by simp [hd]) (by simp [rdiskG, hne]; omega) (by simp [rdiskG, hne]) hv hk
  match i, hs' with
  | 0, hs' => simp [rdiskG, hne] at hs'; subst hs'; exact ⟨hs, rfl⟩
  | 1, hs' => simp [rdiskG, hne] at hs'; subst hs'; exact ⟨hw, rfl⟩
  | i + 2, hs' => simp [rdiskG, hne] at hs'
theorem rdisk_Restart_ok (hR : R.Ok) (hB : HasRDisk R mk) {k : List Bs} {w : Ws} {d : Bool} {h : AHeap A} {b : Nat} (hb : h[b]? = some (.adt (mk k w d))) {K : AVal → AHeap A → Prop}
    (hk : K (.int .i64 (if d = true then 0 else 800)) (h.set b (.adt (mk k w false)))) : Tri Pr R n_ref1_Disk_Restart [.ptr b 0] h K := by
  refine Tri.own hR (as2 := [.ptr 0 0]) (Q := fun v o => v = .int .i64 (if d = true then 0 else 800) ∧ o = .adt (mk k w false)) rfl (rdisk_ix hB _ _ _ _) ?_ (rdisk_ren hB _ _ _) ?_ hb (by simp [rens, AVal.ren]) ?_
  · rintro _ _ ⟨rfl, rfl⟩; exact ⟨rfl, rdisk_ren hB _ _ _⟩
  · refine Tri.post (Tri.pre (Gives.opened 0 rfl (by simp) fun g hg => ?_))
    obtain rfl := (hB.lay _ _ _ _).1 hg
    refine Gives.done (by simp) ?_
    apply c_ref1_Disk_Restart
    unfold p_ref1_Disk_Restart
    by_cases h0 : w = []
    · subst h0
      cases d <;> simp [rdiskG, GC.at]
      · exact rdisk_shut0 hR hB 1 _ rfl rfl rfl (by omega) rfl ⟨_, rfl, _, ⟨rfl, rfl⟩, rfl⟩
      · exact rdisk_shut0 hR hB 1 _ rfl rfl rfl (by omega) rfl ⟨_, rfl, _, ⟨rfl, rfl⟩, rfl⟩
    · cases d <;> simp [rdiskG, GC.at, h0]
      · exact rdisk_shut hR hB h0 1 2 _ _ rfl rfl rfl rfl rfl (by omega) rfl ⟨_, rfl, _, ⟨rfl, rfl⟩, rfl⟩
      · exact rdisk_shut hR hB h0 1 2 _ _ rfl rfl rfl rfl rfl (by omega) rfl ⟨_, rfl, _, ⟨rfl, rfl⟩, rfl⟩
  · rintro _ _ ⟨rfl, rfl⟩; exact hk
theorem rdisk_Write_ok (hR : R.Ok) (hB : HasRDisk R mk) {k : List Bs} {w : Ws} {d : Bool} (hok : dOk k w) (hw : w.length ≤ 1000) (x : Int) (s : Bs) {h : AHeap A} {b : Nat} (hb : h[b]? = some (.adt (mk k w d))) {K : AVal → AHeap A → Prop}
    (hk : K (.int .i64 (dWrite k w d x s).2) (h.set b (.adt (mk k (dWrite k w d x s).1 d)))) : Tri Pr R n_ref1_Disk_Write [.ptr b 0, .int .i64 x, .str s] h K := by
  refine Tri.own hR (as2 := [.ptr 0 0, .int .i64 x, .str s]) (Q := fun v o => v = .int .i64 (dWrite k w d x s).2 ∧ o = .adt (mk k (dWrite k w d x s).1 d)) rfl (rdisk_ix hB _ _ _ _) ?_ (rdisk_ren hB _ _ _) ?_ hb (by simp [rens, AVal.ren]) ?_
  · rintro _ _ ⟨rfl, rfl⟩; exact ⟨rfl, rdisk_ren hB _ _ _⟩
  · refine Tri.post (Tri.pre (Gives.opened 0 rfl (by simp) fun g hg => ?_))
    obtain rfl := (hB.lay _ _ _ _).1 hg
    refine Gives.done (by simp) ?_
    apply c_ref1_Disk_Write
    unfold p_ref1_Disk_Write
    obtain ⟨r, hr⟩ : ∃ r, dWrite k w d x s = r := ⟨_, rfl⟩
    rw [hr]
    unfold dWrite at hr
    have tests : (x < 0) ∨ (¬ x < 0 ∧ (k.length : Int) ≤ x) ∨ (¬ x < 0 ∧ ¬ (k.length : Int) ≤ x ∧ s.length ≠ 64) ∨ (¬ x < 0 ∧ ¬ (k.length : Int) ≤ x ∧ s.length = 64) := by omega
    by_cases h0 : w = []
    · subst h0
      have fin : ∀ (v : Int), Gives Pr R 1 [.cells t_bastionref1_Disk [.sl 1 0 k.length k.length false, .nils, .bool d], .cells t_string (k.map .str)] [.int .i64 v] fun vs h2 => ∃ u, vs = [u] ∧ ∃ o', (u = .int .i64 v ∧ o' = .adt (mk k [] d)) ∧ h2 = [o'] := fun v =>
        rdisk_shut0 hR hB 1 _ rfl rfl rfl (by omega) rfl ⟨_, rfl, _, ⟨rfl, rfl⟩, rfl⟩
      cases d with
      | true =>
        simp at hr; subst hr
        simp [rdiskG, GC.at]
        exact fin _
      | false =>
        simp at hr
        rcases tests with h1 | ⟨h1, h2⟩ | ⟨h1, h2, h3⟩ | ⟨h1, h2, h3⟩
        · rw [if_pos (by omega)] at hr; subst hr
          simp [rdiskG, GC.at, h1]
          exact fin _
        · rw [if_pos (by omega)] at hr; subst hr
          simp [rdiskG, GC.at, h1, h2]
          exact fin _
        · rw [if_pos (by omega)] at hr; subst hr
          have h4 : ((s.length : Int) != 64) = true := by simp; omega
          simp [rdiskG, GC.at, h1, h2, h4]
          exact fin _
        · rw [if_neg (by omega)] at hr; subst hr
          simp [rdiskG, GC.at, h1, h2, h3, appP, appV, srcOf, cellsAt]
          exact rdisk_shut hR hB (w := [(x, s)]) (by simp) 1 3 _ 1 rfl rfl rfl rfl rfl (by omega) rfl ⟨_, rfl, _, ⟨rfl, rfl⟩, rfl⟩
    · have fin : ∀ (v : Int), Gives Pr R 1 [.cells t_bastionref1_Disk [.sl 1 0 k.length k.length false, .sl 2 0 w.length w.length false, .bool d], .cells t_string (k.map .str), .cells t_bastionref1_write (wCells w)] [.int .i64 v] fun vs h2 => ∃ u, vs = [u] ∧ ∃ o', (u = .int .i64 v ∧ o' = .adt (mk k w d)) ∧ h2 = [o'] := fun v =>
        rdisk_shut hR hB h0 1 2 _ _ rfl rfl rfl rfl rfl (by omega) rfl ⟨_, rfl, _, ⟨rfl, rfl⟩, rfl⟩
      cases d with
      | true =>
        simp at hr; subst hr
        simp [rdiskG, GC.at, h0]
        exact fin _
      | false =>
        simp at hr
        rcases tests with h1 | ⟨h1, h2⟩ | ⟨h1, h2, h3⟩ | ⟨h1, h2, h3⟩
        · rw [if_pos (by omega)] at hr; subst hr
          simp [rdiskG, GC.at, h0, h1]
          exact fin _
        · rw [if_pos (by omega)] at hr; subst hr
          simp [rdiskG, GC.at, h0, h1, h2]
          exact fin _
        · rw [if_pos (by omega)] at hr; subst hr
          have h4 : ((s.length : Int) != 64) = true := by simp; omega
          simp [rdiskG, GC.at, h0, h1, h2, h4]
          exact fin _
        · rw [if_neg (by omega)] at hr; subst hr
          have hl := wCells_len w
          have h6 : ¬ w.length + 1 ≤ w.length := by omega
          have h7 : (2 * (w.length + 1) + 1000) * 24 ≤ 140737488355328 := by omega
          have h9 : w.length * 2 = (wCells w).length := by omega
          simp [rdiskG, GC.at, h0, h1, h2, h3, appP, appV, srcOf, cellsAt, h6, h7, h9]
          refine rdisk_shut hR hB (w := w ++ [(x, s)]) (by simp) 1 4 _ (w.length + 1) rfl (by simp) rfl rfl ?_ (by omega) rfl ⟨_, rfl, _, ⟨rfl, rfl⟩, rfl⟩
          simp [wCells]
  · rintro _ _ ⟨rfl, rfl⟩; exact hk
theorem wCells_get0 (w : Ws) (i : Nat) (h : i < w.length) : (wCells w)[i * 2]? = some (.int .i64 w[i].1) := by
  have := congrArg (fun l : List AVal => l[0]?) (wCells_at w i h)
  simpa [List.getElem?_take, List.getElem?_drop] using this
theorem wCells_get1 (w : Ws) (i : Nat) (h : i < w.length) : (wCells w)[i * 2 + 1]? = some (.str w[i].2) := by
  have := congrArg (fun l : List AVal => l[1]?) (wCells_at w i h)
  simpa [List.getElem?_take, List.getElem?_drop] using this
theorem rdisk_Flush_ok (hR : R.Ok) (hB : HasRDisk R mk) {k : List Bs} {w : Ws} {d : Bool} (hok : dOk k w) (hw : w.length ≤ 1000) {h : AHeap A} {b : Nat} (hb : h[b]? = some (.adt (mk k w d))) {K : AVal → AHeap A → Prop}
    (hk : if d = true then K (.int .i64 801) h else K (.int .i64 0) (h.set b (.adt (mk (dPut k w) [] d)))) : Tri Pr R n_ref1_Disk_Flush [.ptr b 0] h K := by
  refine Tri.own hR (as2 := [.ptr 0 0]) (Q := fun v o => if d = true then v = .int .i64 801 ∧ o = .adt (mk k w d) else v = .int .i64 0 ∧ o = .adt (mk (dPut k w) [] d)) rfl (rdisk_ix hB _ _ _ _) ?_ (rdisk_ren hB _ _ _) ?_ hb (by simp [rens, AVal.ren]) ?_
  · intro v o hq; split at hq <;> (obtain ⟨rfl, rfl⟩ := hq; exact ⟨rfl, rdisk_ren hB _ _ _⟩)
  · refine Tri.post (Tri.pre (Gives.opened 0 rfl (by simp) fun g hg => ?_))
    obtain rfl := (hB.lay _ _ _ _).1 hg
    refine Gives.done (by simp) ?_
    apply c_ref1_Disk_Flush
    unfold p_ref1_Disk_Flush
    by_cases h0 : w = []
    · subst h0
      cases d with
      | true =>
        simp [rdiskG, GC.at]
        exact rdisk_shut0 hR hB 1 _ rfl rfl rfl (by omega) rfl ⟨_, rfl, _, ⟨rfl, rfl⟩, rfl⟩
      | false =>
        simp [rdiskG, GC.at]
        refine loopP_unr 1 ?_
        rw [unr]
        simp
        exact rdisk_shut0 hR hB 1 _ rfl rfl rfl (by omega) rfl ⟨_, rfl, _, ⟨rfl, rfl⟩, rfl⟩
    · cases d with
      | true =>
        simp [rdiskG, GC.at, h0]
        exact rdisk_shut hR hB h0 1 2 _ _ rfl rfl rfl rfl rfl (by omega) rfl ⟨_, rfl, _, ⟨rfl, rfl⟩, rfl⟩
      | false =>
        simp [rdiskG, GC.at, h0]
        refine loopP_go (fun m y g => ∃ i : Nat, y = [.int .i64 i] ∧ g = [.cells t_bastionref1_Disk [.sl 1 0 k.length k.length false, .sl 2 0 w.length w.length false, .bool false], .cells t_string ((dPut k (w.take i)).map .str), .cells t_bastionref1_write (wCells w)] ∧ i ≤ w.length ∧ m = w.length - i) w.length
          (Gives.done (by simp) ⟨0, by simp, by simp [dPut], by omega, by omega⟩) ?_
        rintro m y g ⟨i, rfl, rfl, hi, rfl⟩
        simp
        refine iteP_of (fun h1 => ?_) (fun h1 => ?_)
        · simp at h1
          have e1 := w64 (n := (i : Int) + 1) (by omega)
          have g0 := wCells_get0 w i h1
          have g1 := wCells_get1 w i h1
          obtain ⟨q0, q1, q2⟩ := hok.wait w[i] (List.getElem_mem h1)
          have hdl := dPut_len k (w.take i)
          have hso := fun g : AHeap A => setO_one g 1 w[i].1.toNat (.str w[i].2) t_string ((dPut k (w.take i)).map .str) rfl (by simp [hdl]; omega)
          have hsp : dPut k (w.take (i + 1)) = (dPut k (w.take i)).set w[i].1.toNat w[i].2 := by rw [← List.take_append_getElem h1, dPut_snoc]
          have hwl := wCells_len w
          have l0 : i * 2 < (wCells w).length := by omega
          have l1 : i * 2 + 1 < (wCells w).length := by omega
          obtain ⟨_, g0'⟩ := List.getElem?_eq_some_iff.1 g0
          obtain ⟨_, g1'⟩ := List.getElem?_eq_some_iff.1 g1
          simp [h1, l0, l1, g0', g1', q0, q1, hso, e1]
          refine Gives.cut hR (m := 3) (by omega) (by simp) rfl (by simp; exact ⟨low_cells rfl, low_cells (by rw [← List.map_set]; exact strs_ix _ _), low_cells (wCells_ix _ _)⟩) ?_
          exact ⟨w.length - (i + 1), by omega, i + 1, by simp, by rw [hsp]; simp, by omega, rfl⟩
        · simp at h1
          obtain rfl : i = w.length := by omega
          simp
          exact rdisk_shut0 hR hB 1 _ (dPut_len k w).symm rfl rfl (by omega) rfl ⟨_, rfl, _, ⟨rfl, rfl⟩, rfl⟩
  · intro v o hq
    cases d with
    | true => simp at hq hk; obtain ⟨rfl, rfl⟩ := hq; rw [set_same hb]; exact hk
    | false => simp at hq hk; obtain ⟨rfl, rfl⟩ := hq; exact hk
theorem dPut_skip (n : Nat) : ∀ (w : Ws) (k : List Bs), (∀ a ∈ w, a.1.toNat ≠ n) → (dPut k w)[n]? = k[n]?
  | [], k, _ => rfl
  | a :: r, k, h => by
    have := dPut_skip n r (k.set a.1.toNat a.2) fun b hb => h b (by simp [hb])
    have e : dPut k (a :: r) = dPut (k.set a.1.toNat a.2) r := rfl
    rw [e, this, List.getElem?_set]
    simp [h a (by simp)]
theorem dPut_app (k : List Bs) (w v : Ws) : dPut k (w ++ v) = dPut (dPut k w) v := by simp [dPut, List.foldl_append]
theorem dPut_last {k : List Bs} {w : Ws} {i : Nat} (hi : i < w.length) (hk : w[i].1.toNat < k.length) (h : ∀ a ∈ w.drop (i + 1), a.1.toNat ≠ w[i].1.toNat) : (dPut k w)[w[i].1.toNat]? = some w[i].2 := by
  have e : w = w.take i ++ [w[i]] ++ w.drop (i + 1) := by rw [List.take_append_getElem hi, List.take_append_drop]
  have e2 : dPut k w = dPut ((dPut k (w.take i)).set w[i].1.toNat w[i].2) (w.drop (i + 1)) := by
    conv => lhs; rw [e]
    rw [dPut_app, dPut_snoc]
  rw [e2, dPut_skip _ _ _ h, List.getElem?_set]
  simp [dPut_len, hk]
theorem rdisk_Read_ok (hR : R.Ok) (hB : HasRDisk R mk) {k : List Bs} {w : Ws} {d : Bool} (hok : dOk k w) (hw : w.length ≤ 1000) (x : Int) {h : AHeap A} {b : Nat} (hb : h[b]? = some (.adt (mk k w d))) {K : AVal → AHeap A → Prop}
    (hk : K (.tup [.str (dRead k w d x).1, .int .i64 (dRead k w d x).2]) h) : Tri Pr R n_ref1_Disk_Read [.ptr b 0, .int .i64 x] h K := by
  refine Tri.own hR (as2 := [.ptr 0 0, .int .i64 x]) (Q := fun v o => v = .tup [.str (dRead k w d x).1, .int .i64 (dRead k w d x).2] ∧ o = .adt (mk k w d)) rfl (rdisk_ix hB _ _ _ _) ?_ (rdisk_ren hB _ _ _) ?_ hb (by simp [rens, AVal.ren]) ?_
  · rintro _ _ ⟨rfl, rfl⟩; exact ⟨rfl, rdisk_ren hB _ _ _⟩
  · refine Tri.post (Tri.pre (Gives.opened 0 rfl (by simp) fun g hg => ?_))
    obtain rfl := (hB.lay _ _ _ _).1 hg
    refine Gives.done (by simp) ?_
    apply c_ref1_Disk_Read
    unfold p_ref1_Disk_Read
    obtain ⟨r, hr⟩ : ∃ r, dRead k w d x = r := ⟨_, rfl⟩
    rw [hr]
    unfold dRead at hr
    have hsz := hok.size
    have tests : (x < 0) ∨ (¬ x < 0 ∧ (k.length : Int) ≤ x) ∨ (¬ x < 0 ∧ ¬ (k.length : Int) ≤ x) := by omega
    by_cases h0 : w = []
    · subst h0
      have fin : ∀ (s : Bs) (v : Int), Gives Pr R 1 [.cells t_bastionref1_Disk [.sl 1 0 k.length k.length false, .nils, .bool d], .cells t_string (k.map .str)] [.tup [.str s, .int .i64 v]] fun vs h2 => ∃ u, vs = [u] ∧ ∃ o', (u = .tup [.str s, .int .i64 v] ∧ o' = .adt (mk k [] d)) ∧ h2 = [o'] := fun s v =>
        rdisk_shut0 hR hB 1 _ rfl rfl rfl (by omega) rfl ⟨_, rfl, _, ⟨rfl, rfl⟩, rfl⟩
      cases d with
      | true =>
        simp at hr; subst hr
        simp [rdiskG, GC.at]
        exact fin _ _
      | false =>
        simp at hr
        rcases tests with h1 | ⟨h1, h2⟩ | ⟨h1, h2⟩
        · rw [if_pos (by omega)] at hr; subst hr
          simp [rdiskG, GC.at, h1]
          exact fin _ _
        · rw [if_pos (by omega)] at hr; subst hr
          simp [rdiskG, GC.at, h1, h2]
          exact fin _ _
        · rw [if_neg (by omega)] at hr; subst hr
          have h3 : 0 ≤ x := by omega
          have h5 : x < k.length := by omega
          have h4 : x.toNat < k.length := by omega
          simp [rdiskG, GC.at, h1, h2]
          refine loopP_unr 1 ?_
          rw [unr]
          simp [dPut, h3, h4, h5]
          exact fin _ _
    · have fin : ∀ (s : Bs) (v : Int), Gives Pr R 1 [.cells t_bastionref1_Disk [.sl 1 0 k.length k.length false, .sl 2 0 w.length w.length false, .bool d], .cells t_string (k.map .str), .cells t_bastionref1_write (wCells w)] [.tup [.str s, .int .i64 v]] fun vs h2 => ∃ u, vs = [u] ∧ ∃ o', (u = .tup [.str s, .int .i64 v] ∧ o' = .adt (mk k w d)) ∧ h2 = [o'] := fun s v =>
        rdisk_shut hR hB h0 1 2 _ _ rfl rfl rfl rfl rfl (by omega) rfl ⟨_, rfl, _, ⟨rfl, rfl⟩, rfl⟩
      cases d with
      | true =>
        simp at hr; subst hr
        simp [rdiskG, GC.at, h0]
        exact fin _ _
      | false =>
        simp at hr
        rcases tests with h1 | ⟨h1, h2⟩ | ⟨h1, h2⟩
        · rw [if_pos (by omega)] at hr; subst hr
          simp [rdiskG, GC.at, h0, h1]
          exact fin _ _
        · rw [if_pos (by omega)] at hr; subst hr
          simp [rdiskG, GC.at, h0, h1, h2]
          exact fin _ _
        · rw [if_neg (by omega)] at hr; subst hr
          have h3 : 0 ≤ x := by omega
          have h5 : x < k.length := by omega
          have h4 : x.toNat < k.length := by omega
          have e0 := w64 (n := (w.length : Int) - 1) (by omega)
          simp [rdiskG, GC.at, h0, h1, h2, e0]
          refine loopP_go (fun m y g => ∃ i : Nat, y = [.int .i64 ((i : Int) - 1)] ∧ g = [.cells t_bastionref1_Disk [.sl 1 0 k.length k.length false, .sl 2 0 w.length w.length false, .bool false], .cells t_string (k.map .str), .cells t_bastionref1_write (wCells w)] ∧ i ≤ w.length ∧ m = i ∧ ∀ a ∈ w.drop i, a.1.toNat ≠ x.toNat) w.length
            (Gives.done (by simp) ⟨w.length, rfl, rfl, by omega, rfl, by simp⟩) ?_
          rintro m y g ⟨i, rfl, rfl, hi, rfl, hp⟩
          cases m with
          | zero =>
            have h6 : (dPut k w)[x.toNat]? = some k[x.toNat] := by
              rw [dPut_skip _ _ _ (by simpa using hp)]; simp [h4]
            simp only [h6]
            simp [h3, h4, h5]
            exact fin _ _
          | succ i =>
            have hlt : i < w.length := by omega
            have e1 := w64 (n := (i : Int) - 1) (by omega)
            have e3 : ((i + 1 : Nat) : Int) - 1 = i := by omega
            have hwl := wCells_len w
            have l0 : i * 2 < (wCells w).length := by omega
            have l1 : i * 2 + 1 < (wCells w).length := by omega
            obtain ⟨_, g0'⟩ := List.getElem?_eq_some_iff.1 (wCells_get0 w i hlt)
            obtain ⟨_, g1'⟩ := List.getElem?_eq_some_iff.1 (wCells_get1 w i hlt)
            obtain ⟨q0, q1, q2⟩ := hok.wait w[i] (List.getElem_mem hlt)
            simp only [e3]
            simp [hlt, l0, l1, g0', g1', e1]
            refine iteP_of (fun h6 => ?_) (fun h6 => ?_)
            · simp at h6
              have h7 : (dPut k w)[x.toNat]? = some w[i].2 := by
                rw [← h6, dPut_last hlt (by omega) (by rw [h6]; exact hp)]
              simp only [h7]
              exact fin _ _
            · simp at h6
              refine Gives.done (by simp) ⟨i, by omega, i, rfl, rfl, by omega, rfl, fun a c ha => ?_⟩
              rw [List.drop_eq_getElem_cons hlt] at ha
              rcases List.mem_cons.1 ha with he | ha
              · have : a = w[i].1 := congrArg Prod.fst he
                omega
              · exact hp (a, c) ha
  · rintro _ _ ⟨rfl, rfl⟩; rw [set_same hb]; exact hk
end disk
end Go.AI

/- New disks. -/
set_option linter.all false
namespace Go.AI
variable {A : Type} {R : Adts A}
/-- A sector of zeros. -/
def zSec : Bs := List.replicate 64 0
theorem z_read {K : AVal → Prop} {h : AHeap A} {b : Nat} {ex : Bool} {t : TypeId} {cs : List AVal} (hb : h[b]? = some (.cells t cs)) (hc : cs = (List.replicate 64 [AVal.int .u8 0]).flatten) (hk : K (.str zSec)) : b2sP (.sl b 0 64 64 ex) h K := by
  subst hc
  simp only [b2sP, cellsAt, hb, Option.bind_some, AObj.read]
  exact hk
section disk
variable {mk : List Bs → Ws → Bool → A}
theorem disk_New_ok (hR : R.Ok) (hB : HasDisk R mk) (n : Int) {h : AHeap A} {K : AVal → AHeap A → Prop}
    (hk : if 1 ≤ n ∧ n ≤ 256 then K (.tup [.ptr h.length 0, .int .i64 0]) (h ++ [.adt (mk (List.replicate n.toNat zSec) [] false)]) else K (.tup [.nilp, .int .i64 800]) h) : Tri Pr R n_disk_New [.int .i64 n] h K := by
  by_cases hm : 1 ≤ n ∧ n ≤ 256
  · rw [if_pos hm] at hk
    refine Tri.make hR rfl (v0 := .tup [.ptr 0 0, .int .i64 0]) (h0 := [.adt (mk (List.replicate n.toNat zSec) [] false)]) (Tri.post ?_) (by simpa [AVal.ren, rens, disk_ren hB] using hk)
    apply c_disk_New
    unfold p_disk_New
    have h1 : ¬ n < 1 := by omega
    have h2 : ¬ 256 < n := by omega
    simp [h1, h2, mkslP]
    refine ⟨⟨by omega, by omega⟩, ?_⟩
    have e0 : max n 0 = n := by omega
    have hnn : ((n.toNat : Nat) : Int) = n := by omega
    rw [e0]
    refine loopP_go (fun m y g => ∃ i : Nat, y = [.int .i64 i] ∧ g = [.cells t_string ((List.replicate i zSec ++ List.replicate (n.toNat - i) []).map .str), .cells t_disk_Disk [.sl 0 0 n.toNat n.toNat true, .nils, .bool false]] ∧ i ≤ n.toNat ∧ m = n.toNat - i) n.toNat
      (Gives.done (by simp) ⟨0, rfl, by simp, by omega, by omega⟩) ?_
    rintro m y g ⟨i, rfl, rfl, hi, rfl⟩
    simp
    refine iteP_of (fun h3 => ?_) (fun h3 => ?_)
    · simp at h3
      have e1 := w64 (n := (i : Int) + 1) (by omega)
      refine z_read (by rfl) (by rfl) ?_
      have h4 : (i : Int) < n := h3
      have hil : i < n.toNat := by omega
      have hso := fun g : AHeap A => setO_one g 0 i (.str zSec) t_string ((List.replicate i zSec ++ List.replicate (n.toNat - i) []).map .str) rfl (by simp; omega)
      simp at hso
      simp [hnn, h4, hso, e1]
      obtain ⟨c, hc⟩ : ∃ c, n.toNat - i = c + 1 := ⟨n.toNat - (i + 1), by omega⟩
      have hc2 : n.toNat - (i + 1) = c := by omega
      have hix : ∀ l : List AVal, (∀ v ∈ l, v.ix 2 = true) → ixs 2 l = true := fun l hl => by rw [ixs_all]; simpa using hl
      refine Gives.cut hR (m := 2) (by omega) (by simp) rfl (by simp; exact ⟨low_cells (hix _ fun v hv => by
        rw [hc] at hv; simp [List.replicate_succ] at hv; rcases hv with ⟨_, rfl⟩ | rfl | ⟨_, rfl⟩ <;> rfl), low_cells rfl⟩) ?_
      refine ⟨c, by omega, i + 1, by simp, ?_, by omega, hc2.symm⟩
      rw [hc, hc2]
      simp [List.replicate_succ]
      rw [← List.cons_append, ← List.replicate_succ, List.replicate_succ']
      simp
    · simp at h3
      obtain rfl : i = n.toNat := by omega
      simp
      have hg : (diskG (List.replicate n.toNat zSec) [] false : Grp A) = { e := t_disk_Disk, cs := [.sl 0 0 n.toNat n.toNat true, .g .nils, .g (.bool false)], subs := [.cells t_string (List.replicate n.toNat (.str zSec))] } := by simp [diskG]
      refine Gives.shut 1 [0] (mk (List.replicate n.toNat zSec) [] false) _ ((hB.lay _ _ _ _).2 hg.symm) rfl rfl (fun i s hs => ?_) (by simp) (by simp; omega) (by simp) ?_
      · match i, hs with
        | 0, hs => simp at hs; subst hs; exact ⟨rfl, rfl⟩
        | i + 1, hs => simp at hs
      · refine Gives.pick hR [] [.dead] (.adt (mk (List.replicate n.toNat zSec) [] false)) _ [.tup [.ptr 0 0, .int .i64 0]] rfl (by simp) (by simp) ⟨disk_ix hB _ _ _ _, disk_ren hB _ _ _⟩ (by simp [rens, AVal.ren]) rfl ?_
        exact ⟨_, rfl, rfl, rfl⟩
  · rw [if_neg hm] at hk
    refine Tri.fn1 hR _ rfl rfl ?_ hk
    apply c_disk_New
    unfold p_disk_New
    simp
    refine iteP_of (fun h1 => iteP_of (fun h2 => Ans.rfl' _) (fun h2 => ?_)) (fun h1 => Ans.rfl' _)
    simp at h1 h2; omega
end disk
end Go.AI

/- A disk crashes. -/
set_option linter.all false
namespace Go.AI
variable {A : Type} {R : Adts A}
/-- Is a write kept? -/
def dKeep (mask : Int) (i : Nat) : Bool := decide (i < 30) && decide (mask / 2 ^ i % 2 = 1)
/-- A write that is torn. -/
def dPiece (torn : Int) (s old : Bs) : Bs := s.take (min torn.toNat 64) ++ old.drop (min torn.toNat 64)
/-- What is kept behind the first writes; was none lost yet? -/
def dCr (mask torn : Int) (k : List Bs) (w : Ws) : Nat → List Bs × Bool
  | 0 => (k, true)
  | i + 1 =>
    let s := dCr mask torn k w i
    let a := w.getD i (0, [])
    if dKeep mask i = true then (s.1.set a.1.toNat a.2, s.2) else if s.2 = true then (s.1.set a.1.toNat (dPiece torn a.2 (s.1.getD a.1.toNat [])), false) else s
theorem dCr_len (mask torn : Int) (k : List Bs) (w : Ws) : ∀ i, (dCr mask torn k w i).1.length = k.length
  | 0 => rfl
  | i + 1 => by
    have := dCr_len mask torn k w i
    simp only [dCr]
    split
    · simp [this]
    · split <;> simp [this]
theorem dCr_full {mask torn : Int} {k : List Bs} {w : Ws} (h : dOk k w) (ht : 0 ≤ torn) : ∀ i, i ≤ w.length → ∀ s ∈ (dCr mask torn k w i).1, s.length = 64
  | 0, _ => h.full
  | i + 1, hi => by
    have ih := dCr_full (mask := mask) h ht i (by omega)
    have hl := dCr_len mask torn k w i
    have hg : w.getD i (0, []) = w[i] := by simp [List.getD_eq_getElem?_getD, List.getElem?_eq_getElem (show i < w.length by omega)]
    obtain ⟨q0, q1, q2⟩ := h.wait w[i] (List.getElem_mem _)
    simp only [dCr, hg]
    split
    · intro s hs
      rcases List.mem_or_eq_of_mem_set hs with h1 | h1
      · exact ih s h1
      · rw [h1]; exact q2
    · split
      · intro s hs
        rcases List.mem_or_eq_of_mem_set hs with h1 | h1
        · exact ih s h1
        · have hlt : w[i].1.toNat < (dCr mask torn k w i).1.length := by omega
          have h2 := ih _ (List.getElem_mem hlt)
          rw [h1, dPiece, List.getD_eq_getElem?_getD, List.getElem?_eq_getElem hlt]
          simp [q2, h2]; omega
      · exact ih
def dLost (mask torn : Int) (k : List Bs) (w : Ws) : List Bs := (dCr mask torn k w w.length).1
section disk
variable {mk : List Bs → Ws → Bool → A}
theorem disk_Crash_ok (hR : R.Ok) (hB : HasDisk R mk) {k : List Bs} {w : Ws} {d : Bool} (hok : dOk k w) (hw : w.length ≤ 1000) (mask torn : Int) {h : AHeap A} {b : Nat} (hb : h[b]? = some (.adt (mk k w d))) {K : AVal → AHeap A → Prop}
    (hk : if d = true then K (.int .i64 801) h else if mask < 0 ∨ torn < 0 then K (.int .i64 800) h else K (.int .i64 0) (h.set b (.adt (mk (dLost mask torn k w) [] true)))) : Tri Pr R n_disk_Disk_Crash [.ptr b 0, .int .i64 mask, .int .i64 torn] h K := by
  refine Tri.own hR (as2 := [.ptr 0 0, .int .i64 mask, .int .i64 torn]) (Q := fun v o => if d = true then v = .int .i64 801 ∧ o = .adt (mk k w d) else if mask < 0 ∨ torn < 0 then v = .int .i64 800 ∧ o = .adt (mk k w d) else v = .int .i64 0 ∧ o = .adt (mk (dLost mask torn k w) [] true)) rfl (disk_ix hB _ _ _ _) ?_ (disk_ren hB _ _ _) ?_ hb (by simp [rens, AVal.ren]) ?_
  · intro v o hq
    split at hq
    · obtain ⟨rfl, rfl⟩ := hq; exact ⟨rfl, disk_ren hB _ _ _⟩
    · split at hq <;> (obtain ⟨rfl, rfl⟩ := hq; exact ⟨rfl, disk_ren hB _ _ _⟩)
  · refine Tri.post (Tri.pre (Gives.opened 0 rfl (by simp) fun g hg => ?_))
    obtain rfl := (hB.lay _ _ _ _).1 hg
    refine Gives.done (by simp) ?_
    apply c_disk_Disk_Crash
    unfold p_disk_Disk_Crash
    by_cases h0 : w = []
    · subst h0
      cases d with
      | true =>
        simp [diskG, GC.at]
        exact disk_shut0 hR hB 1 _ rfl rfl rfl (by omega) rfl ⟨_, rfl, _, ⟨rfl, rfl⟩, rfl⟩
      | false =>
        by_cases hm : mask < 0 ∨ torn < 0
        · by_cases hm1 : mask < 0
          · simp [diskG, GC.at, hm1]
            exact disk_shut0 hR hB 1 _ rfl rfl rfl (by omega) rfl ⟨_, rfl, _, ⟨rfl, rfl⟩, rfl⟩
          · have hm2 : torn < 0 := by omega
            simp [diskG, GC.at, hm1, hm2]
            exact disk_shut0 hR hB 1 _ rfl rfl rfl (by omega) rfl ⟨_, rfl, _, ⟨rfl, rfl⟩, rfl⟩
        · have m1 : ¬ mask < 0 := by omega
          have m2 : ¬ torn < 0 := by omega
          simp [diskG, GC.at, m1, m2]
          refine loopP_unr 1 ?_
          rw [unr]
          simp
          exact disk_shut0 hR hB 1 _ rfl rfl rfl (by omega) rfl ⟨_, rfl, _, ⟨rfl, rfl⟩, rfl⟩
    · cases d with
      | true =>
        simp [diskG, GC.at, h0]
        exact disk_shut hR hB h0 1 2 _ _ rfl rfl rfl rfl rfl (by omega) rfl ⟨_, rfl, _, ⟨rfl, rfl⟩, rfl⟩
      | false =>
        by_cases hm : mask < 0 ∨ torn < 0
        · by_cases hm1 : mask < 0
          · simp [diskG, GC.at, h0, hm1]
            exact disk_shut hR hB h0 1 2 _ _ rfl rfl rfl rfl rfl (by omega) rfl ⟨_, rfl, _, ⟨rfl, rfl⟩, rfl⟩
          · have hm2 : torn < 0 := by omega
            simp [diskG, GC.at, h0, hm1, hm2]
            exact disk_shut hR hB h0 1 2 _ _ rfl rfl rfl rfl rfl (by omega) rfl ⟨_, rfl, _, ⟨rfl, rfl⟩, rfl⟩
        · have m1 : ¬ mask < 0 := by omega
          have m2 : ¬ torn < 0 := by omega
          simp [diskG, GC.at, h0, m1, m2]
          refine loopP_go (fun m y g => ∃ i : Nat, y = [.bool (dCr mask torn k w i).2, .int .i64 i] ∧ g = [.cells t_disk_Disk [.sl 1 0 k.length k.length true, .sl 2 0 w.length w.length false, .bool false], .cells t_string ((dCr mask torn k w i).1.map .str), .cells t_disk_write (wCells w)] ∧ i ≤ w.length ∧ m = w.length - i) w.length
            (Gives.done (by simp) ⟨0, by simp [dCr], by simp [dCr], by omega, by omega⟩) ?_
          rintro m y g ⟨i, rfl, rfl, hi, rfl⟩
          simp
          refine iteP_of (fun h1 => ?_) (fun h1 => ?_)
          · simp at h1
            have e1 := w64 (n := (i : Int) + 1) (by omega)
            have hwc := wCells_at w i h1
            have hwl := wCells_len w
            have hle : i * 2 + 2 ≤ (wCells w).length := by omega
            obtain ⟨q0, q1, q2⟩ := hok.wait w[i] (List.getElem_mem h1)
            have hg : w.getD i (0, []) = w[i] := by simp [List.getD_eq_getElem?_getD, h1]
            have hdl := dCr_len mask torn k w i
            have hfl := dCr_full (mask := mask) hok (by omega : 0 ≤ torn) i hi
            have hlt : w[i].1.toNat < (dCr mask torn k w i).1.length := by omega
            have hol := hfl _ (List.getElem_mem hlt)
            have hso := fun (g : AHeap A) (s : Bs) => setO_one g 1 w[i].1.toNat (.str s) t_string ((dCr mask torn k w i).1.map .str) rfl (by simp; omega)
            have hnx : dCr mask torn k w (i + 1) = if dKeep mask i = true then ((dCr mask torn k w i).1.set w[i].1.toNat w[i].2, (dCr mask torn k w i).2) else if (dCr mask torn k w i).2 = true then ((dCr mask torn k w i).1.set w[i].1.toNat (dPiece torn w[i].2 ((dCr mask torn k w i).1.getD w[i].1.toNat [])), false) else dCr mask torn k w i := by rw [dCr, hg]
            have fin : ∀ (o : AObj A) (k' : List Bs) (f : Bool), dCr mask torn k w (i + 1) = (k', f) → Gives Pr R 3 [.cells t_disk_Disk [.sl 1 0 k.length k.length true, .sl 2 0 w.length w.length false, .bool false], .cells t_string (k'.map .str), .cells t_disk_write (wCells w), o] [.bool f, .int .i64 ((i : Int) + 1)] fun y g => ∃ m', m' < w.length - i ∧ ∃ i : Nat, y = [.bool (dCr mask torn k w i).2, .int .i64 i] ∧ g = [.cells t_disk_Disk [.sl 1 0 k.length k.length true, .sl 2 0 w.length w.length false, .bool false], .cells t_string ((dCr mask torn k w i).1.map .str), .cells t_disk_write (wCells w)] ∧ i ≤ w.length ∧ m' = w.length - i := by
              intro o k' f he
              refine Gives.cut hR (m := 3) (by omega) (by simp) rfl (by simp; exact ⟨low_cells rfl, low_cells (strs_ix _ _), low_cells (wCells_ix _ _)⟩) ?_
              exact ⟨w.length - (i + 1), by omega, i + 1, by simp [he], by simp [he], by omega, rfl⟩
            refine joinP_go ?_
            obtain ⟨c, hc, hcl⟩ : ∃ c : Nat, (if (w[i].2.length : Int) < torn then (w[i].2.length : Int) else torn) = (c : Int) ∧ c = min torn.toNat 64 := ⟨_, by split <;> omega, rfl⟩
            have hc1 : c ≤ 64 := by omega
            have hc2 : (c : Int) ≤ 64 := by omega
            have hmin : min c 64 = c := by omega
            have hadd : c + (64 - c) < 9223372036854775808 := by omega
            simp [h1, hwc, hle, q0, q1, e1, hso, hc, hlt, List.getElem?_eq_getElem hlt]
            have hbit := bits_and1 (mask.fdiv (2 ^ min i IntKind.i64.bits))
            by_cases h2 : i < 30
            · have h2' : (i : Int) < 30 := by omega
              have hb2 : mask.fdiv (2 ^ min i IntKind.i64.bits) % 2 = mask / 2 ^ i % 2 := by
                rw [show min i IntKind.i64.bits = i from Nat.min_eq_left (by show i ≤ 64; omega), Int.fdiv_eq_ediv_of_nonneg _ (Int.le_of_lt (Int.pow_pos (by omega)))]
              rw [hb2] at hbit
              by_cases h3 : mask / 2 ^ i % 2 = 1
              · simp [h2', hbit, h3]
                have := fin (AObj.cells t_disk_write [.int .i64 w[i].1, .str w[i].2]) _ _ (by rw [hnx, if_pos (by simp [dKeep, h2, h3])])
                simpa using this
              · have h3' : (mask / 2 ^ i % 2 == 1) = false := by simp [h3]
                rw [if_neg (by simp [dKeep, h2, h3])] at hnx
                cases hf : (dCr mask torn k w i).2 with
                | true =>
                  simp [h2', hbit, h3', q2, hol, hc1, hc2, hmin, hadd, hso]
                  have := fin (AObj.cells t_disk_write [.int .i64 w[i].1, .str w[i].2]) _ _ (by rw [hnx, if_pos hf])
                  simpa [dPiece, hcl, hlt] using this
                | false =>
                  simp [h2', hbit, h3']
                  have := fin (AObj.cells t_disk_write [.int .i64 w[i].1, .str w[i].2]) _ false (by rw [hnx, if_neg (by simp [hf]), ← hf])
                  simpa using this
            · have h2' : ¬ (i : Int) < 30 := by omega
              rw [if_neg (by simp [dKeep, h2])] at hnx
              cases hf : (dCr mask torn k w i).2 with
              | true =>
                simp [h2', q2, hol, hc1, hc2, hmin, hadd, hso]
                have := fin (AObj.cells t_disk_write [.int .i64 w[i].1, .str w[i].2]) _ _ (by rw [hnx, if_pos hf])
                simpa [dPiece, hcl, hlt] using this
              | false =>
                simp [h2']
                have := fin (AObj.cells t_disk_write [.int .i64 w[i].1, .str w[i].2]) _ false (by rw [hnx, if_neg (by simp [hf]), ← hf])
                simpa using this
          · simp at h1
            obtain rfl : i = w.length := by omega
            exact disk_shut0 hR hB 1 _ (dCr_len mask torn k w _).symm rfl rfl (by omega) rfl ⟨_, rfl, _, ⟨rfl, rfl⟩, rfl⟩
  · intro v o hq
    cases d with
    | true => simp at hq hk; obtain ⟨rfl, rfl⟩ := hq; rw [set_same hb]; exact hk
    | false =>
      simp at hq hk
      by_cases hm : mask < 0 ∨ torn < 0
      · rw [if_pos hm] at hq hk; obtain ⟨rfl, rfl⟩ := hq; rw [set_same hb]; exact hk
      · rw [if_neg hm] at hq hk; obtain ⟨rfl, rfl⟩ := hq; exact hk
end disk
end Go.AI

/- The document's disk crashes; its new disks. -/
set_option linter.all false
namespace Go.AI
variable {A : Type} {R : Adts A}
theorem Gives.pick2 (hR : R.Ok) {t t2 : TypeId} {m : Nat} {ex : Bool} {rest cs : List AVal} (j : Nat) {h : AHeap A} {vs : List AVal} {K : List AVal → AHeap A → Prop} (h0 : h[0]? = some (.cells t (.sl j 0 m m ex :: rest))) (hj : h[j]? = some (.cells t2 cs)) (hj0 : 0 ≠ j)
    (hr : ixs 0 rest = true) (hc : ixs 0 cs = true) (hv : ixs 0 vs = true) (hk : K vs [.cells t (.sl 1 0 m m ex :: rest), .cells t2 cs]) : Gives Pr R 1 h vs K := by
  have h1 : at_ [0, j] h.length 1 = j := at_get (by simp)
  refine Gives.keep hR [0, j] (h2 := [.cells t (.sl 1 0 m m ex :: rest), .cells t2 cs]) (vs2 := vs) ⟨by simp, by simpa using hj0, fun k o' hk => ?_, fun o' ho' => ?_⟩ (by rw [rens_ix0 _ _ hv]) (ixs_mono (Nat.zero_le _) _ hv) (fun k hk => match k, hk with | 0, _ => rfl) (Gives.done (by simp) hk)
  · match k, hk with
    | 0, hk => simp at hk; subst hk; exact ⟨0, rfl, by rw [h0]; simp [AObj.ren, rens, AVal.ren, h1, rens_ix0 _ _ hr]⟩
    | 1, hk => simp at hk; subst hk; exact ⟨j, rfl, by rw [hj]; simp [AObj.ren, rens_ix0 _ _ hc]⟩
    | k + 2, hk => simp at hk
  · simp at ho'
    rcases ho' with rfl | rfl
    · show ixs _ _ = true
      simp [ixs, AVal.ix]; exact ixs_mono (Nat.zero_le _) _ hr
    · exact ixs_mono (Nat.zero_le _) _ hc
section disk
variable {mk : List Bs → Ws → Bool → A}
theorem rdisk_Crash_ok (hR : R.Ok) (hB : HasRDisk R mk) {k : List Bs} {w : Ws} {d : Bool} (hok : dOk k w) (hw : w.length ≤ 1000) (mask torn : Int) {h : AHeap A} {b : Nat} (hb : h[b]? = some (.adt (mk k w d))) {K : AVal → AHeap A → Prop}
    (hk : if d = true then K (.int .i64 801) h else if mask < 0 ∨ torn < 0 then K (.int .i64 800) h else K (.int .i64 0) (h.set b (.adt (mk (dLost mask torn k w) [] true)))) : Tri Pr R n_ref1_Disk_Crash [.ptr b 0, .int .i64 mask, .int .i64 torn] h K := by
  refine Tri.own hR (as2 := [.ptr 0 0, .int .i64 mask, .int .i64 torn]) (Q := fun v o => if d = true then v = .int .i64 801 ∧ o = .adt (mk k w d) else if mask < 0 ∨ torn < 0 then v = .int .i64 800 ∧ o = .adt (mk k w d) else v = .int .i64 0 ∧ o = .adt (mk (dLost mask torn k w) [] true)) rfl (rdisk_ix hB _ _ _ _) ?_ (rdisk_ren hB _ _ _) ?_ hb (by simp [rens, AVal.ren]) ?_
  · intro v o hq
    split at hq
    · obtain ⟨rfl, rfl⟩ := hq; exact ⟨rfl, rdisk_ren hB _ _ _⟩
    · split at hq <;> (obtain ⟨rfl, rfl⟩ := hq; exact ⟨rfl, rdisk_ren hB _ _ _⟩)
  · refine Tri.post (Tri.pre (Gives.opened 0 rfl (by simp) fun g hg => ?_))
    obtain rfl := (hB.lay _ _ _ _).1 hg
    refine Gives.done (by simp) ?_
    apply c_ref1_Disk_Crash
    unfold p_ref1_Disk_Crash
    by_cases h0 : w = []
    · subst h0
      cases d with
      | true =>
        simp [rdiskG, GC.at]
        exact rdisk_shut0 hR hB 1 _ rfl rfl rfl (by omega) rfl ⟨_, rfl, _, ⟨rfl, rfl⟩, rfl⟩
      | false =>
        by_cases hm : mask < 0 ∨ torn < 0
        · by_cases hm1 : mask < 0
          · simp [rdiskG, GC.at, hm1]
            exact rdisk_shut0 hR hB 1 _ rfl rfl rfl (by omega) rfl ⟨_, rfl, _, ⟨rfl, rfl⟩, rfl⟩
          · have hm2 : torn < 0 := by omega
            simp [rdiskG, GC.at, hm1, hm2]
            exact rdisk_shut0 hR hB 1 _ rfl rfl rfl (by omega) rfl ⟨_, rfl, _, ⟨rfl, rfl⟩, rfl⟩
        · have m1 : ¬ mask < 0 := by omega
          have m2 : ¬ torn < 0 := by omega
          simp [rdiskG, GC.at, m1, m2]
          refine loopP_unr 1 ?_
          rw [unr]
          simp
          exact rdisk_shut0 hR hB 1 _ rfl rfl rfl (by omega) rfl ⟨_, rfl, _, ⟨rfl, rfl⟩, rfl⟩
    · cases d with
      | true =>
        simp [rdiskG, GC.at, h0]
        exact rdisk_shut hR hB h0 1 2 _ _ rfl rfl rfl rfl rfl (by omega) rfl ⟨_, rfl, _, ⟨rfl, rfl⟩, rfl⟩
      | false =>
        by_cases hm : mask < 0 ∨ torn < 0
        · by_cases hm1 : mask < 0
          · simp [rdiskG, GC.at, h0, hm1]
            exact rdisk_shut hR hB h0 1 2 _ _ rfl rfl rfl rfl rfl (by omega) rfl ⟨_, rfl, _, ⟨rfl, rfl⟩, rfl⟩
          · have hm2 : torn < 0 := by omega
            simp [rdiskG, GC.at, h0, hm1, hm2]
            exact rdisk_shut hR hB h0 1 2 _ _ rfl rfl rfl rfl rfl (by omega) rfl ⟨_, rfl, _, ⟨rfl, rfl⟩, rfl⟩
        · have m1 : ¬ mask < 0 := by omega
          have m2 : ¬ torn < 0 := by omega
          simp [rdiskG, GC.at, h0, m1, m2]
          refine loopP_go (fun m y g => ∃ i : Nat, y = [.bool (!(dCr mask torn k w i).2), .int .i64 i] ∧ g = [.cells t_bastionref1_Disk [.sl 1 0 k.length k.length false, .sl 2 0 w.length w.length false, .bool false], .cells t_string ((dCr mask torn k w i).1.map .str), .cells t_bastionref1_write (wCells w)] ∧ i ≤ w.length ∧ m = w.length - i) w.length
            (Gives.done (by simp) ⟨0, by simp [dCr], by simp [dCr], by omega, by omega⟩) ?_
          rintro m y g ⟨i, rfl, rfl, hi, rfl⟩
          simp
          refine iteP_of (fun h1 => ?_) (fun h1 => ?_)
          · simp at h1
            have e1 := w64 (n := (i : Int) + 1) (by omega)
            have hwc := wCells_at w i h1
            have hwl := wCells_len w
            have hle : i * 2 + 2 ≤ (wCells w).length := by omega
            obtain ⟨q0, q1, q2⟩ := hok.wait w[i] (List.getElem_mem h1)
            have hg : w.getD i (0, []) = w[i] := by simp [List.getD_eq_getElem?_getD, h1]
            have hdl := dCr_len mask torn k w i
            have hfl := dCr_full (mask := mask) hok (by omega : 0 ≤ torn) i hi
            have hlt : w[i].1.toNat < (dCr mask torn k w i).1.length := by omega
            have hol := hfl _ (List.getElem_mem hlt)
            have hso := fun (g : AHeap A) (s : Bs) => setO_one g 1 w[i].1.toNat (.str s) t_string ((dCr mask torn k w i).1.map .str) rfl (by simp; omega)
            have hnx : dCr mask torn k w (i + 1) = if dKeep mask i = true then ((dCr mask torn k w i).1.set w[i].1.toNat w[i].2, (dCr mask torn k w i).2) else if (dCr mask torn k w i).2 = true then ((dCr mask torn k w i).1.set w[i].1.toNat (dPiece torn w[i].2 ((dCr mask torn k w i).1.getD w[i].1.toNat [])), false) else dCr mask torn k w i := by rw [dCr, hg]
            have fin : ∀ (o : AObj A) (k' : List Bs) (f : Bool), dCr mask torn k w (i + 1) = (k', f) → Gives Pr R 3 [.cells t_bastionref1_Disk [.sl 1 0 k.length k.length false, .sl 2 0 w.length w.length false, .bool false], .cells t_string (k'.map .str), .cells t_bastionref1_write (wCells w), o] [.bool (!f), .int .i64 ((i : Int) + 1)] fun y g => ∃ m', m' < w.length - i ∧ ∃ i : Nat, y = [.bool (!(dCr mask torn k w i).2), .int .i64 i] ∧ g = [.cells t_bastionref1_Disk [.sl 1 0 k.length k.length false, .sl 2 0 w.length w.length false, .bool false], .cells t_string ((dCr mask torn k w i).1.map .str), .cells t_bastionref1_write (wCells w)] ∧ i ≤ w.length ∧ m' = w.length - i := by
              intro o k' f he
              refine Gives.cut hR (m := 3) (by omega) (by simp) rfl (by simp; exact ⟨low_cells rfl, low_cells (strs_ix _ _), low_cells (wCells_ix _ _)⟩) ?_
              exact ⟨w.length - (i + 1), by omega, i + 1, by simp [he], by simp [he], by omega, rfl⟩
            refine joinP_go ?_
            obtain ⟨c, hc, hcl⟩ : ∃ c : Nat, (if (64 : Int) < torn then (64 : Int) else torn) = (c : Int) ∧ c = min torn.toNat 64 := ⟨_, by split <;> omega, rfl⟩
            have hc1 : c ≤ 64 := by omega
            have hc2 : (c : Int) ≤ 64 := by omega
            have hmin : min c 64 = c := by omega
            have e3 := wu64 (n := (i : Int)) (by omega)
            have hadd : c + (64 - c) < 9223372036854775808 := by omega
            simp [h1, hwc, hle, q0, q1, e1, hso, hc, hlt, List.getElem?_eq_getElem hlt]
            have hbit := bits_and1 (mask.fdiv (2 ^ min i IntKind.i64.bits))
            by_cases h2 : i < 30
            · have h2' : (i : Int) < 30 := by omega
              have hb2 : mask.fdiv (2 ^ min i IntKind.i64.bits) % 2 = mask / 2 ^ i % 2 := by
                rw [show min i IntKind.i64.bits = i from Nat.min_eq_left (by show i ≤ 64; omega), Int.fdiv_eq_ediv_of_nonneg _ (Int.le_of_lt (Int.pow_pos (by omega)))]
              rw [hb2] at hbit
              by_cases h3 : mask / 2 ^ i % 2 = 1
              · simp [h2', e3, hbit, h3]
                have := fin (AObj.cells t_bastionref1_write [.int .i64 w[i].1, .str w[i].2]) _ _ (by rw [hnx, if_pos (by simp [dKeep, h2, h3])])
                simpa using this
              · have h3' : (mask / 2 ^ i % 2 == 1) = false := by simp [h3]
                rw [if_neg (by simp [dKeep, h2, h3])] at hnx
                cases hf : (dCr mask torn k w i).2 with
                | true =>
                  simp [h2', e3, hbit, h3', q2, hol, hc1, hc2, hmin, hadd, hso]
                  have := fin (AObj.cells t_bastionref1_write [.int .i64 w[i].1, .str w[i].2]) _ _ (by rw [hnx, if_pos hf])
                  simpa [dPiece, hcl, hlt] using this
                | false =>
                  simp [h2', e3, hbit, h3']
                  have := fin (AObj.cells t_bastionref1_write [.int .i64 w[i].1, .str w[i].2]) _ false (by rw [hnx, if_neg (by simp [hf]), ← hf])
                  simpa using this
            · have h2' : ¬ (i : Int) < 30 := by omega
              rw [if_neg (by simp [dKeep, h2])] at hnx
              cases hf : (dCr mask torn k w i).2 with
              | true =>
                simp [h2', q2, hol, hc1, hc2, hmin, hadd, hso]
                have := fin (AObj.cells t_bastionref1_write [.int .i64 w[i].1, .str w[i].2]) _ _ (by rw [hnx, if_pos hf])
                simpa [dPiece, hcl, hlt] using this
              | false =>
                simp [h2']
                have := fin (AObj.cells t_bastionref1_write [.int .i64 w[i].1, .str w[i].2]) _ false (by rw [hnx, if_neg (by simp [hf]), ← hf])
                simpa using this
          · simp at h1
            obtain rfl : i = w.length := by omega
            exact rdisk_shut0 hR hB 1 _ (dCr_len mask torn k w _).symm rfl rfl (by omega) rfl ⟨_, rfl, _, ⟨rfl, rfl⟩, rfl⟩
  · intro v o hq
    cases d with
    | true => simp at hq hk; obtain ⟨rfl, rfl⟩ := hq; rw [set_same hb]; exact hk
    | false =>
      simp at hq hk
      by_cases hm : mask < 0 ∨ torn < 0
      · rw [if_pos hm] at hq hk; obtain ⟨rfl, rfl⟩ := hq; rw [set_same hb]; exact hk
      · rw [if_neg hm] at hq hk; obtain ⟨rfl, rfl⟩ := hq; exact hk
theorem rdisk_New_ok (hR : R.Ok) (hB : HasRDisk R mk) (n : Int) {h : AHeap A} {K : AVal → AHeap A → Prop}
    (hk : if 1 ≤ n ∧ n ≤ 256 then K (.tup [.ptr h.length 0, .int .i64 0]) (h ++ [.adt (mk (List.replicate n.toNat zSec) [] false)]) else K (.tup [.nilp, .int .i64 800]) h) : Tri Pr R n_ref1_NewDisk [.int .i64 n] h K := by
  by_cases hm : 1 ≤ n ∧ n ≤ 256
  · rw [if_pos hm] at hk
    refine Tri.make hR rfl (v0 := .tup [.ptr 0 0, .int .i64 0]) (h0 := [.adt (mk (List.replicate n.toNat zSec) [] false)]) (Tri.post ?_) (by simpa [AVal.ren, rens, rdisk_ren hB] using hk)
    apply c_ref1_NewDisk
    unfold p_ref1_NewDisk
    have h1 : ¬ n < 1 := by omega
    have h2 : ¬ 256 < n := by omega
    simp [h1, h2]
    refine loopP_go (fun m y g => ∃ i : Nat, y = [.int .i64 i] ∧ ((i = 0 ∧ g = [.cells t_bastionref1_Disk [.nils, .nils, .bool false]]) ∨ (i ≠ 0 ∧ g = [.cells t_bastionref1_Disk [.sl 1 0 i i false, .nils, .bool false], .cells t_string ((List.replicate i zSec).map .str)])) ∧ i ≤ n.toNat ∧ m = n.toNat - i) n.toNat
      (Gives.done (by simp) ⟨0, rfl, .inl ⟨rfl, rfl⟩, by omega, by omega⟩) ?_
    rintro m y g ⟨i, rfl, hg, hi, rfl⟩
    simp
    refine iteP_of (fun h3 => ?_) (fun h3 => ?_)
    · simp at h3
      have e1 := w64 (n := (i : Int) + 1) (by omega)
      rcases hg with ⟨rfl, rfl⟩ | ⟨hne, rfl⟩
      · simp [mkslP]
        refine z_read (by rfl) (by rfl) ?_
        simp [appP, appV, srcOf, cellsAt]
        refine Gives.pick2 hR 3 rfl rfl (by omega) rfl rfl rfl ?_
        exact ⟨n.toNat - 1, by omega, 1, rfl, .inr ⟨by omega, rfl⟩, by omega, rfl⟩
      · have h6 : ¬ i + 1 ≤ i := by omega
        have h7 : (2 * (i + 1) + 1000) * 16 ≤ 140737488355328 := by omega
        simp [mkslP]
        refine z_read (by rfl) (by rfl) ?_
        simp [appP, appV, srcOf, cellsAt, h6, h7, e1]
        refine Gives.pick2 hR 4 rfl rfl (by omega) rfl (by simp [ixs_all, AVal.ix]) rfl ?_
        refine ⟨n.toNat - (i + 1), by omega, i + 1, by simp, .inr ⟨by omega, ?_⟩, by omega, rfl⟩
        simp [List.replicate_succ']
    · simp at h3
      obtain rfl : i = n.toNat := by omega
      rcases hg with ⟨h4, rfl⟩ | ⟨hne, rfl⟩
      · omega
      · have hg : (rdiskG (List.replicate n.toNat zSec) [] false : Grp A) = { e := t_bastionref1_Disk, cs := [.sl 0 0 n.toNat n.toNat false, .g .nils, .g (.bool false)], subs := [.cells t_string (List.replicate n.toNat (.str zSec))] } := by simp [rdiskG]
        have hu := hB.lay (List.replicate n.toNat zSec) [] false _ |>.2 hg.symm
        refine Gives.shut 0 [1] (mk (List.replicate n.toNat zSec) [] false) _ hu rfl rfl (fun i s hs => ?_) (by simp) (by simp; omega) (by simp) ?_
        · match i, hs with
          | 0, hs => simp at hs; subst hs; exact ⟨by simp, rfl⟩
          | i + 1, hs => simp at hs
        · refine Gives.cut hR (m := 1) (by omega) (by simp [kills_length]) rfl (by simp [kills]; exact ⟨rdisk_ix hB _ _ _ _, fun τ _ => rdisk_ren hB _ _ _ _⟩) ?_
          exact ⟨_, rfl, rfl, rfl⟩
  · rw [if_neg hm] at hk
    refine Tri.fn1 hR _ rfl rfl ?_ hk
    apply c_ref1_NewDisk
    unfold p_ref1_NewDisk
    simp
    refine iteP_of (fun h1 => iteP_of (fun h2 => Ans.rfl' _) (fun h2 => ?_)) (fun h1 => Ans.rfl' _)
    simp at h1 h2; omega
end disk
end Go.AI

/- The data types of this seat. -/
set_option linter.all false
namespace Go.AI
inductive D where
  | book (m : Int) (ts : List Bs)
  | rbook (m : Int) (ts : List Bs)
def D.lay : D → Grp D → Prop
  | .book m ts, g => g = bookG m ts
  | .rbook m ts, g => g = rbookG m ts
def RD : Adts D := ⟨D.lay, fun _ a => a⟩
theorem bEnts_ren (τ : Nat → Nat) : ∀ (ts : List Bs) (i : Nat), (bEnts ts i).map (AEnt.ren τ) = bEnts ts i
  | [], _ => rfl
  | s :: r, i => by simp [bEnts, AEnt.ren, AVal.ren, bEnts_ren τ r]
theorem strs_ren (τ : Nat → Nat) (ts : List Bs) : rens τ (ts.map .str) = ts.map .str := rens_ix0 τ _ (by simp [ixs_all, AVal.ix])
theorem bookG_ren {A : Type} (R : Adts A) (τ : Nat → Nat) (m : Int) (ts : List Bs) : (bookG m ts : Grp A).ren R τ = bookG m ts := by
  unfold bookG Grp.ren
  split <;> simp [GC.ren, AVal.ren, AObj.ren, bEnts_ren, strs_ren]
theorem rbookG_ren {A : Type} (R : Adts A) (τ : Nat → Nat) (m : Int) (ts : List Bs) : (rbookG m ts : Grp A).ren R τ = rbookG m ts := by
  unfold rbookG Grp.ren
  split <;> simp [GC.ren, AVal.ren, AObj.ren, strs_ren]
end Go.AI

/- The data types of the disks' statements. -/
set_option linter.all false
namespace Go.AI
inductive DD where
  | disk (k : List Bs) (w : Ws) (d : Bool)
  | rdisk (k : List Bs) (w : Ws) (d : Bool)
def DD.lay : DD → Grp DD → Prop
  | .disk k w d, g => g = diskG k w d
  | .rdisk k w d, g => g = rdiskG k w d
def RDD : Adts DD := ⟨DD.lay, fun _ a => a⟩
theorem wCells_ren (τ : Nat → Nat) (w : Ws) : rens τ (wCells w) = wCells w := rens_ix0 τ _ (wCells_ix 0 w)
theorem diskG_ren {A : Type} (R : Adts A) (τ : Nat → Nat) (k : List Bs) (w : Ws) (d : Bool) : (diskG k w d : Grp A).ren R τ = diskG k w d := by
  unfold diskG Grp.ren
  split <;> simp [GC.ren, AVal.ren, AObj.ren, wCells_ren, strs_ren]
theorem rdiskG_ren {A : Type} (R : Adts A) (τ : Nat → Nat) (k : List Bs) (w : Ws) (d : Bool) : (rdiskG k w d : Grp A).ren R τ = rdiskG k w d := by
  unfold rdiskG Grp.ren
  split <;> simp [GC.ren, AVal.ren, AObj.ren, wCells_ren, strs_ren]
end Go.AI

/- What a disk's calls do, told by equations. -/
set_option linter.all false
namespace Go.AI
variable {A : Type} {R : Adts A}
theorem dOk_new {n : Int} (h : 1 ≤ n ∧ n ≤ 256) : dOk (List.replicate n.toNat zSec) [] := ⟨by simp; omega, fun s hs => by simp at hs; rw [hs.2]; rfl, by simp⟩
theorem dWrite_good {k : List Bs} {w : Ws} {x : Int} {s : Bs} (h : 0 ≤ x ∧ x < k.length ∧ s.length = 64) : dWrite k w false x s = (w ++ [(x, s)], 0) := by
  unfold dWrite; rw [if_neg (by simp), if_neg (by omega)]
theorem dOk_write {k : List Bs} {w : Ws} {x : Int} {s : Bs} (h : dOk k w) (h2 : 0 ≤ x ∧ x < k.length ∧ s.length = 64) : dOk k (w ++ [(x, s)]) :=
  ⟨h.size, h.full, fun a ha => by rcases List.mem_append.1 ha with h1 | h1; exact h.wait a h1; simp at h1; subst h1; exact h2⟩
theorem dOk_any {k : List Bs} {w : Ws} {d : Bool} {x : Int} {s : Bs} (h : dOk k w) : dOk k (dWrite k w d x s).1 ∧ (dWrite k w d x s).1.length ≤ w.length + 1 := by
  unfold dWrite
  split
  · exact ⟨h, by simp⟩
  · split
    · exact ⟨h, by simp⟩
    · exact ⟨dOk_write h (by omega), by simp⟩
theorem dOk_put {k : List Bs} {w : Ws} (h : dOk k w) : dOk (dPut k w) [] := ⟨by rw [dPut_len]; exact h.size, dPut_full h, by simp⟩
theorem dOk_lost {k : List Bs} {w : Ws} {mask torn : Int} (h : dOk k w) (ht : 0 ≤ torn) : dOk (dLost mask torn k w) [] := ⟨by unfold dLost; rw [dCr_len]; exact h.size, dCr_full h ht _ (Nat.le_refl _), by simp⟩
section disk
variable {mk : List Bs → Ws → Bool → A}
theorem disk_Write_at (hR : R.Ok) (hB : HasDisk R mk) {k : List Bs} {w w' : Ws} {d : Bool} {x e : Int} {s : Bs} (hok : dOk k w) (hw : w.length ≤ 1000) (he : dWrite k w d x s = (w', e)) {h : AHeap A} {b : Nat} (hb : h[b]? = some (.adt (mk k w d))) {K : AVal → AHeap A → Prop}
    (hk : K (.int .i64 e) (h.set b (.adt (mk k w' d)))) : Tri Pr R n_disk_Disk_Write [.ptr b 0, .int .i64 x, .str s] h K := by
  refine disk_Write_ok hR hB hok hw x s hb ?_
  rw [he]; exact hk
theorem disk_Flush_at (hR : R.Ok) (hB : HasDisk R mk) {k k' : List Bs} {w : Ws} (hok : dOk k w) (hw : w.length ≤ 1000) (he : dPut k w = k') {h : AHeap A} {b : Nat} (hb : h[b]? = some (.adt (mk k w false))) {K : AVal → AHeap A → Prop}
    (hk : K (.int .i64 0) (h.set b (.adt (mk k' [] false)))) : Tri Pr R n_disk_Disk_Flush [.ptr b 0] h K := by
  refine disk_Flush_ok hR hB hok hw hb ?_
  rw [if_neg (by simp), he]; exact hk
theorem disk_Read_at (hR : R.Ok) (hB : HasDisk R mk) {k : List Bs} {w : Ws} {d : Bool} {x e : Int} {s : Bs} (hok : dOk k w) (hw : w.length ≤ 1000) (he : dRead k w d x = (s, e)) {h : AHeap A} {b : Nat} (hb : h[b]? = some (.adt (mk k w d))) {K : AVal → AHeap A → Prop}
    (hk : K (.tup [.str s, .int .i64 e]) h) : Tri Pr R n_disk_Disk_Read [.ptr b 0, .int .i64 x] h K := by
  refine disk_Read_ok hR hB hok hw x hb ?_
  rw [he]; exact hk
theorem disk_Crash_at (hR : R.Ok) (hB : HasDisk R mk) {k k' : List Bs} {w : Ws} {mask torn : Int} (hok : dOk k w) (hw : w.length ≤ 1000) (h0 : 0 ≤ mask ∧ 0 ≤ torn) (he : dLost mask torn k w = k') {h : AHeap A} {b : Nat} (hb : h[b]? = some (.adt (mk k w false))) {K : AVal → AHeap A → Prop}
    (hk : K (.int .i64 0) (h.set b (.adt (mk k' [] true)))) : Tri Pr R n_disk_Disk_Crash [.ptr b 0, .int .i64 mask, .int .i64 torn] h K := by
  refine disk_Crash_ok hR hB hok hw mask torn hb ?_
  rw [if_neg (by simp), if_neg (by omega), he]; exact hk
theorem disk_Restart_at (hR : R.Ok) (hB : HasDisk R mk) {k : List Bs} {w : Ws} {h : AHeap A} {b : Nat} (hb : h[b]? = some (.adt (mk k w true))) {K : AVal → AHeap A → Prop}
    (hk : K (.int .i64 0) (h.set b (.adt (mk k w false)))) : Tri Pr R n_disk_Disk_Restart [.ptr b 0] h K := by
  refine disk_Restart_ok hR hB hb ?_
  rw [if_pos rfl]; exact hk
theorem disk_New_at (hR : R.Ok) (hB : HasDisk R mk) {n : Int} {k : List Bs} (hn : 1 ≤ n ∧ n ≤ 256) (he : List.replicate n.toNat zSec = k) {h : AHeap A} {K : AVal → AHeap A → Prop}
    (hk : K (.tup [.ptr h.length 0, .int .i64 0]) (h ++ [.adt (mk k [] false)])) : Tri Pr R n_disk_New [.int .i64 n] h K := by
  refine disk_New_ok hR hB n ?_
  rw [if_pos hn, he]; exact hk
end disk
end Go.AI

/- Journals, plainly. -/
set_option linter.all false
namespace Go.AI
variable {A : Type} {R : Adts A}
/-- A journal: the boot's number, the last one's name, the events, is it over. -/
structure JS where
  boot : Int
  prev : Int
  es : List Ev
  over : Bool
deriving DecidableEq
/-- Records one behind the other: the terms, the sectors, the last one's name, were all made? -/
def jRecs (m boot : Int) : List Bs → Int → Int → List Ev → List Bs × List Bs × Int × Bool
  | ts, _, p, [] => (ts, [], p, true)
  | ts, q, p, e :: r =>
    match recPut m ts ⟨q + 1, boot, p, e⟩ with
    | (t, s, n, f) => if f = 0 then (match jRecs m boot t (q + 1) n r with | (t2, ss, p2, ok) => if ok = true then (t2, s :: ss, p2, true) else (t2, [], 0, false)) else (t, [], 0, false)
/-- Sectors one behind the other. -/
def jWs : Int → List Bs → Ws
  | _, [] => []
  | q, s :: r => (q, s) :: jWs (q + 1) r
/-- What a call of Append or Write lets wait. -/
def jPut (m : Int) (ts : List Bs) (J : JS) (size : Nat) (down : Bool) (es : List Ev) : List Bs × List Bs × Int × Int :=
  if J.over = true ∨ down = true then (ts, [], 0, 1102)
  else if es.all evMay = true then
    (if (size : Int) - 2 - J.es.length < es.length then (ts, [], 0, 1101)
     else match jRecs m J.boot ts J.es.length J.prev es with | (t, ss, p, ok) => if ok = true then (t, ss, p, 0) else (t, [], 0, 1101))
  else (ts, [], 0, 1100)
/-- What is found behind the last record. -/
def jLoad (ts : List Bs) (k : List Bs) : Nat → Int → List Ev → Int × List Ev
  | 0, p, es => (p, es)
  | n + 1, p, es =>
    if (2 + es.length : Nat) < k.length then
      (match recGet ts (k.getD (2 + es.length) []) (es.length + 1) p with | (r, name, e) => if e = 0 then jLoad ts k n name (es ++ [r.ev]) else (p, es))
    else (p, es)
/-- A journal is opened: the terms, the sectors, the journal or the error. -/
def jOpen (m : Int) (ts : List Bs) (k : List Bs) (w : Ws) (down : Bool) : List Bs × List Bs × Ws × (Int ⊕ JS) :=
  if down = true then (ts, k, w, .inl 1102)
  else if (k.length : Int) ≤ 2 then (ts, k, w, .inl 1100)
  else match sPick ts ((dPut k w).getD 0 []) ((dPut k w).getD 1 []) with
    | (boot, at_, _) => match sPut m ts (boot + 1) with
      | (t, s, e) => if e = 0 then
          (match jLoad t ((dPut k w).set at_.toNat s) k.length 0 [] with | (p, es) => (t, (dPut k w).set at_.toNat s, [], .inr ⟨boot + 1, p, es, false⟩))
        else (t, k, w, .inl 1101)
theorem jRecs_ok {m boot : Int} : ∀ (es : List Ev) {ts : List Bs} {q p : Int}, bOk m ts → bOk m (jRecs m boot ts q p es).1
  | [], _, _, _, h => h
  | e :: r, ts, q, p, h => by
    unfold jRecs
    obtain ⟨⟨t, s, n, f⟩, hx⟩ : ∃ x, recPut m ts ⟨q + 1, boot, p, e⟩ = x := ⟨_, rfl⟩
    have h1 := recPut_ok (r := ⟨q + 1, boot, p, e⟩) h
    rw [hx] at h1 ⊢
    dsimp only at h1 ⊢
    by_cases hf : f = 0
    · rw [if_pos hf]
      have h2 := jRecs_ok (boot := boot) r (q := q + 1) (p := n) h1
      obtain ⟨⟨t2, ss, p2, ok⟩, hy⟩ : ∃ x, jRecs m boot t (q + 1) n r = x := ⟨_, rfl⟩
      rw [hy] at h2 ⊢
      dsimp only at h2 ⊢
      split <;> exact h2
    · rw [if_neg hf]; exact h1
theorem jPut_ok {m : Int} {ts : List Bs} {J : JS} {size : Nat} {down : Bool} {es : List Ev} (h : bOk m ts) : bOk m (jPut m ts J size down es).1 := by
  unfold jPut
  split
  · exact h
  · split
    · split
      · exact h
      · have h2 := jRecs_ok (boot := J.boot) es (q := J.es.length) (p := J.prev) h
        obtain ⟨⟨t2, ss, p2, ok⟩, hy⟩ : ∃ x, jRecs m J.boot ts J.es.length J.prev es = x := ⟨_, rfl⟩
        rw [hy] at h2 ⊢
        dsimp only at h2 ⊢
        split <;> exact h2
    · exact h
/-- The sector of a record is as long as a sector. -/
theorem recPut_sec {m : Int} {ts t : List Bs} {r : Rec} {s : Bs} {n : Int} (h : recPut m ts r = (t, s, n, 0)) : s.length = 64 := by
  unfold recPut at h
  split at h
  · split at h
    · split at h
      · rename_i h3
        simp only [Prod.mk.injEq] at h
        rw [← h.2.1]
        exact pad_len h3
      · simp at h
    · simp at h
  · simp at h
theorem sPut_sec {m : Int} {ts t : List Bs} {boot : Int} {s : Bs} (h : sPut m ts boot = (t, s, 0)) : s.length = 64 := by
  unfold sPut at h
  split at h
  · split at h
    · simp only [Prod.mk.injEq] at h
      rw [← h.2.1]
      refine pad_len ?_
      have := nS_len boot
      have := nS_len (cMade m ts (supT boot)).2.1
      simp only [List.length_append]; omega
    · simp at h
  · simp at h
theorem jRecs_len {m boot : Int} (es : List Ev) : ∀ {ts t : List Bs} {q p p2 : Int} {ss : List Bs}, jRecs m boot ts q p es = (t, ss, p2, true) → ss.length = es.length ∧ ∀ s ∈ ss, s.length = 64 := by
  induction es with
  | nil =>
    intro ts t q p p2 ss h
    unfold jRecs at h
    have h2 := (Prod.mk.inj (Prod.mk.inj h).2).1
    rw [← h2]
    simp
  | cons e r ih =>
    intro ts t q p p2 ss h
    unfold jRecs at h
    obtain ⟨⟨t1, s, n, f⟩, hx⟩ : ∃ x, recPut m ts ⟨q + 1, boot, p, e⟩ = x := ⟨_, rfl⟩
    rw [hx] at h
    dsimp only at h
    by_cases hf : f = 0
    · subst hf
      rw [if_pos rfl] at h
      obtain ⟨⟨t2, ss2, p3, ok⟩, hy⟩ : ∃ x, jRecs m boot t1 (q + 1) n r = x := ⟨_, rfl⟩
      rw [hy] at h
      dsimp only at h
      cases ok with
      | false =>
        rw [if_neg (by simp)] at h
        exact absurd (Prod.mk.inj (Prod.mk.inj (Prod.mk.inj h).2).2).2 (by simp)
      | true =>
        rw [if_pos rfl] at h
        have h2 := (Prod.mk.inj (Prod.mk.inj h).2).1
        obtain ⟨h3, h4⟩ := ih hy
        rw [← h2]
        refine ⟨by simp [h3], ?_⟩
        simp only [List.mem_cons, forall_eq_or_imp]
        exact ⟨recPut_sec hx, h4⟩
    · rw [if_neg hf] at h
      exact absurd (Prod.mk.inj (Prod.mk.inj (Prod.mk.inj h).2).2).2 (by simp)
theorem jWs_len : ∀ (q : Int) (ss : List Bs), (jWs q ss).length = ss.length
  | _, [] => rfl
  | q, _ :: r => by simp [jWs, jWs_len (q + 1) r]
theorem jWs_snoc : ∀ (q : Int) (ss : List Bs) (s : Bs), jWs q (ss ++ [s]) = jWs q ss ++ [(q + ss.length, s)]
  | q, [], s => by simp [jWs]
  | q, a :: r, s => by
    simp only [List.cons_append, jWs, jWs_snoc (q + 1) r s, List.length_cons]
    congr 4
    omega
/-! The journal's object. -/
def jG (b d : Nat) (J : JS) : Grp A :=
  if J.es = [] then { e := t_journal_Journal, cs := [.g (.ptr b 0), .g (.ptr d 0), .g (.int .i64 J.boot), .g (.int .i64 J.prev), .g .nils, .g (.bool J.over)], subs := [] }
  else { e := t_journal_Journal, cs := [.g (.ptr b 0), .g (.ptr d 0), .g (.int .i64 J.boot), .g (.int .i64 J.prev), .sl 0 0 J.es.length J.es.length false, .g (.bool J.over)], subs := [.cells t_api_Event (J.es.flatMap Ev.row)] }
structure HasJrn (R : Adts A) (jm : Nat → Nat → JS → A) : Prop where
  lay : ∀ b d J g, R.lay (jm b d J) g ↔ g = jG b d J
  ren : ∀ τ b d J, R.ren τ (jm b d J) = jm (τ b) (τ d) J
theorem evs_ix (n : Nat) (l : List Ev) : ixs n (l.flatMap Ev.row) = true := by
  rw [ixs_all]
  simp only [List.all_flatMap, List.all_eq_true]
  intro x _
  simp [Ev.row, AVal.ix]
theorem evs_len (l : List Ev) : (l.flatMap Ev.row).length = l.length * 8 := by
  induction l with
  | nil => rfl
  | cons x r ih => simp only [List.flatMap_cons, List.length_append, ih, List.length_cons, Ev.row]; simp; omega
theorem jrn_ix {jm : Nat → Nat → JS → A} (hJ : HasJrn R jm) {b d n : Nat} (J : JS) (hb : b < n) (hd : d < n) : (AObj.adt (jm b d J)).ix R n := by
  intro g hg
  obtain rfl := (hJ.lay _ _ _ _).1 hg
  unfold jG
  split <;> simp [AVal.ix, evs_ix, hb, hd]
theorem jrn_ren {jm : Nat → Nat → JS → A} (hJ : HasJrn R jm) (b d : Nat) (J : JS) (τ : Nat → Nat) : (AObj.adt (jm b d J)).ren R τ = .adt (jm (τ b) (τ d) J) := by simp [AObj.ren, hJ.ren]
end Go.AI

/- errors.Is (printed by gen/is_gen.py after the kit's worked contracts). -/
set_option linter.all false
namespace Go.AI
open Go.RowKit Go.Extern.Stop Go.Stop Go.Extern Go.Proofs
theorem isTypeOf (v : Value) (w : World) : (Extern.ReflectliteType.typeOf #[.iface 40 v]).run Tryz.prog w = .ok (.iface 160 (.agg #[.pointer (some ⟨0, 40, none⟩)])) w := by kernel_rfl
def cmpFn : Array Value → Sem Value := Extern.ReflectliteType.method fun t => do Extern.Rtype.noPackHeld "Comparable" t; pure (.bool (← typeInfo t).comparable)
theorem isComparable (w : World) : (cmpFn #[.agg #[.pointer (some ⟨0, 40, none⟩)]]).run Tryz.prog w = .ok (.bool true) w := by kernel_rfl
theorem isMethodComparable (v : Value) (w : World) : (Go.method 324 160 v "Comparable").run Tryz.prog w = .ok (129, v) w := by kernel_rfl
theorem isComp : (Tryz.prog.info? 40).map (·.comparable) = some true := by kernel_rfl
theorem noIsE (v : Value) (xT : TypeId) (w : World) : (Instr.typeAssert (.iface 40 v) xT 162 true).run Tryz.prog w = .ok (.tuple #[.nilIface, .bool false]) w := run_typeAssert_lacksB Tryz.underlying162 (by kernel_rfl) (by kernel_rfl) v xT w
theorem noUnwrapE (v : Value) (xT : TypeId) (w : World) : (Instr.typeAssert (.iface 40 v) xT 165 true).run Tryz.prog w = .ok (.tuple #[.nilIface, .bool false]) w := run_typeAssert_lacksB Tryz.underlying165 (by kernel_rfl) (by kernel_rfl) v xT w
theorem noUnwrapsE (v : Value) (xT : TypeId) (w : World) : (Instr.typeAssert (.iface 40 v) xT 166 true).run Tryz.prog w = .ok (.tuple #[.nilIface, .bool false]) w := run_typeAssert_lacksB Tryz.underlying166 (by kernel_rfl) (by kernel_rfl) v xT w
set_option maxRecDepth 100000 in
theorem is_nil (b : Int) (w : World) :
    Calls Tryz.prog 49 #[.nilIface, .iface 40 (.int .i64 b)] w fun e w' => e = .returned (.bool false) ∧ w' = w := by
  have hn := run_eql_iface_nil_left (P := Tryz.prog) w 40 (.int .i64 b) Tryz.underlying104
  go_enter Tryz.func49, Tryz.ntmps49
  go_wp2
  go_ret
  exact ⟨rfl, rfl⟩
set_option maxRecDepth 100000 in
theorem is_errno (a b : Int) (w : World) :
    Calls Tryz.prog 49 #[.iface 40 (.int .i64 a), .iface 40 (.int .i64 b)] w fun e w' => e = .returned (.bool (a == b)) ∧ w' = w := by
  have h8 := @run_callFunc_extern Tryz.prog 64 _ Extern.ReflectliteType.typeOf Tryz.func64 (by kernel_rfl) (by kernel_rfl) (by kernel_rfl) (by kernel_rfl)
  have h32 := @run_callFunc_extern Tryz.prog 129 _ cmpFn Tryz.func129 (by kernel_rfl) (by kernel_rfl) (by kernel_rfl) (by kernel_rfl)
  have tT := isTypeOf
  have cT := isComparable
  have mR := isMethodComparable
  have nE := noIsE
  have uE := noUnwrapE
  have vE := noUnwrapsE
  by_cases hab : a = b
  · subst hab
    have heq := Go.Lib.run_eql_iface_int (P := Tryz.prog) w (k := .i64) a a Tryz.underlying104 isComp Tryz.underlying40
    simp only [beq_self_eq_true] at heq ⊢
    go_enter Tryz.func49, Tryz.ntmps49
    go_wp2
    refine wp_loop_rounds 1 ?_
    rw [rounds_succ]
    go_wp2
    go_ret
    exact ⟨rfl, rfl⟩
  · have heq := Go.Lib.run_eql_iface_int (P := Tryz.prog) w (k := .i64) a b Tryz.underlying104 isComp Tryz.underlying40
    have hb : (a == b) = false := by simpa using hab
    rw [hb] at heq ⊢
    go_enter Tryz.func49, Tryz.ntmps49
    go_wp2
    refine wp_loop_rounds 1 ?_
    rw [rounds_succ]
    go_wp2
    go_ret
    exact ⟨rfl, rfl⟩

theorem noIs_journal_place (v : Value) (xT : TypeId) (w : World) : (Instr.typeAssert (.iface 125 v) xT 162 true).run Tryz.prog w = .ok (.tuple #[.nilIface, .bool false]) w := run_typeAssert_lacksB Tryz.underlying162 (by kernel_rfl) (by kernel_rfl) v xT w
theorem hasUnwrap_journal_place (v : Value) (xT : TypeId) (w : World) : (Instr.typeAssert (.iface 125 v) xT 165 true).run Tryz.prog w = .ok (.tuple #[.iface 125 v, .bool true]) w := run_typeAssert_hasB Tryz.underlying165 (by kernel_rfl) v xT w
theorem methodUnwrap_journal_place (v : Value) (w : World) : (Go.method 324 125 v "Unwrap").run Tryz.prog w = .ok (125, v) w := by kernel_rfl

set_option maxRecDepth 100000 in
theorem is_journal_place (pb po : Nat) (a b : Int) (w : World) (h1 : w.cell? ⟨pb, po + 1, none⟩ = some (.iface 40 (.int .i64 a))) :
    Calls Tryz.prog 49 #[.iface 125 (.pointer (some ⟨pb, po, none⟩)), .iface 40 (.int .i64 b)] w fun e w' => e = .returned (.bool (a == b)) ∧ w' = w := by
  have h8 := @run_callFunc_extern Tryz.prog 64 _ Extern.ReflectliteType.typeOf Tryz.func64 (by kernel_rfl) (by kernel_rfl) (by kernel_rfl) (by kernel_rfl)
  have h32 := @run_callFunc_extern Tryz.prog 129 _ cmpFn Tryz.func129 (by kernel_rfl) (by kernel_rfl) (by kernel_rfl) (by kernel_rfl)
  have tT := isTypeOf
  have cT := isComparable
  have mR := isMethodComparable
  have nE := noIsE
  have uE := noUnwrapE
  have vE := noUnwrapsE
  have nW := noIs_journal_place
  have uW := hasUnwrap_journal_place
  have mU := methodUnwrap_journal_place
  have hty := run_eql_iface_types (P := Tryz.prog) 125 40 (.pointer (some ⟨pb, po, none⟩)) (.int .i64 b) Tryz.underlying104 (by decide) w
  by_cases hab : a = b
  · subst hab
    have heq := Go.Lib.run_eql_iface_int (P := Tryz.prog) w (k := .i64) a a Tryz.underlying104 isComp Tryz.underlying40
    simp only [beq_self_eq_true] at heq ⊢
    go_enter Tryz.func49, Tryz.ntmps49
    go_wp2
    refine wp_loop_rounds 2 ?_
    rw [rounds_succ]
    go_wp2
    rw [rounds_succ]
    go_wp2
    go_ret
    exact ⟨rfl, rfl⟩
  · have heq := Go.Lib.run_eql_iface_int (P := Tryz.prog) w (k := .i64) a b Tryz.underlying104 isComp Tryz.underlying40
    have hb : (a == b) = false := by simpa using hab
    rw [hb] at heq ⊢
    go_enter Tryz.func49, Tryz.ntmps49
    go_wp2
    refine wp_loop_rounds 2 ?_
    rw [rounds_succ]
    go_wp2
    rw [rounds_succ]
    go_wp2
    go_ret
    exact ⟨rfl, rfl⟩

section
variable {A : Type} {R : Adts A}
theorem two_VRs {ρ : Pl} {a b : AVal} {vs : List Value} (hv : VRs ρ [a, b] vs) (ha : a ≠ .any) (hb : b ≠ .any) (ha2 : ∀ l, a ≠ .tup l) (hb2 : ∀ l, b ≠ .tup l) : vs = [conc ρ a, conc ρ b] := by
  obtain ⟨hl, hg⟩ := hv
  obtain ⟨v0, h0, r0⟩ := hg 0 _ rfl
  obtain ⟨v1, h1, r1⟩ := hg 1 _ rfl
  have e0 := r0.eq ha ha2
  have e1 := r1.eq hb hb2
  match vs, hl with
  | [x, y], _ =>
    simp at h0 h1
    rw [h0, h1, e0, e1]
theorem Is_nil_ok (b : Int) {h : AHeap A} {K : AVal → AHeap A → Prop} (hk : K (.bool false) h) : Tri Pr R n_errors_Is [.nili, .iface t_api_Errno (.int .i64 b)] h K := by
  intro ρ ow w vs hr hv hb
  have := two_VRs hv (by simp) (by simp) (by simp) (by simp)
  subst this
  refine Calls.mono (is_nil b w) ?_
  rintro e w' ⟨rfl, rfl⟩
  exact ⟨.bool false, _, ρ, ow, h, rfl, hk, VR.of_eq ρ (.bool false), trivial, hr, Fr.refl _ _ _ _⟩
theorem Is_errno_ok (a b : Int) {h : AHeap A} {K : AVal → AHeap A → Prop} (hk : K (.bool (a == b)) h) : Tri Pr R n_errors_Is [.iface t_api_Errno (.int .i64 a), .iface t_api_Errno (.int .i64 b)] h K := by
  intro ρ ow w vs hr hv hb
  have := two_VRs hv (by simp) (by simp) (by simp) (by simp)
  subst this
  refine Calls.mono (is_errno a b w) ?_
  rintro e w' ⟨rfl, rfl⟩
  exact ⟨.bool (a == b), _, ρ, ow, h, rfl, hk, VR.of_eq ρ (.bool (a == b)), trivial, hr, Fr.refl _ _ _ _⟩
theorem Is_journal_place_ok (a b : Int) {h : AHeap A} {j : Nat} {t : TypeId} {cs : List AVal} (hj : h[j]? = some (.cells t cs)) (hc : cs[1]? = some (.iface t_api_Errno (.int .i64 a))) {K : AVal → AHeap A → Prop} (hk : K (.bool (a == b)) h) :
    Tri Pr R n_errors_Is [.iface t_p_journal_place (.ptr j 0), .iface t_api_Errno (.int .i64 b)] h K := by
  intro ρ ow w vs hr hv hb
  have := two_VRs hv (by simp) (by simp) (by simp) (by simp)
  subst this
  have hcell := cell_at hr (show cellsAt h j = some cs by simp [cellsAt, hj, AObj.read]) hc
  refine Calls.mono (is_journal_place (ρ j).blk ((ρ j).base + 0) a b w (by simpa [conc] using hcell)) ?_
  rintro e w' ⟨rfl, rfl⟩
  exact ⟨.bool (a == b), _, ρ, ow, h, rfl, hk, VR.of_eq ρ (.bool (a == b)), trivial, hr, Fr.refl _ _ _ _⟩
end
end Go.AI

/- Objects without pointers are picked out of a heap. -/
set_option linter.all false
namespace Go.AI
variable {A : Type} {R : Adts A} {P : Program}
def AObj.closed (R : Adts A) (o : AObj A) : Prop := (∀ m, o.ix R m) ∧ ∀ τ, o.ren R τ = o
theorem closed_cells {t : TypeId} {cs : List AVal} (h : ixs 0 cs = true) : AObj.closed R (.cells t cs : AObj A) :=
  ⟨fun m => ixs_mono (Nat.zero_le m) cs h, fun τ => by simp only [AObj.ren]; rw [rens_ix0 τ _ h]⟩
/-- The heap goes on with the objects that are named, in their order. -/
theorem Gives.selc (hR : R.Ok) {n : Nat} (js : List Nat) (os : AHeap A) (vs2 : List AVal) {vs : List AVal} {h : AHeap A} {K : List AVal → AHeap A → Prop} (hjs : js.Nodup) (hl : js.length = os.length) (hn : ∀ k, k < n → js[k]? = some k)
    (ho : ∀ k j : Nat, js[k]? = some j → h[j]? = os[k]?) (hc : ∀ o ∈ os, o.closed R) (hv : vs = rens (at_ js h.length) vs2) (hx : ixs os.length vs2 = true) (hno : n ≤ os.length) (hk : K vs2 os) : Gives P R n h vs K := by
  refine Gives.keep hR js (h2 := os) (vs2 := vs2) ⟨hl, hjs, fun k o' hk => ?_, fun o' ho' => (hc o' ho').1 _⟩ hv hx hn (Gives.done hno hk)
  have hk2 := (List.getElem?_eq_some_iff.1 hk).1
  refine ⟨js[k]'(by omega), List.getElem?_eq_getElem (by omega), ?_⟩
  rw [(hc o' (List.mem_of_getElem? hk)).2, ho k _ (List.getElem?_eq_getElem (by omega)), hk]
end Go.AI

/- Events and records that are handed in. -/
set_option linter.all false
namespace Go.AI
/-- A slice of structs that is handed in. -/
def IsRows {α : Type} (f : α → List AVal) (a : AVal) (l : List α) : Prop := (a = .nils ∧ l = []) ∨ ∃ b o cap, a = .lst b o l.length cap (l.flatMap f)
theorem rows_drop {α β : Type} {f : α → List β} {n : Nat} (hf : ∀ x, (f x).length = n) : ∀ (l : List α) (i : Nat) (h : i < l.length), (l.flatMap f).drop (i * n) = f l[i] ++ (l.drop (i + 1)).flatMap f
  | [], i, h => by simp at h
  | a :: r, 0, h => by simp
  | a :: r, i + 1, h => by
    have := rows_drop hf r i (by simpa using h)
    have e1 : (i + 1) * n = (f a).length + i * n := by rw [hf, Nat.succ_mul]; omega
    rw [e1, ← List.drop_drop, List.flatMap_cons, List.drop_left, this]
    simp
theorem IsRows.len {α : Type} {f : α → List AVal} {a : AVal} {l : List α} (h : IsRows f a l) (K : AVal → Prop) : lenP a K = K (.int .i64 l.length) := by
  rcases h with ⟨rfl, rfl⟩ | ⟨b, o, cap, rfl⟩ <;> simp
theorem IsRows.get {α : Type} {f : α → List AVal} {w : Nat} (hf : ∀ x, (f x).length = w) {a : AVal} {l : List α} (h : IsRows f a l) {n : Int} (h0 : 0 ≤ n) (h1 : n < l.length) : ∃ x b o cs, l[n.toNat]? = some x ∧ ∀ K, idxP w a (.int .i64 n) K = K (.fp b o (f x ++ cs)) := by
  rcases h with ⟨rfl, rfl⟩ | ⟨b, o, cap, rfl⟩
  · simp at h1; omega
  · have h2 : n.toNat < l.length := by omega
    refine ⟨l[n.toNat], b, o + n.toNat * w, (l.drop (n.toNat + 1)).flatMap f, List.getElem?_eq_getElem h2, fun K => ?_⟩
    rw [idxP_l K w b o l.length cap _ .i64 n h0 h1, rows_drop hf l n.toNat h2]
end Go.AI

/- Numbers are read. -/
set_option linter.all false
namespace Go.AI
variable {A : Type} {R : Adts A}
theorem shl8_or (x : Nat) (b : UInt8) (h : x < 4294967296) : bits .i64 (· ||| ·) (IntKind.i64.wrap ((x : Int) * 2 ^ (min 8 IntKind.i64.bits))) (b.toNat : Int) = ((x * 256 + b.toNat : Nat) : Int) := by
  have h1 : (2 : Int) ^ (min 8 IntKind.i64.bits) = 256 := rfl
  have hb : b.toNat < 256 := UInt8.toNat_lt b
  rw [h1, w64 (by omega)]
  have h2 : ((x : Int) * 256) = ((x * 256 : Nat) : Int) := by omega
  rw [h2, bits_or _ _ (by omega) (by omega)]
  have h3 : x * 256 ||| b.toNat = x * 256 + b.toNat := by
    have := Nat.two_pow_add_eq_or_of_lt (i := 8) (b := b.toNat) hb x
    rw [Nat.mul_comm x 256]
    exact this.symm
  rw [h3]
theorem bAcc_small {l : Bs0} (h : l.length ≤ 4) : bAcc l < 4294967296 := by
  have h1 := bAcc_lt l
  have h2 : 256 ^ l.length ≤ 256 ^ 4 := Nat.pow_le_pow_right (by omega) h
  omega
theorem ref1_GetNum_ok (hR : R.Ok) (s : Bs0) (hs : s.length < 9000000000000000000) (at_ : Int) (ha : -9000000000000000000 ≤ at_ ∧ at_ < 9000000000000000000) {h : AHeap A} {K : AVal → AHeap A → Prop}
    (hk : K (.tup [.int .i64 (gNum s at_).1, .int .i64 (gNum s at_).2.1, .int .i64 (gNum s at_).2.2]) h) : Tri Pr R n_ref1_GetNum [.str s, .int .i64 at_] h K := by
  refine Tri.fn1 hR _ rfl rfl ?_ hk
  apply c_ref1_GetNum
  unfold p_ref1_GetNum
  obtain ⟨r, hr⟩ : ∃ r, gNum s at_ = r := ⟨_, rfl⟩
  rw [hr]
  unfold gNum at hr
  by_cases c1 : at_ < 0
  · rw [if_pos (.inl c1)] at hr; subst hr
    simp -implicitDefEqProofs [c1]; exact Ans.rfl' _
  by_cases c2 : (s.length : Int) < at_
  · rw [if_pos (.inr c2)] at hr; subst hr
    simp -implicitDefEqProofs [c1, c2]; exact Ans.rfl' _
  rw [if_neg (by omega)] at hr
  by_cases c3 : at_ = s.length
  · rw [if_pos c3] at hr; subst hr
    have c3' : (at_ == (s.length : Int)) = true := by simpa using c3
    simp -implicitDefEqProofs [c1, c2, c3']; exact Ans.rfl' _
  rw [if_neg c3] at hr
  have c3' : (at_ == (s.length : Int)) = false := by simpa using c3
  have a0 : 0 ≤ at_ := by omega
  have a1 : at_ < s.length := by omega
  have hlt : at_.toNat < s.length := by omega
  have hg : s.getD at_.toNat 0 = s[at_.toNat] := by simp [List.getD_eq_getElem?_getD, hlt]
  rw [hg] at hr
  obtain ⟨n, hn⟩ : ∃ n, (s[at_.toNat]).toNat = n := ⟨_, rfl⟩
  rw [hn] at hr
  have hn256 : n < 256 := by rw [← hn]; exact UInt8.toNat_lt _
  have e0 := w64 (n := (n : Int)) (by omega)
  dsimp only at hr
  by_cases c4 : 4 < n
  · rw [if_pos c4] at hr; subst hr
    have c4' : (4 : Int) < n := by omega
    simp -implicitDefEqProofs [c1, c2, c3', a0, a1, hlt, hn, e0, c4, c4']; exact Ans.rfl' _
  rw [if_neg c4] at hr
  have c4' : ¬ (4 : Int) < n := by omega
  have e1 := w64 (n := (s.length : Int) - at_) (by omega)
  have e2 := w64 (n := (s.length : Int) - at_ - 1) (by omega)
  by_cases c5 : s.length < at_.toNat + 1 + n
  · rw [if_pos c5] at hr; subst hr
    have c5' : (s.length : Int) - at_ - 1 < n := by omega
    simp -implicitDefEqProofs [c1, c2, c3', a0, a1, hlt, hn, e0, e1, e2, c4, c4', c5']; exact Ans.rfl' _
  rw [if_neg c5] at hr
  have c5' : ¬ (s.length : Int) - at_ - 1 < n := by omega
  simp -implicitDefEqProofs [c1, c2, c3', a0, a1, hlt, hn, e0, e1, e2, c4, c4', c5']
  obtain ⟨l, hl⟩ : ∃ l, (s.drop (at_.toNat + 1)).take n = l := ⟨_, rfl⟩
  rw [hl] at hr
  have hll : l.length = n := by rw [← hl]; simp; omega
  have hget : ∀ i (hi : i < n), s[at_.toNat + 1 + i]? = some (l[i]'(by omega)) := by
    intro i hi
    have : l[i]? = s[at_.toNat + 1 + i]? := by rw [← hl, List.getElem?_take, if_pos hi, List.getElem?_drop]
    rw [← this]; exact List.getElem?_eq_getElem _
  refine loopP_go (fun m y g => ∃ i : Nat, y = [.int .i64 (bAcc (l.take i) : Nat), .int .i64 ((i : Int) + 1)] ∧ g = [] ∧ i ≤ n ∧ m = n - i) n (Gives.done (by simp) ⟨0, rfl, rfl, by omega, rfl⟩) ?_
  rintro m y g ⟨i, rfl, rfl, hi, rfl⟩
  by_cases c6 : i < n
  · have c6' : (i : Int) + 1 ≤ n := by omega
    have e3 := w64 (n := at_ + ((i : Int) + 1)) (by omega)
    have e4 := w64 (n := (i : Int) + 1 + 1) (by omega)
    have f1 : 0 ≤ at_ + ((i : Int) + 1) := by omega
    have f2 : at_ + ((i : Int) + 1) < s.length := by omega
    have f3 : (at_ + ((i : Int) + 1)).toNat = at_.toNat + 1 + i := by omega
    have f4 := hget i c6
    have hsm := bAcc_small (l := l.take i) (by simp; omega)
    have f5 := shl8_or (bAcc (l.take i)) (l[i]'(by omega)) hsm
    have f6 : bAcc (l.take (i + 1)) = bAcc (l.take i) * 256 + (l[i]'(by omega)).toNat := by rw [← List.take_append_getElem (by omega : i < l.length), bAcc_snoc]
    have e5 := w64 (n := ((l[i]'(by omega)).toNat : Int)) (by have := UInt8.toNat_lt (l[i]'(by omega)); omega)
    simp -implicitDefEqProofs [c6, c6', e3, f1, f2, f3, f4, e4, e5]
    rw [f5, ← f6]
    exact Gives.done (by simp) ⟨n - (i + 1), by omega, i + 1, by simp, rfl, by omega, rfl⟩
  · obtain rfl : i = n := by omega
    have c6' : ¬ (i : Int) + 1 ≤ i := by omega
    have hti : l.take i = l := List.take_of_length_le (by omega)
    rw [hti]
    have hwh := nW_head (l := l) (by omega)
    rw [hll] at hwh
    have e6 := w64 (n := at_ + 1) (by omega)
    have e7 := w64 (n := at_ + i) (by omega)
    have e8 := w64 (n := at_ + i + 1) (by omega)
    have hsum : at_ + 1 + (i : Int) = at_ + i + 1 := by omega
    have hbig : (1073741823 < bAcc l) ↔ ((1073741823 : Int) < (bAcc l : Int)) := by omega
    have tail : ∀ (b : Bool), (b = true ↔ (0 < i ∧ l.getD 0 0 = 0)) → iteP (.bool b) (Ans (AVal.tup [.int .i64 r.1, .int .i64 r.2.1, .int .i64 r.2.2]) (AVal.tup [.int .i64 0, .int .i64 0, .int .i64 100])) (iteP (.bool (decide ((1073741823 : Int) < (bAcc l : Int)))) (Ans (AVal.tup [.int .i64 r.1, .int .i64 r.2.1, .int .i64 r.2.2]) (AVal.tup [.int .i64 0, .int .i64 0, .int .i64 100]))
        (Ans (AVal.tup [.int .i64 r.1, .int .i64 r.2.1, .int .i64 r.2.2]) (AVal.tup [.int .i64 (bAcc l : Nat), .int .i64 (at_ + i + 1), .int .i64 0]))) := by
      intro b hb
      cases b with
      | true =>
        have h1 : nW (bAcc l) ≠ i := fun h => (hwh.1 h) (hb.1 rfl)
        rw [if_pos (.inl h1)] at hr; subst hr
        exact Ans.rfl' _
      | false =>
        have h1 : nW (bAcc l) = i := hwh.2 (fun h => by simpa using hb.2 h)
        by_cases h2 : 1073741823 < bAcc l
        · rw [if_pos (.inr h2)] at hr; subst hr
          have h3 : decide ((1073741823 : Int) < (bAcc l : Int)) = true := by simpa using hbig.1 h2
          rw [h3]; exact Ans.rfl' _
        · rw [if_neg (by rintro (h | h); exact h h1; exact h2 h)] at hr; subst hr
          have h3 : decide ((1073741823 : Int) < (bAcc l : Int)) = false := by rw [decide_eq_false_iff_not]; omega
          rw [h3]
          show Ans _ _
          rw [hsum]; exact Ans.rfl' _
    simp -implicitDefEqProofs [c6']
    by_cases c7 : 0 < i
    · have f4 := hget 0 c7
      have f1 : 0 ≤ at_ + 1 := by omega
      have f2 : at_ + 1 < s.length := by omega
      have f3 : (at_ + 1).toNat = at_.toNat + 1 := by omega
      have f5 : s[at_.toNat + 1]? = some (l[0]'(by omega)) := f4
      have hl0 : l.getD 0 0 = l[0]'(by omega) := by simp [List.getD_eq_getElem?_getD, List.getElem?_eq_getElem (show 0 < l.length by omega)]
      have ht := tail (((l[0]'(by omega)).toNat : Int) == 0) (by
        rw [hl0]
        constructor
        · intro h; refine ⟨c7, UInt8.toNat_inj.1 ?_⟩; simp at h; simpa using h
        · rintro ⟨_, h⟩; rw [h]; rfl)
      simp -implicitDefEqProofs [c7, e6, f1, f2, f3, f5, e7, e8]
      cases hc : (((l[0]'(by omega)).toNat : Int) == 0) with
      | true => rw [hc] at ht; simp -implicitDefEqProofs; exact ht
      | false => rw [hc] at ht; simp -implicitDefEqProofs; exact ht
    · have ht := tail false (by simp [c7])
      simp -implicitDefEqProofs [c7, e7, e8]
      exact ht
end Go.AI

/- The program reads numbers. -/
set_option linter.all false
namespace Go.AI
variable {A : Type} {R : Adts A}
def faultO (a e : Int) : AObj A := .cells t_field_Fault [.int .i64 a, .iface t_api_Errno (.int .i64 e)]
theorem field_num_ok (hR : R.Ok) (s : Bs0) (hs : s.length < 9000000000000000000) (at_ : Int) (ha : -9000000000000000000 ≤ at_ ∧ at_ < 9000000000000000000) {h : AHeap A} {K : AVal → AHeap A → Prop}
    (hk : if (gNum s at_).2.2 = 0 then K (.tup [.int .i64 (gNum s at_).1, .int .i64 (gNum s at_).2.1, .nili]) h else ∀ a e, K (.tup [.int .i64 0, .int .i64 0, .iface t_p_field_Fault (.ptr h.length 0)]) (h ++ [faultO a e])) : Tri Pr R n_field_num [.str s, .int .i64 at_] h K := by
  have bad : ∀ (a e : Int), (gNum s at_).2.2 ≠ 0 → (Tri Pr R n_field_num [.str s, .int .i64 at_] [] fun u g => Gives Pr R 0 g [u] fun vs h => ∃ v, vs = [v] ∧ v = .tup [.int .i64 0, .int .i64 0, .iface t_p_field_Fault (.ptr 0 0)] ∧ h = [faultO a e]) → Tri Pr R n_field_num [.str s, .int .i64 at_] h K := by
    intro a e he t
    rw [if_neg he] at hk
    refine Tri.make hR rfl (v0 := .tup [.int .i64 0, .int .i64 0, .iface t_p_field_Fault (.ptr 0 0)]) (h0 := [faultO a e]) (Tri.post t) ?_
    simpa [AVal.ren, rens, AObj.ren, faultO] using hk a e
  have hG : ∀ r, gNum s at_ = r → (gNum s at_).2.2 = r.2.2 := fun r h => by rw [h]
  obtain ⟨r, hr⟩ : ∃ r, gNum s at_ = r := ⟨_, rfl⟩
  rw [hr] at hk bad
  unfold gNum at hr
  by_cases c1 : at_ < 0
  · rw [if_pos (.inl c1)] at hr; subst hr
    refine bad at_ 100 (by simp) ?_
    apply c_field_num
    unfold p_field_num
    simp -implicitDefEqProofs [c1, mkiP]
    exact Gives.done (by simp) ⟨_, rfl, rfl, rfl⟩
  by_cases c2 : (s.length : Int) < at_
  · rw [if_pos (.inr c2)] at hr; subst hr
    refine bad at_ 100 (by simp) ?_
    apply c_field_num
    unfold p_field_num
    simp -implicitDefEqProofs [c1, c2, mkiP]
    exact Gives.done (by simp) ⟨_, rfl, rfl, rfl⟩
  rw [if_neg (by omega)] at hr
  by_cases c3 : at_ = s.length
  · rw [if_pos c3] at hr; subst hr
    have c3' : (at_ == (s.length : Int)) = true := by simpa using c3
    refine bad at_ 101 (by simp) ?_
    apply c_field_num
    unfold p_field_num
    simp -implicitDefEqProofs [c1, c2, c3', mkiP]
    exact Gives.done (by simp) ⟨_, rfl, rfl, rfl⟩
  rw [if_neg c3] at hr
  have c3' : (at_ == (s.length : Int)) = false := by simpa using c3
  have a0 : 0 ≤ at_ := by omega
  have a1 : at_ < s.length := by omega
  have hlt : at_.toNat < s.length := by omega
  have hg : s.getD at_.toNat 0 = s[at_.toNat] := by simp [List.getD_eq_getElem?_getD, hlt]
  rw [hg] at hr
  obtain ⟨n, hn⟩ : ∃ n, (s[at_.toNat]).toNat = n := ⟨_, rfl⟩
  rw [hn] at hr
  have hn256 : n < 256 := by rw [← hn]; exact UInt8.toNat_lt _
  have e0 := w64 (n := (n : Int)) (by omega)
  have e1 := w64 (n := at_ + 1) (by omega)
  have a2 : 0 ≤ at_ + 1 := by omega
  have a3 : at_ + 1 ≤ s.length := by omega
  have a4 : (at_ + 1).toNat = at_.toNat + 1 := by omega
  dsimp only at hr
  by_cases c4 : 4 < n
  · rw [if_pos c4] at hr; subst hr
    have c4' : (4 : Int) < n := by omega
    refine bad at_ 100 (by simp) ?_
    apply c_field_num
    unfold p_field_num
    simp -implicitDefEqProofs [c1, c2, c3', a0, a1, a2, a3, a4, hlt, hn, e0, e1, c4, c4', mkiP]
    exact Gives.done (by simp) ⟨_, rfl, rfl, rfl⟩
  rw [if_neg c4] at hr
  have c4' : ¬ (4 : Int) < n := by omega
  by_cases c5 : s.length < at_.toNat + 1 + n
  · rw [if_pos c5] at hr; subst hr
    have c5' : s.length - (at_.toNat + 1) < n := by omega
    refine bad (at_ + 1) 101 (by simp) ?_
    apply c_field_num
    unfold p_field_num
    simp -implicitDefEqProofs [c1, c2, c3', a0, a1, a2, a3, a4, hlt, hn, e0, e1, c4, c4', c5', mkiP]
    exact Gives.done (by simp) ⟨_, rfl, rfl, rfl⟩
  rw [if_neg c5] at hr
  have c5' : ¬ s.length - (at_.toNat + 1) < n := by omega
  have c5'' : n ≤ s.length - (at_.toNat + 1) := by omega
  obtain ⟨l, hl⟩ : ∃ l, (s.drop (at_.toNat + 1)).take n = l := ⟨_, rfl⟩
  rw [hl] at hr
  have hll : l.length = n := by rw [← hl]; simp; omega
  have hsm := bAcc_small (l := l) (by omega)
  have e2 := w64 (n := at_ + 1 + n) (by omega)
  -- the walk to the loop's end
  have walk : ∀ (Q : AVal → AHeap A → Prop), (if nW (bAcc l) ≠ n ∨ 1073741823 < bAcc l then Q (.tup [.int .i64 0, .int .i64 0, .iface t_p_field_Fault (.ptr 1 0)]) [.cells t_uint8 (l.map fun b => .int .u8 b.toNat), faultO (at_ + 1) 100]
      else Q (.tup [.int .i64 (bAcc l : Nat), .int .i64 (at_ + 1 + n), .nili]) [.cells t_uint8 (l.map fun b => .int .u8 b.toNat)]) → Tri Pr R n_field_num [.str s, .int .i64 at_] [] Q := by
    intro Q hQ
    apply c_field_num
    unfold p_field_num
    simp -implicitDefEqProofs [c1, c2, c3', a0, a1, a2, a3, a4, hlt, hn, e0, e1, c4, c4', c5', c5'', hl, hll]
    simp -implicitDefEqProofs [s2bP, hll]
    refine loopP_go (fun m y g => ∃ i : Nat, y = [.int .i64 (bAcc (l.take i) : Nat), .int .i64 i] ∧ g = [.cells t_uint8 (l.map fun b => .int .u8 b.toNat)] ∧ i ≤ n ∧ m = n - i) n (Gives.done (by simp) ⟨0, rfl, rfl, by omega, rfl⟩) ?_
    rintro m y g ⟨i, rfl, rfl, hi, rfl⟩
    by_cases c6 : i < n
    · have c6' : (i : Int) < n := by omega
      have c6l : i < l.length := by omega
      have e4 := w64 (n := (i : Int) + 1) (by omega)
      have hsi := bAcc_small (l := l.take i) (by simp; omega)
      have f5 := shl8_or (bAcc (l.take i)) l[i] hsi
      have f6 : bAcc (l.take (i + 1)) = bAcc (l.take i) * 256 + l[i].toNat := by rw [← List.take_append_getElem c6l, bAcc_snoc]
      have e5 := w64 (n := (l[i].toNat : Int)) (by have := UInt8.toNat_lt l[i]; omega)
      simp -implicitDefEqProofs [c6, c6', c6l, e4, e5]
      rw [f5, ← f6]
      exact Gives.done (by simp) ⟨n - (i + 1), by omega, i + 1, by simp, rfl, by omega, rfl⟩
    · obtain rfl : i = n := by omega
      have hti : l.take i = l := List.take_of_length_le (by omega)
      rw [hti]
      simp -implicitDefEqProofs
      refine field_width_ok hR _ (by omega) (by omega) ?_
      by_cases h1 : nW (bAcc l) = i
      · have h1' : (nW (bAcc l) != (i : Int)) = false := by simp [h1]
        by_cases h2 : 1073741823 < bAcc l
        · rw [if_pos (.inr h2)] at hQ
          have h2' : (1073741823 : Int) < (bAcc l : Int) := by omega
          simp -implicitDefEqProofs [h1', h2', mkiP, e1]
          exact hQ
        · rw [if_neg (by rintro (h | h); exact h h1; exact h2 h)] at hQ
          have h2' : ¬ (1073741823 : Int) < (bAcc l : Int) := by omega
          simp -implicitDefEqProofs [h1', h2', e1, e2]
          exact hQ
      · rw [if_pos (.inl h1)] at hQ
        have h1' : (nW (bAcc l) != (i : Int)) = true := by simp [h1]
        simp -implicitDefEqProofs [h1', mkiP, e1]
        exact hQ
  by_cases c7 : nW (bAcc l) ≠ n ∨ 1073741823 < bAcc l
  · rw [if_pos c7] at hr; subst hr
    refine bad (at_ + 1) 100 (by simp) (walk _ ?_)
    rw [if_pos c7]
    refine Gives.pick hR [] [.cells t_uint8 (l.map fun b => .int .u8 b.toNat)] (faultO (at_ + 1) 100) _ [.tup [.int .i64 0, .int .i64 0, .iface t_p_field_Fault (.ptr 0 0)]] rfl (by simp) (by simp) ⟨rfl, fun _ => rfl⟩ (by simp [rens, AVal.ren]) rfl ?_
    exact ⟨_, rfl, rfl, rfl⟩
  · rw [if_neg c7] at hr; subst hr
    simp only [if_true] at hk
    refine Tri.fn1 hR _ rfl rfl (walk _ ?_) hk
    rw [if_neg c7]
    exact Ans.rfl' _
end Go.AI

/- Readers. -/
set_option linter.all false
namespace Go.AI
variable {A : Type} {R : Adts A}
def fRead (s : Bs0) (at_ : Int) (e : AVal) : AObj A := .cells t_field_Reader [.str s, .int .i64 at_, e]
def rRead (s : Bs0) (at_ : Int) (bad : Bool) : AObj A := .cells t_bastionref1_Reader [.str s, .int .i64 at_, .bool bad]
@[simp] theorem fRead_read (s : Bs0) (a : Int) (e : AVal) : (fRead s a e : AObj A).read = some [.str s, .int .i64 a, e] := rfl
@[simp] theorem rRead_read (s : Bs0) (a : Int) (b : Bool) : (rRead s a b : AObj A).read = some [.str s, .int .i64 a, .bool b] := rfl
theorem fReader_ok (hR : R.Ok) (s : Bs0) (hs : s.length < 9000000000000000000) (at_ : Int) (ha : -9000000000000000000 ≤ at_ ∧ at_ < 9000000000000000000) {o : AObj A} {r : AHeap A} {K : AVal → AHeap A → Prop}
    (hk : if (gNum s at_).2.2 = 0 then K (.int .i64 (gNum s at_).1) (o :: fRead s (gNum s at_).2.1 .nili :: r) else ∀ a e, K (.int .i64 0) (o :: fRead s 0 (.iface t_p_field_Fault (.ptr (r.length + 2) 0)) :: (r ++ [faultO a e]))) :
    Tri Pr R n_field_Reader_Num [.ptr 1 0] (o :: fRead s at_ .nili :: r) K := by
  apply c_field_Reader_Num
  unfold p_field_Reader_Num
  simp -implicitDefEqProofs [fRead]
  refine field_num_ok hR s hs at_ ha ?_
  by_cases h : (gNum s at_).2.2 = 0
  · rw [if_pos h] at hk ⊢
    simp -implicitDefEqProofs
    exact hk
  · rw [if_neg h] at hk ⊢
    intro a e
    simp -implicitDefEqProofs
    simpa [fRead] using hk a e
theorem fReader_bad (hR : R.Ok) (s : Bs0) (at_ : Int) (t : TypeId) (v : AVal) {o : AObj A} {r : AHeap A} {K : AVal → AHeap A → Prop}
    (hk : K (.int .i64 0) (o :: fRead s at_ (.iface t v) :: r)) : Tri Pr R n_field_Reader_Num [.ptr 1 0] (o :: fRead s at_ (.iface t v) :: r) K := by
  apply c_field_Reader_Num
  unfold p_field_Reader_Num
  simp -implicitDefEqProofs [fRead]
  exact hk
theorem rReader_ok (hR : R.Ok) (s : Bs0) (hs : s.length < 9000000000000000000) (at_ : Int) (ha : -9000000000000000000 ≤ at_ ∧ at_ < 9000000000000000000) (bad : Bool) {o : AObj A} {r : AHeap A} {K : AVal → AHeap A → Prop}
    (hk : if bad = false ∧ (gNum s at_).2.2 = 0 then K (.int .i64 (gNum s at_).1) (o :: rRead s (gNum s at_).2.1 false :: r) else K (.int .i64 0) (o :: rRead s at_ true :: r)) :
    Tri Pr R n_ref1_Reader_Num [.ptr 1 0] (o :: rRead s at_ bad :: r) K := by
  apply c_ref1_Reader_Num
  unfold p_ref1_Reader_Num
  simp -implicitDefEqProofs [rRead]
  refine ref1_GetNum_ok hR s hs at_ ha ?_
  simp -implicitDefEqProofs
  cases bad with
  | true =>
    simp at hk
    simp -implicitDefEqProofs
    exact hk
  | false =>
    by_cases h : (gNum s at_).2.2 = 0
    · simp [h] at hk
      simp -implicitDefEqProofs [h]
      exact hk
    · simp [h] at hk
      have h' : ((gNum s at_).2.2 != 0) = true := by simpa using h
      simp -implicitDefEqProofs [h']
      exact hk
end Go.AI

/- The boot's sectors. -/
set_option linter.all false
namespace Go.AI
variable {A : Type} {R : Adts A}
theorem z_readn {n : Nat} {K : AVal → Prop} {h : AHeap A} {b : Nat} {ex : Bool} {t : TypeId} {cs : List AVal} (hb : h[b]? = some (.cells t cs)) (hc : cs = (List.replicate n [AVal.int .u8 0]).flatten) (hk : K (.str (List.replicate n 0))) : b2sP (.sl b 0 n n ex) h K := by
  subst hc
  have e : (List.replicate n [AVal.int .u8 0]).flatten = List.replicate n (.int .u8 0) := zCells_eq n
  rw [e] at hb
  unfold b2sP
  dsimp only
  simp only [cellsAt, hb, Option.bind_some, AObj.read]
  rw [if_pos (by simp)]
  simp only [List.drop_zero]
  rw [List.take_of_length_le (by simp), zCells_bytes]
  exact hk
theorem record_Fill_ok (hR : R.Ok) (s : Bs) (hs : s.length ≤ 64) {h : AHeap A} {K : AVal → AHeap A → Prop} (hk : K (.tup [.str (pad s), .bool true]) h) : Tri Pr R n_record_Fill [.str s] h K := by
  refine Tri.fn1 hR _ rfl rfl ?_ hk
  apply c_record_Fill
  unfold p_record_Fill
  have h1 : ¬ (64 : Int) < s.length := by omega
  have e1 := w64 (n := 64 - (s.length : Int)) (by omega)
  have h9 : (0 : Int) ≤ 64 - s.length ∧ 64 - (s.length : Int) ≤ 140737488355328 := by omega
  simp -implicitDefEqProofs [h1, e1]
  refine mkz_ok h9 ?_
  have e2 : (64 - (s.length : Int)).toNat = 64 - s.length := by omega
  have h2 : s.length + (64 - s.length) < 9223372036854775808 := by omega
  simp -implicitDefEqProofs [e2, h2]
  exact Ans.of (by simp [pad])
theorem ref1_sector_ok (hR : R.Ok) (s : Bs) (hs : s.length ≤ 64) {h : AHeap A} {K : AVal → AHeap A → Prop} (hk : K (.str (pad s)) h) : Tri Pr R n_ref1_sector [.str s] h K := by
  refine Tri.fn1 hR _ rfl rfl ?_ hk
  apply c_ref1_sector
  unfold p_ref1_sector
  have e1 := w64 (n := 64 - (s.length : Int)) (by omega)
  have h9 : (0 : Int) ≤ 64 - s.length ∧ 64 - (s.length : Int) ≤ 140737488355328 := by omega
  simp -implicitDefEqProofs [e1]
  refine mkz_ok h9 ?_
  have e2 : (64 - (s.length : Int)).toNat = 64 - s.length := by omega
  have h2 : s.length + (64 - s.length) < 9223372036854775808 := by omega
  simp -implicitDefEqProofs [e2, h2]
  exact Ans.of (by simp [pad])
theorem super_may_ok (x : Int) {h : AHeap A} {K : AVal → AHeap A → Prop} (hk : K (.bool (bootMay x)) h) : Tri Pr R n_super_may [.int .i64 x] h K := by
  apply c_super_may
  unfold p_super_may
  by_cases h1 : 1 ≤ x
  · by_cases h2 : x ≤ 1023
    · simp [bootMay, h1, h2] at hk; simp -implicitDefEqProofs [h1, h2]; exact hk
    · simp [bootMay, h1, h2] at hk; simp -implicitDefEqProofs [h1, h2]; exact hk
  · simp [bootMay, h1] at hk; simp -implicitDefEqProofs [h1]; exact hk
theorem book_own (hR : R.Ok) {mk : Int → List Bs → A} (hB : HasBook R mk) {m : Int} {ts ts' : List Bs} {f : FuncId} {us : List AVal} (hus : us.all (AVal.ix 0) = true) {v : AVal} (hv : v.ix 0 = true)
    (t : Tri Pr R f (.ptr 0 0 :: us) [.adt (mk m ts)] fun u g => u = v ∧ ∃ r, g = .adt (mk m ts') :: r)
    {h : AHeap A} {b : Nat} (hb : h[b]? = some (.adt (mk m ts))) {K : AVal → AHeap A → Prop} (hk : K v (h.set b (.adt (mk m ts')))) : Tri Pr R f (.ptr b 0 :: us) h K := by
  have hus' : ixs 0 us = true := by rw [ixs_all]; exact hus
  refine Tri.own hR (as2 := .ptr 0 0 :: us) (Q := fun u o => u = v ∧ o = .adt (mk m ts')) ?_ (book_ix hB _ _ _) ?_ (book_ren hB _ _) ?_ hb ?_ ?_
  · simp [ixs, AVal.ix, ixs_mono (Nat.zero_le 1) us hus']
  · rintro _ _ ⟨rfl, rfl⟩; exact ⟨hv, book_ren hB _ _⟩
  · refine Tri.post (t.mono ?_)
    rintro _ _ ⟨rfl, r, rfl⟩
    exact Gives.cut hR (m := 1) (by simp) (by simp) (by simp [ixs, ix_mono (Nat.zero_le 1) _ hv]) (by simp; exact ⟨book_ix hB _ _ _, fun τ _ => book_ren hB _ _ _⟩) ⟨_, rfl, _, ⟨rfl, rfl⟩, rfl⟩
  · simp only [rens, AVal.ren]
    rw [rens_ix0 _ _ hus']; simp
  · rintro _ _ ⟨rfl, rfl⟩; exact hk
def BoolJ (c : Bool) (o : AObj A) (vs : List AVal) (g : AHeap A) : Prop := vs = [.bool c] ∧ ∃ r, g = o :: r
section
variable {mk : Int → List Bs → A}
theorem super_Put_ok (hR : R.Ok) (hB : HasBook R mk) {m : Int} {ts : List Bs} (hok : bOk m ts) (boot : Int) {h : AHeap A} {b : Nat} (hb : h[b]? = some (.adt (mk m ts))) {K : AVal → AHeap A → Prop}
    (hk : K (.tup [.str (sPut m ts boot).2.1, .int .i64 (sPut m ts boot).2.2]) (h.set b (.adt (mk m (sPut m ts boot).1)))) : Tri Pr R n_super_Put [.ptr b 0, .int .i64 boot] h K := by
  apply c_super_Put
  unfold p_super_Put
  simp -implicitDefEqProofs
  refine super_may_ok boot ?_
  cases hm : bootMay boot with
  | false =>
    simp [sPut, hm, set_same hb] at hk
    simp -implicitDefEqProofs; exact hk
  | true =>
    simp only [sPut, hm, if_true] at hk
    simp -implicitDefEqProofs
    refine field_Num_any hR boot ?_
    have hl := nS_len boot
    have h4 : 5 + (nS boot).length < 9223372036854775808 := by omega
    simp -implicitDefEqProofs [h4]
    refine craft_Hash_ok hR hB hok _ (by simp; omega) hb ?_
    have hc : 72 :: 115 :: 117 :: 112 :: 101 :: 114 :: nS boot = supT boot := rfl
    rw [hc]
    by_cases h5 : (cMade m ts (supT boot)).2.2 = 0
    · simp only [h5, if_true] at hk
      simp -implicitDefEqProofs [h5]
      refine field_Num_any hR _ ?_
      have hl2 := nS_len (cMade m ts (supT boot)).2.1
      have h6 : (nS boot).length + (nS (cMade m ts (supT boot)).2.1).length < 9223372036854775808 := by omega
      simp -implicitDefEqProofs [h6]
      refine record_Fill_ok hR _ (by simp; omega) ?_
      simp -implicitDefEqProofs
      exact hk
    · simp only [h5, if_false] at hk
      have h6 : ((cMade m ts (supT boot)).2.2 != 0) = true := by simpa using h5
      simp -implicitDefEqProofs [h6]; exact hk
theorem super_Get_ok (hR : R.Ok) (hB : HasBook R mk) {m : Int} {ts : List Bs} (s : Bs) (hs : s.length < 8000000000000000000) {h : AHeap A} {b : Nat} (hb : h[b]? = some (.adt (mk m ts))) {K : AVal → AHeap A → Prop}
    (hk : K (.tup [.int .i64 (sGet ts s).1, .int .i64 (sGet ts s).2]) h) : Tri Pr R n_super_Get [.ptr b 0, .str s] h K := by
  refine book_own hR hB (ts' := ts) rfl rfl ?_ hb (by rw [set_same hb]; exact hk)
  apply c_super_Get
  unfold p_super_Get
  obtain ⟨r, hr⟩ : ∃ r, sGet ts s = r := ⟨_, rfl⟩
  rw [hr]
  unfold sGet at hr
  simp -implicitDefEqProofs
  have hf : (.cells t_field_Reader [.str s, .int .i64 0, .nili] : AObj A) = fRead s 0 .nili := rfl
  rw [hf]
  refine fReader_ok hR s (by omega) 0 (by omega) ?_
  obtain ⟨x, t1, e1, hg1⟩ : ∃ x t1 e1, gNum s 0 = (x, t1, e1) := ⟨_, _, _, rfl⟩
  rw [hg1] at hr ⊢
  dsimp only at hr ⊢
  by_cases c1 : e1 = 0
  · subst c1
    obtain ⟨q1, q2, q3, q4, q5⟩ := gNum_enc hg1
    rw [if_neg (by simp)] at hr
    rw [if_pos rfl]
    simp -implicitDefEqProofs
    refine fReader_ok hR s (by omega) t1 (by omega) ?_
    obtain ⟨y, t2, e2, hg2⟩ : ∃ y t2 e2, gNum s t1 = (y, t2, e2) := ⟨_, _, _, rfl⟩
    rw [hg2] at hr ⊢
    dsimp only at hr ⊢
    by_cases c2 : e2 = 0
    · subst c2
      obtain ⟨p1, p2, p3, p4, p5⟩ := gNum_enc hg2
      rw [if_neg (by simp)] at hr
      rw [if_pos rfl]
      refine joinP_go ?_
      by_cases c3 : s.length = 64
      · by_cases c4 : bootMay x = true
        · have hx := bootMay_num c4
          have ht : s.take t1.toNat = nS x := by simpa [nS, hx] using q5
          have hl := nS_len x
          have h4 : 5 + (nS x).length < 9223372036854775808 := by omega
          have hc : 72 :: 115 :: 117 :: 112 :: 101 :: 114 :: nS x = supT x := rfl
          have f1 : 0 ≤ t1 := by omega
          have f2 : 0 ≤ t2 := by omega
          have f3 : t2 ≤ 64 := by omega
          have f4 : t1 ≤ 64 := by omega
          have e5 := w64 (n := 64 - t2) (by omega)
          simp -implicitDefEqProofs [c3]
          refine super_may_ok x ?_
          simp -implicitDefEqProofs [c4, f1, f4, c3, ht, h4]
          refine craft_IsHash_ok hR hB _ (by simp; omega) y rfl ?_
          rw [hc]
          cases c5 : cIs ts (supT x) y with
          | false =>
            rw [if_pos (.inr (.inr (.inl c5)))] at hr; subst hr
            simp -implicitDefEqProofs
          | true =>
            obtain ⟨n, hn⟩ : ∃ n : Nat, (64 - t2).toNat = n := ⟨_, rfl⟩
            have hn2 : 64 - t2.toNat = n := by omega
            rw [hn2] at hr
            have f5 : 64 - t2 ≤ 140737488355328 := by omega
            simp -implicitDefEqProofs [c3, f2, f3, e5, mkslP, f5, hn]
            refine z_readn (by rfl) (zCells_eq n).symm ?_
            by_cases c6 : s.drop t2.toNat = List.replicate n 0
            · rw [if_neg (by rintro (h | h | h | h); exact h c3; rw [c4] at h; simp at h; rw [c5] at h; simp at h; exact h c6)] at hr; subst hr
              simp -implicitDefEqProofs [c6]
            · rw [if_pos (.inr (.inr (.inr c6)))] at hr; subst hr
              have c6' : (s.drop t2.toNat != List.replicate n 0) = true := by simpa using c6
              simp -implicitDefEqProofs [c6']
        · have c4' : bootMay x = false := by simpa using c4
          rw [if_pos (.inr (.inl c4'))] at hr; subst hr
          simp -implicitDefEqProofs [c3]
          refine super_may_ok x ?_
          simp -implicitDefEqProofs [c4']
      · rw [if_pos (.inl c3)] at hr; subst hr
        have c3' : ((s.length : Int) != 64) = true := by simp; omega
        simp -implicitDefEqProofs [c3']
    · rw [if_pos c2] at hr; subst hr
      rw [if_neg c2]
      intro a e
      simp -implicitDefEqProofs
      refine joinP_go ?_
      simp -implicitDefEqProofs
  · rw [if_pos c1] at hr; subst hr
    rw [if_neg c1]
    intro a e
    simp -implicitDefEqProofs
    refine fReader_bad hR s 0 _ _ ?_
    simp -implicitDefEqProofs
    refine joinP_go ?_
    simp -implicitDefEqProofs
end
end Go.AI

/- The boot's sectors: which one counts; the document's. -/
set_option linter.all false
namespace Go.AI
variable {A : Type} {R : Adts A}
section
variable {mk : Int → List Bs → A}
theorem super_Pick_ok (hR : R.Ok) (hB : HasBook R mk) {m : Int} {ts : List Bs} (s t : Bs) (hs : s.length < 8000000000000000000) (ht : t.length < 8000000000000000000) {h : AHeap A} {b : Nat} (hb : h[b]? = some (.adt (mk m ts))) {K : AVal → AHeap A → Prop}
    (hk : K (.tup [.int .i64 (sPick ts s t).1, .int .i64 (sPick ts s t).2.1, .int .i64 (sPick ts s t).2.2]) h) : Tri Pr R n_super_Pick [.ptr b 0, .str s, .str t] h K := by
  apply c_super_Pick
  unfold p_super_Pick
  simp -implicitDefEqProofs
  refine super_Get_ok hR hB s hs hb ?_
  simp -implicitDefEqProofs
  refine super_Get_ok hR hB t ht hb ?_
  unfold sPick at hk
  obtain ⟨x, e, hx⟩ : ∃ x e, sGet ts s = (x, e) := ⟨_, _, rfl⟩
  obtain ⟨y, f, hy⟩ : ∃ x e, sGet ts t = (x, e) := ⟨_, _, rfl⟩
  rw [hx, hy] at hk
  rw [hx, hy]
  dsimp only at hk ⊢
  by_cases c1 : e = 0
  · subst c1
    rw [if_neg (by simp)] at hk
    by_cases c2 : y ≤ x
    · rw [if_pos ⟨rfl, c2⟩] at hk
      simp -implicitDefEqProofs [c2]; exact hk
    · rw [if_neg (by simp [c2])] at hk
      simp -implicitDefEqProofs [c2]; exact hk
  · have c1' : (e != 0) = true := by simpa using c1
    have c1'' : (e == 0) = false := by simpa using c1
    by_cases c3 : f = 0
    · subst c3
      rw [if_neg (by simp), if_neg (by simp [c1])] at hk
      simp -implicitDefEqProofs [c1', c1'']; exact hk
    · have c3' : (f != 0) = true := by simpa using c3
      rw [if_pos ⟨c1, c3⟩] at hk
      simp -implicitDefEqProofs [c1', c3']; exact hk
end
section
variable {mk : Int → List Bs → A}
theorem ref1_PutSuper_ok (hR : R.Ok) (hB : HasRBook R mk) {m : Int} {ts : List Bs} (hok : bOk m ts) (boot : Int) {h : AHeap A} {b : Nat} (hb : h[b]? = some (.adt (mk m ts))) {K : AVal → AHeap A → Prop}
    (hk : K (.tup [.str (sPut m ts boot).2.1, .int .i64 (sPut m ts boot).2.2]) (h.set b (.adt (mk m (sPut m ts boot).1)))) : Tri Pr R n_ref1_PutSuper [.ptr b 0, .int .i64 boot] h K := by
  refine rbook_own hR hB rfl rfl ?_ hb hk
  apply c_ref1_PutSuper
  unfold p_ref1_PutSuper
  by_cases h1 : 1 ≤ boot ∧ boot ≤ 1023
  · have hm : bootMay boot = true := by simp [bootMay, h1]
    have h2 : ¬ boot < 1 := by omega
    have h3 : ¬ 1023 < boot := by omega
    have hl := nS_len boot
    have h4 : 5 + (nS boot).length < 9223372036854775808 := by omega
    simp -implicitDefEqProofs [h2, h3]
    refine ref1_Nums_ok hR [boot] (by simp) true (t := t_int) (by simp) ?_
    rw [nAll_one]
    simp -implicitDefEqProofs [h4]
    refine ref1_Hash_ok hR hB hok _ (by simp; omega) (by simp) ?_
    have hc : 72 :: 115 :: 117 :: 112 :: 101 :: 114 :: nS boot = supT boot := rfl
    rw [hc]
    by_cases h5 : (cMade m ts (supT boot)).2.2 = 0
    · simp -implicitDefEqProofs [h5]
      refine ref1_Nums_ok hR [boot, (cMade m ts (supT boot)).2.1] (by simp) true (t := t_int) (by simp) ?_
      have hl2 := nS_len (cMade m ts (supT boot)).2.1
      have hn : nAll [boot, (cMade m ts (supT boot)).2.1] = nS boot ++ nS (cMade m ts (supT boot)).2.1 := by simp [nAll]
      rw [hn]
      refine ref1_sector_ok hR _ (by simp; omega) ?_
      simp -implicitDefEqProofs [sPut, hm, h5]
    · have h6 : ((cMade m ts (supT boot)).2.2 != 0) = true := by simpa using h5
      simp -implicitDefEqProofs [h6, sPut, hm, h5]
  · have hm : bootMay boot = false := by simp [bootMay]; omega
    by_cases h2 : boot < 1
    · simp -implicitDefEqProofs [h2, sPut, hm]
    · have h3 : 1023 < boot := by omega
      simp -implicitDefEqProofs [h2, h3, sPut, hm]
theorem ref1_GetSuper_ok (hR : R.Ok) (hB : HasRBook R mk) {m : Int} {ts : List Bs} (hok : bOk m ts) (s : Bs) (hs : s.length < 8000000000000000000) {h : AHeap A} {b : Nat} (hb : h[b]? = some (.adt (mk m ts))) {K : AVal → AHeap A → Prop}
    (hk : K (.tup [.int .i64 (sGet ts s).1, .int .i64 (sGet ts s).2]) h) : Tri Pr R n_ref1_GetSuper [.ptr b 0, .str s] h K := by
  refine rbook_own hR hB (ts' := ts) rfl rfl ?_ hb (by rw [set_same hb]; exact hk)
  apply c_ref1_GetSuper
  unfold p_ref1_GetSuper
  obtain ⟨r, hr⟩ : ∃ r, sGet ts s = r := ⟨_, rfl⟩
  rw [hr]
  unfold sGet at hr
  simp -implicitDefEqProofs
  have hf : (.cells t_bastionref1_Reader [.str s, .int .i64 0, .bool false] : AObj A) = rRead s 0 false := rfl
  rw [hf]
  refine rReader_ok hR s (by omega) 0 (by omega) false ?_
  obtain ⟨x, t1, e1, hg1⟩ : ∃ x t1 e1, gNum s 0 = (x, t1, e1) := ⟨_, _, _, rfl⟩
  rw [hg1] at hr ⊢
  dsimp only at hr ⊢
  by_cases c3 : s.length = 64
  · by_cases c1 : e1 = 0
    · subst c1
      obtain ⟨q1, q2, q3, q4, q5⟩ := gNum_enc hg1
      rw [if_neg (by simp)] at hr
      rw [if_pos ⟨rfl, rfl⟩]
      refine rReader_ok hR s (by omega) t1 (by omega) false ?_
      obtain ⟨y, t2, e2, hg2⟩ : ∃ y t2 e2, gNum s t1 = (y, t2, e2) := ⟨_, _, _, rfl⟩
      rw [hg2] at hr ⊢
      dsimp only at hr ⊢
      by_cases c2 : e2 = 0
      · subst c2
        obtain ⟨p1, p2, p3, p4, p5⟩ := gNum_enc hg2
        rw [if_neg (by simp)] at hr
        rw [if_pos ⟨rfl, rfl⟩]
        refine joinP_go ?_
        by_cases c4 : 1 ≤ x ∧ x ≤ 1023
        · have hm : bootMay x = true := by simp [bootMay, c4]
          have d1 : ¬ x < 1 := by omega
          have d2 : ¬ 1023 < x := by omega
          have hl := nS_len x
          have h4 : 5 + (nS x).length < 9223372036854775808 := by omega
          have hc : 72 :: 115 :: 117 :: 112 :: 101 :: 114 :: nS x = supT x := rfl
          have f2 : 0 ≤ t2 := by omega
          have f3 : t2 ≤ 64 := by omega
          have e5 := w64 (n := 64 - t2) (by omega)
          obtain ⟨n, hn⟩ : ∃ n : Nat, (64 - t2).toNat = n := ⟨_, rfl⟩
          have hn2 : 64 - t2.toNat = n := by omega
          rw [hn2] at hr
          have f5 : 64 - t2 ≤ 140737488355328 := by omega
          simp -implicitDefEqProofs [c3, d1, d2, f2, f3, e5, mkslP, f5, hn]
          refine z_readn (by rfl) (zCells_eq n).symm ?_
          by_cases c6 : s.drop t2.toNat = List.replicate n 0
          · simp -implicitDefEqProofs [c6]
            refine ref1_Nums_ok hR [x] (by simp) true (t := t_int) (by simp) ?_
            rw [nAll_one]
            simp -implicitDefEqProofs [h4]
            refine ref1_IsHash_ok hR hB hok _ (by simp; omega) y (by simp) ?_
            rw [hc]
            cases c5 : cIs ts (supT x) y with
            | false =>
              rw [if_pos (.inr (.inr (.inl c5)))] at hr; subst hr
              simp -implicitDefEqProofs
            | true =>
              rw [if_neg (by rintro (h | h | h | h); exact h c3; rw [hm] at h; simp at h; rw [c5] at h; simp at h; exact h c6)] at hr; subst hr
              simp -implicitDefEqProofs
          · rw [if_pos (.inr (.inr (.inr c6)))] at hr; subst hr
            have c6' : (s.drop t2.toNat != List.replicate n 0) = true := by simpa using c6
            simp -implicitDefEqProofs [c6']
        · have c4' : bootMay x = false := by simp [bootMay]; omega
          rw [if_pos (.inr (.inl c4'))] at hr; subst hr
          by_cases d1 : x < 1
          · simp -implicitDefEqProofs [c3, d1]
          · have d2 : 1023 < x := by omega
            simp -implicitDefEqProofs [c3, d1, d2]
      · rw [if_pos c2] at hr; subst hr
        rw [if_neg (by simp [c2])]
        refine joinP_go ?_
        simp -implicitDefEqProofs [c3]
    · rw [if_pos c1] at hr; subst hr
      rw [if_neg (by simp [c1])]
      refine rReader_ok hR s (by omega) 0 (by omega) true ?_
      rw [if_neg (by simp)]
      refine joinP_go ?_
      simp -implicitDefEqProofs [c3]
  · have hr' : r = (0, 1000) := by
      rw [← hr]
      split
      · rfl
      · split
        · rfl
        · rw [if_pos (.inl c3)]
    subst hr'
    have c3' : ((s.length : Int) != 64) = true := by simp; omega
    by_cases c1 : e1 = 0
    · obtain ⟨q1, q2, q3, q4, q5⟩ := gNum_enc (by rw [hg1, c1])
      rw [if_pos ⟨rfl, c1⟩]
      refine rReader_ok hR s (by omega) t1 (by omega) false ?_
      split
      · refine joinP_go ?_
        simp -implicitDefEqProofs [c3']
      · refine joinP_go ?_
        simp -implicitDefEqProofs [c3']
    · rw [if_neg (by simp [c1])]
      refine rReader_ok hR s (by omega) 0 (by omega) true ?_
      rw [if_neg (by simp)]
      refine joinP_go ?_
      simp -implicitDefEqProofs [c3']
theorem ref1_Pick_ok (hR : R.Ok) (hB : HasRBook R mk) {m : Int} {ts : List Bs} (hok : bOk m ts) (s t : Bs) (hs : s.length < 8000000000000000000) (ht : t.length < 8000000000000000000) {h : AHeap A} {b : Nat} (hb : h[b]? = some (.adt (mk m ts))) {K : AVal → AHeap A → Prop}
    (hk : K (.tup [.int .i64 (sPick ts s t).1, .int .i64 (sPick ts s t).2.1, .int .i64 (sPick ts s t).2.2]) h) : Tri Pr R n_ref1_Pick [.ptr b 0, .str s, .str t] h K := by
  apply c_ref1_Pick
  unfold p_ref1_Pick
  refine ref1_GetSuper_ok hR hB hok s hs hb ?_
  simp -implicitDefEqProofs
  refine ref1_GetSuper_ok hR hB hok t ht hb ?_
  unfold sPick at hk
  obtain ⟨_, z1, z2⟩ := sGet_err ts s
  obtain ⟨_, w1, w2⟩ := sGet_err ts t
  obtain ⟨x, e, hx⟩ : ∃ x e, sGet ts s = (x, e) := ⟨_, _, rfl⟩
  obtain ⟨y, f, hy⟩ : ∃ x e, sGet ts t = (x, e) := ⟨_, _, rfl⟩
  rw [hx, hy] at hk
  rw [hx] at z1 z2
  rw [hy] at w1 w2
  rw [hx, hy]
  dsimp only at hk z1 z2 w1 w2 ⊢
  by_cases c1 : e = 0
  · subst c1
    rw [if_neg (by simp)] at hk
    have hx1 := z2 rfl
    by_cases c3 : f = 0
    · subst c3
      by_cases c2 : y ≤ x
      · rw [if_pos ⟨rfl, c2⟩] at hk
        simp -implicitDefEqProofs [c2]; exact hk
      · rw [if_neg (by simp [c2])] at hk
        simp -implicitDefEqProofs [c2]; exact hk
    · have c3' : (f != 0) = true := by simpa using c3
      have hy0 := w1 c3
      rw [if_pos ⟨rfl, by omega⟩] at hk
      simp -implicitDefEqProofs [c3']; exact hk
  · have c1' : (e != 0) = true := by simpa using c1
    have c1'' : (e == 0) = false := by simpa using c1
    by_cases c3 : f = 0
    · subst c3
      rw [if_neg (by simp), if_neg (by simp [c1])] at hk
      simp -implicitDefEqProofs [c1', c1'']; exact hk
    · have c3' : (f != 0) = true := by simpa using c3
      rw [if_pos ⟨c1, c3⟩] at hk
      simp -implicitDefEqProofs [c1', c3']; exact hk
end
end Go.AI

/- Events: may one be (printed by gen/event_gen.py)? -/
set_option linter.all false
namespace Go.AI
variable {A : Type} {R : Adts A}
theorem shEv (e f : Ev) : shEq (Sh.st [(0, 1, Sh.i), (1, 1, Sh.i), (2, 1, Sh.i), (3, 1, Sh.i), (4, 1, Sh.i), (5, 1, Sh.i), (6, 1, Sh.i), (7, 1, Sh.i)]) e.row f.row = some (decide (e = f)) := by
  obtain ⟨k, u, s, ad, a, b, c, t⟩ := e
  obtain ⟨k2, u2, s2, ad2, a2, b2, c2, t2⟩ := f
  simp [Ev.row, shEq, shEqs]
  rfl
theorem event_May_0 (hR : R.Ok) (u s ad a b c t : Int) {h : AHeap A} {K : AVal → AHeap A → Prop} (hk : K (.bool (evMay ⟨0, u, s, ad, a, b, c, t⟩)) h) : Tri Pr R n_event_May [.agg (Ev.row ⟨0, u, s, ad, a, b, c, t⟩)] h K := by
  refine Tri.fn1 hR _ rfl rfl ?_ hk
  apply c_event_May
  unfold p_event_May
  simp -implicitDefEqProofs [Ev.row]
  apply c_event_parts
  unfold p_event_parts
  simp -implicitDefEqProofs [appP, appV, srcOf, cellsAt]
  repeat (first | refine joinP_go ?_ | simp -implicitDefEqProofs [appP, appV, srcOf, cellsAt])
  refine loopP_unr 5 ?_
  rw [unr]
  simp -implicitDefEqProofs
  refine field_NumMay_ok _ ?_
  cases h0 : nMay t with
  | false => simp -implicitDefEqProofs; exact Ans.of (by simp [evMay, evParts, h0])
  | true =>
    simp -implicitDefEqProofs
    refine Gives.done (by simp) ?_
    rw [unr]
    simp -implicitDefEqProofs
    refine joinP_go ?_
    by_cases c1 : u < 8
    · by_cases c2 : ad < 16
      · by_cases c3 : t ≤ 1048575
        · by_cases c4 : c ≤ 1048576
          · simp -implicitDefEqProofs [c1, c2, c3, c4]
            apply c_event_plain
            unfold p_event_plain
            simp -implicitDefEqProofs
            apply c_event_parts
            unfold p_event_parts
            simp -implicitDefEqProofs [appP, appV, srcOf, cellsAt]
            repeat (first | refine joinP_go ?_ | simp -implicitDefEqProofs [appP, appV, srcOf, cellsAt])
            apply c_event_parts
            unfold p_event_parts
            simp -implicitDefEqProofs [appP, appV, srcOf, cellsAt]
            repeat (first | refine joinP_go ?_ | simp -implicitDefEqProofs [appP, appV, srcOf, cellsAt])
            refine loopP_unr 5 ?_
            rw [unr]
            simp -implicitDefEqProofs
            refine Gives.done (by simp) ?_
            rw [unr]
            simp -implicitDefEqProofs
            have he := shEv ⟨0, u, s, ad, a, b, c, t⟩ ⟨0, 0, 0, 0, 0, 0, 0, t⟩
            simp only [Ev.row] at he
            simp -implicitDefEqProofs [he]
            exact Ans.of (by simp [evMay, evPlain, evOf, evParts, ev0, c1, c2, c3, c4, h0])
          · simp -implicitDefEqProofs [c1, c2, c3, c4]; exact Ans.of (by simp [evMay, c4])
        · simp -implicitDefEqProofs [c1, c2, c3]; exact Ans.of (by simp [evMay, c3])
      · simp -implicitDefEqProofs [c1, c2]; exact Ans.of (by simp [evMay, c2])
    · simp -implicitDefEqProofs [c1]; exact Ans.of (by simp [evMay, c1])
theorem event_May_1 (hR : R.Ok) (u s ad a b c t : Int) {h : AHeap A} {K : AVal → AHeap A → Prop} (hk : K (.bool (evMay ⟨1, u, s, ad, a, b, c, t⟩)) h) : Tri Pr R n_event_May [.agg (Ev.row ⟨1, u, s, ad, a, b, c, t⟩)] h K := by
  refine Tri.fn1 hR _ rfl rfl ?_ hk
  apply c_event_May
  unfold p_event_May
  simp -implicitDefEqProofs [Ev.row]
  apply c_event_parts
  unfold p_event_parts
  simp -implicitDefEqProofs [appP, appV, srcOf, cellsAt]
  repeat (first | refine joinP_go ?_ | simp -implicitDefEqProofs [appP, appV, srcOf, cellsAt])
  refine loopP_unr 5 ?_
  rw [unr]
  simp -implicitDefEqProofs
  refine field_NumMay_ok _ ?_
  cases h0 : nMay u with
  | false => simp -implicitDefEqProofs; exact Ans.of (by simp [evMay, evParts, h0])
  | true =>
    simp -implicitDefEqProofs
    refine Gives.done (by simp) ?_
    rw [unr]
    simp -implicitDefEqProofs
    refine field_NumMay_ok _ ?_
    cases h1 : nMay a with
    | false => simp -implicitDefEqProofs; exact Ans.of (by simp [evMay, evParts, h0, h1])
    | true =>
      simp -implicitDefEqProofs
      refine Gives.done (by simp) ?_
      rw [unr]
      simp -implicitDefEqProofs
      refine field_NumMay_ok _ ?_
      cases h2 : nMay b with
      | false => simp -implicitDefEqProofs; exact Ans.of (by simp [evMay, evParts, h0, h1, h2])
      | true =>
        simp -implicitDefEqProofs
        refine Gives.done (by simp) ?_
        rw [unr]
        simp -implicitDefEqProofs
        refine field_NumMay_ok _ ?_
        cases h3 : nMay c with
        | false => simp -implicitDefEqProofs; exact Ans.of (by simp [evMay, evParts, h0, h1, h2, h3])
        | true =>
          simp -implicitDefEqProofs
          refine Gives.done (by simp) ?_
          rw [unr]
          simp -implicitDefEqProofs
          refine joinP_go ?_
          by_cases c1 : u < 8
          · by_cases c2 : ad < 16
            · by_cases c3 : t ≤ 1048575
              · by_cases c4 : c ≤ 1048576
                · simp -implicitDefEqProofs [c1, c2, c3, c4]
                  apply c_event_plain
                  unfold p_event_plain
                  simp -implicitDefEqProofs
                  apply c_event_parts
                  unfold p_event_parts
                  simp -implicitDefEqProofs [appP, appV, srcOf, cellsAt]
                  repeat (first | refine joinP_go ?_ | simp -implicitDefEqProofs [appP, appV, srcOf, cellsAt])
                  apply c_event_parts
                  unfold p_event_parts
                  simp -implicitDefEqProofs [appP, appV, srcOf, cellsAt]
                  repeat (first | refine joinP_go ?_ | simp -implicitDefEqProofs [appP, appV, srcOf, cellsAt])
                  refine loopP_unr 5 ?_
                  rw [unr]
                  simp -implicitDefEqProofs
                  refine Gives.done (by simp) ?_
                  rw [unr]
                  simp -implicitDefEqProofs
                  refine Gives.done (by simp) ?_
                  rw [unr]
                  simp -implicitDefEqProofs
                  refine Gives.done (by simp) ?_
                  rw [unr]
                  simp -implicitDefEqProofs
                  refine Gives.done (by simp) ?_
                  rw [unr]
                  simp -implicitDefEqProofs
                  have he := shEv ⟨1, u, s, ad, a, b, c, t⟩ ⟨1, u, 0, 0, a, b, c, 0⟩
                  simp only [Ev.row] at he
                  simp -implicitDefEqProofs [he]
                  exact Ans.of (by simp [evMay, evPlain, evOf, evParts, ev0, c1, c2, c3, c4, h0, h1, h2, h3])
                · simp -implicitDefEqProofs [c1, c2, c3, c4]; exact Ans.of (by simp [evMay, c4])
              · simp -implicitDefEqProofs [c1, c2, c3]; exact Ans.of (by simp [evMay, c3])
            · simp -implicitDefEqProofs [c1, c2]; exact Ans.of (by simp [evMay, c2])
          · simp -implicitDefEqProofs [c1]; exact Ans.of (by simp [evMay, c1])
theorem event_May_2 (hR : R.Ok) (u s ad a b c t : Int) {h : AHeap A} {K : AVal → AHeap A → Prop} (hk : K (.bool (evMay ⟨2, u, s, ad, a, b, c, t⟩)) h) : Tri Pr R n_event_May [.agg (Ev.row ⟨2, u, s, ad, a, b, c, t⟩)] h K := by
  refine Tri.fn1 hR _ rfl rfl ?_ hk
  apply c_event_May
  unfold p_event_May
  simp -implicitDefEqProofs [Ev.row]
  apply c_event_parts
  unfold p_event_parts
  simp -implicitDefEqProofs [appP, appV, srcOf, cellsAt]
  repeat (first | refine joinP_go ?_ | simp -implicitDefEqProofs [appP, appV, srcOf, cellsAt])
  refine loopP_unr 5 ?_
  rw [unr]
  simp -implicitDefEqProofs
  refine field_NumMay_ok _ ?_
  cases h0 : nMay u with
  | false => simp -implicitDefEqProofs; exact Ans.of (by simp [evMay, evParts, h0])
  | true =>
    simp -implicitDefEqProofs
    refine Gives.done (by simp) ?_
    rw [unr]
    simp -implicitDefEqProofs
    refine field_NumMay_ok _ ?_
    cases h1 : nMay t with
    | false => simp -implicitDefEqProofs; exact Ans.of (by simp [evMay, evParts, h0, h1])
    | true =>
      simp -implicitDefEqProofs
      refine Gives.done (by simp) ?_
      rw [unr]
      simp -implicitDefEqProofs
      refine joinP_go ?_
      by_cases c1 : u < 8
      · by_cases c2 : ad < 16
        · by_cases c3 : t ≤ 1048575
          · by_cases c4 : c ≤ 1048576
            · simp -implicitDefEqProofs [c1, c2, c3, c4]
              apply c_event_plain
              unfold p_event_plain
              simp -implicitDefEqProofs
              apply c_event_parts
              unfold p_event_parts
              simp -implicitDefEqProofs [appP, appV, srcOf, cellsAt]
              repeat (first | refine joinP_go ?_ | simp -implicitDefEqProofs [appP, appV, srcOf, cellsAt])
              apply c_event_parts
              unfold p_event_parts
              simp -implicitDefEqProofs [appP, appV, srcOf, cellsAt]
              repeat (first | refine joinP_go ?_ | simp -implicitDefEqProofs [appP, appV, srcOf, cellsAt])
              refine loopP_unr 5 ?_
              rw [unr]
              simp -implicitDefEqProofs
              refine Gives.done (by simp) ?_
              rw [unr]
              simp -implicitDefEqProofs
              refine Gives.done (by simp) ?_
              rw [unr]
              simp -implicitDefEqProofs
              have he := shEv ⟨2, u, s, ad, a, b, c, t⟩ ⟨2, u, 0, 0, 0, 0, 0, t⟩
              simp only [Ev.row] at he
              simp -implicitDefEqProofs [he]
              exact Ans.of (by simp [evMay, evPlain, evOf, evParts, ev0, c1, c2, c3, c4, h0, h1])
            · simp -implicitDefEqProofs [c1, c2, c3, c4]; exact Ans.of (by simp [evMay, c4])
          · simp -implicitDefEqProofs [c1, c2, c3]; exact Ans.of (by simp [evMay, c3])
        · simp -implicitDefEqProofs [c1, c2]; exact Ans.of (by simp [evMay, c2])
      · simp -implicitDefEqProofs [c1]; exact Ans.of (by simp [evMay, c1])
theorem event_May_3 (hR : R.Ok) (u s ad a b c t : Int) {h : AHeap A} {K : AVal → AHeap A → Prop} (hk : K (.bool (evMay ⟨3, u, s, ad, a, b, c, t⟩)) h) : Tri Pr R n_event_May [.agg (Ev.row ⟨3, u, s, ad, a, b, c, t⟩)] h K := by
  refine Tri.fn1 hR _ rfl rfl ?_ hk
  apply c_event_May
  unfold p_event_May
  simp -implicitDefEqProofs [Ev.row]
  apply c_event_parts
  unfold p_event_parts
  simp -implicitDefEqProofs [appP, appV, srcOf, cellsAt]
  repeat (first | refine joinP_go ?_ | simp -implicitDefEqProofs [appP, appV, srcOf, cellsAt])
  refine loopP_unr 5 ?_
  rw [unr]
  simp -implicitDefEqProofs
  refine field_NumMay_ok _ ?_
  cases h0 : nMay u with
  | false => simp -implicitDefEqProofs; exact Ans.of (by simp [evMay, evParts, h0])
  | true =>
    simp -implicitDefEqProofs
    refine Gives.done (by simp) ?_
    rw [unr]
    simp -implicitDefEqProofs
    refine field_NumMay_ok _ ?_
    cases h1 : nMay a with
    | false => simp -implicitDefEqProofs; exact Ans.of (by simp [evMay, evParts, h0, h1])
    | true =>
      simp -implicitDefEqProofs
      refine Gives.done (by simp) ?_
      rw [unr]
      simp -implicitDefEqProofs
      refine joinP_go ?_
      by_cases c1 : u < 8
      · by_cases c2 : ad < 16
        · by_cases c3 : t ≤ 1048575
          · by_cases c4 : c ≤ 1048576
            · simp -implicitDefEqProofs [c1, c2, c3, c4]
              apply c_event_plain
              unfold p_event_plain
              simp -implicitDefEqProofs
              apply c_event_parts
              unfold p_event_parts
              simp -implicitDefEqProofs [appP, appV, srcOf, cellsAt]
              repeat (first | refine joinP_go ?_ | simp -implicitDefEqProofs [appP, appV, srcOf, cellsAt])
              apply c_event_parts
              unfold p_event_parts
              simp -implicitDefEqProofs [appP, appV, srcOf, cellsAt]
              repeat (first | refine joinP_go ?_ | simp -implicitDefEqProofs [appP, appV, srcOf, cellsAt])
              refine loopP_unr 5 ?_
              rw [unr]
              simp -implicitDefEqProofs
              refine Gives.done (by simp) ?_
              rw [unr]
              simp -implicitDefEqProofs
              refine Gives.done (by simp) ?_
              rw [unr]
              simp -implicitDefEqProofs
              have he := shEv ⟨3, u, s, ad, a, b, c, t⟩ ⟨3, u, 0, 0, a, 0, 0, 0⟩
              simp only [Ev.row] at he
              simp -implicitDefEqProofs [he]
              exact Ans.of (by simp [evMay, evPlain, evOf, evParts, ev0, c1, c2, c3, c4, h0, h1])
            · simp -implicitDefEqProofs [c1, c2, c3, c4]; exact Ans.of (by simp [evMay, c4])
          · simp -implicitDefEqProofs [c1, c2, c3]; exact Ans.of (by simp [evMay, c3])
        · simp -implicitDefEqProofs [c1, c2]; exact Ans.of (by simp [evMay, c2])
      · simp -implicitDefEqProofs [c1]; exact Ans.of (by simp [evMay, c1])
theorem event_May_4 (hR : R.Ok) (u s ad a b c t : Int) {h : AHeap A} {K : AVal → AHeap A → Prop} (hk : K (.bool (evMay ⟨4, u, s, ad, a, b, c, t⟩)) h) : Tri Pr R n_event_May [.agg (Ev.row ⟨4, u, s, ad, a, b, c, t⟩)] h K := by
  refine Tri.fn1 hR _ rfl rfl ?_ hk
  apply c_event_May
  unfold p_event_May
  simp -implicitDefEqProofs [Ev.row]
  apply c_event_parts
  unfold p_event_parts
  simp -implicitDefEqProofs [appP, appV, srcOf, cellsAt]
  repeat (first | refine joinP_go ?_ | simp -implicitDefEqProofs [appP, appV, srcOf, cellsAt])
  refine loopP_unr 5 ?_
  rw [unr]
  simp -implicitDefEqProofs
  refine field_NumMay_ok _ ?_
  cases h0 : nMay u with
  | false => simp -implicitDefEqProofs; exact Ans.of (by simp [evMay, evParts, h0])
  | true =>
    simp -implicitDefEqProofs
    refine Gives.done (by simp) ?_
    rw [unr]
    simp -implicitDefEqProofs
    refine joinP_go ?_
    by_cases c1 : u < 8
    · by_cases c2 : ad < 16
      · by_cases c3 : t ≤ 1048575
        · by_cases c4 : c ≤ 1048576
          · simp -implicitDefEqProofs [c1, c2, c3, c4]
            apply c_event_plain
            unfold p_event_plain
            simp -implicitDefEqProofs
            apply c_event_parts
            unfold p_event_parts
            simp -implicitDefEqProofs [appP, appV, srcOf, cellsAt]
            repeat (first | refine joinP_go ?_ | simp -implicitDefEqProofs [appP, appV, srcOf, cellsAt])
            apply c_event_parts
            unfold p_event_parts
            simp -implicitDefEqProofs [appP, appV, srcOf, cellsAt]
            repeat (first | refine joinP_go ?_ | simp -implicitDefEqProofs [appP, appV, srcOf, cellsAt])
            refine loopP_unr 5 ?_
            rw [unr]
            simp -implicitDefEqProofs
            refine Gives.done (by simp) ?_
            rw [unr]
            simp -implicitDefEqProofs
            have he := shEv ⟨4, u, s, ad, a, b, c, t⟩ ⟨4, u, 0, 0, 0, 0, 0, 0⟩
            simp only [Ev.row] at he
            simp -implicitDefEqProofs [he]
            exact Ans.of (by simp [evMay, evPlain, evOf, evParts, ev0, c1, c2, c3, c4, h0])
          · simp -implicitDefEqProofs [c1, c2, c3, c4]; exact Ans.of (by simp [evMay, c4])
        · simp -implicitDefEqProofs [c1, c2, c3]; exact Ans.of (by simp [evMay, c3])
      · simp -implicitDefEqProofs [c1, c2]; exact Ans.of (by simp [evMay, c2])
    · simp -implicitDefEqProofs [c1]; exact Ans.of (by simp [evMay, c1])
theorem event_May_5 (hR : R.Ok) (u s ad a b c t : Int) {h : AHeap A} {K : AVal → AHeap A → Prop} (hk : K (.bool (evMay ⟨5, u, s, ad, a, b, c, t⟩)) h) : Tri Pr R n_event_May [.agg (Ev.row ⟨5, u, s, ad, a, b, c, t⟩)] h K := by
  refine Tri.fn1 hR _ rfl rfl ?_ hk
  apply c_event_May
  unfold p_event_May
  simp -implicitDefEqProofs [Ev.row]
  apply c_event_parts
  unfold p_event_parts
  simp -implicitDefEqProofs [appP, appV, srcOf, cellsAt]
  repeat (first | refine joinP_go ?_ | simp -implicitDefEqProofs [appP, appV, srcOf, cellsAt])
  refine loopP_unr 5 ?_
  rw [unr]
  simp -implicitDefEqProofs
  refine field_NumMay_ok _ ?_
  cases h0 : nMay s with
  | false => simp -implicitDefEqProofs; exact Ans.of (by simp [evMay, evParts, h0])
  | true =>
    simp -implicitDefEqProofs
    refine Gives.done (by simp) ?_
    rw [unr]
    simp -implicitDefEqProofs
    refine field_NumMay_ok _ ?_
    cases h1 : nMay u with
    | false => simp -implicitDefEqProofs; exact Ans.of (by simp [evMay, evParts, h0, h1])
    | true =>
      simp -implicitDefEqProofs
      refine Gives.done (by simp) ?_
      rw [unr]
      simp -implicitDefEqProofs
      refine field_NumMay_ok _ ?_
      cases h2 : nMay ad with
      | false => simp -implicitDefEqProofs; exact Ans.of (by simp [evMay, evParts, h0, h1, h2])
      | true =>
        simp -implicitDefEqProofs
        refine Gives.done (by simp) ?_
        rw [unr]
        simp -implicitDefEqProofs
        refine field_NumMay_ok _ ?_
        cases h3 : nMay t with
        | false => simp -implicitDefEqProofs; exact Ans.of (by simp [evMay, evParts, h0, h1, h2, h3])
        | true =>
          simp -implicitDefEqProofs
          refine Gives.done (by simp) ?_
          rw [unr]
          simp -implicitDefEqProofs
          refine joinP_go ?_
          by_cases c1 : u < 8
          · by_cases c2 : ad < 16
            · by_cases c3 : t ≤ 1048575
              · by_cases c4 : c ≤ 1048576
                · simp -implicitDefEqProofs [c1, c2, c3, c4]
                  apply c_event_plain
                  unfold p_event_plain
                  simp -implicitDefEqProofs
                  apply c_event_parts
                  unfold p_event_parts
                  simp -implicitDefEqProofs [appP, appV, srcOf, cellsAt]
                  repeat (first | refine joinP_go ?_ | simp -implicitDefEqProofs [appP, appV, srcOf, cellsAt])
                  apply c_event_parts
                  unfold p_event_parts
                  simp -implicitDefEqProofs [appP, appV, srcOf, cellsAt]
                  repeat (first | refine joinP_go ?_ | simp -implicitDefEqProofs [appP, appV, srcOf, cellsAt])
                  refine loopP_unr 5 ?_
                  rw [unr]
                  simp -implicitDefEqProofs
                  refine Gives.done (by simp) ?_
                  rw [unr]
                  simp -implicitDefEqProofs
                  refine Gives.done (by simp) ?_
                  rw [unr]
                  simp -implicitDefEqProofs
                  refine Gives.done (by simp) ?_
                  rw [unr]
                  simp -implicitDefEqProofs
                  refine Gives.done (by simp) ?_
                  rw [unr]
                  simp -implicitDefEqProofs
                  have he := shEv ⟨5, u, s, ad, a, b, c, t⟩ ⟨5, u, s, ad, 0, 0, 0, t⟩
                  simp only [Ev.row] at he
                  simp -implicitDefEqProofs [he]
                  exact Ans.of (by simp [evMay, evPlain, evOf, evParts, ev0, c1, c2, c3, c4, h0, h1, h2, h3])
                · simp -implicitDefEqProofs [c1, c2, c3, c4]; exact Ans.of (by simp [evMay, c4])
              · simp -implicitDefEqProofs [c1, c2, c3]; exact Ans.of (by simp [evMay, c3])
            · simp -implicitDefEqProofs [c1, c2]; exact Ans.of (by simp [evMay, c2])
          · simp -implicitDefEqProofs [c1]; exact Ans.of (by simp [evMay, c1])
theorem event_May_6 (hR : R.Ok) (u s ad a b c t : Int) {h : AHeap A} {K : AVal → AHeap A → Prop} (hk : K (.bool (evMay ⟨6, u, s, ad, a, b, c, t⟩)) h) : Tri Pr R n_event_May [.agg (Ev.row ⟨6, u, s, ad, a, b, c, t⟩)] h K := by
  refine Tri.fn1 hR _ rfl rfl ?_ hk
  apply c_event_May
  unfold p_event_May
  by_cases c0 : 4 < b
  · simp -implicitDefEqProofs [Ev.row, c0]; exact Ans.of (by simp [evMay, c0])
  · simp -implicitDefEqProofs [Ev.row, c0]
    apply c_event_parts
    unfold p_event_parts
    simp -implicitDefEqProofs [appP, appV, srcOf, cellsAt]
    repeat (first | refine joinP_go ?_ | simp -implicitDefEqProofs [appP, appV, srcOf, cellsAt])
    refine loopP_unr 5 ?_
    rw [unr]
    simp -implicitDefEqProofs
    refine field_NumMay_ok _ ?_
    cases h0 : nMay s with
    | false => simp -implicitDefEqProofs; exact Ans.of (by simp [evMay, evParts, h0])
    | true =>
      simp -implicitDefEqProofs
      refine Gives.done (by simp) ?_
      rw [unr]
      simp -implicitDefEqProofs
      refine field_NumMay_ok _ ?_
      cases h1 : nMay a with
      | false => simp -implicitDefEqProofs; exact Ans.of (by simp [evMay, evParts, h0, h1])
      | true =>
        simp -implicitDefEqProofs
        refine Gives.done (by simp) ?_
        rw [unr]
        simp -implicitDefEqProofs
        refine field_NumMay_ok _ ?_
        cases h2 : nMay b with
        | false => simp -implicitDefEqProofs; exact Ans.of (by simp [evMay, evParts, h0, h1, h2])
        | true =>
          simp -implicitDefEqProofs
          refine Gives.done (by simp) ?_
          rw [unr]
          simp -implicitDefEqProofs
          refine field_NumMay_ok _ ?_
          cases h3 : nMay t with
          | false => simp -implicitDefEqProofs; exact Ans.of (by simp [evMay, evParts, h0, h1, h2, h3])
          | true =>
            simp -implicitDefEqProofs
            refine Gives.done (by simp) ?_
            rw [unr]
            simp -implicitDefEqProofs
            refine joinP_go ?_
            by_cases c1 : u < 8
            · by_cases c2 : ad < 16
              · by_cases c3 : t ≤ 1048575
                · by_cases c4 : c ≤ 1048576
                  · simp -implicitDefEqProofs [c1, c2, c3, c4]
                    apply c_event_plain
                    unfold p_event_plain
                    simp -implicitDefEqProofs
                    apply c_event_parts
                    unfold p_event_parts
                    simp -implicitDefEqProofs [appP, appV, srcOf, cellsAt]
                    repeat (first | refine joinP_go ?_ | simp -implicitDefEqProofs [appP, appV, srcOf, cellsAt])
                    apply c_event_parts
                    unfold p_event_parts
                    simp -implicitDefEqProofs [appP, appV, srcOf, cellsAt]
                    repeat (first | refine joinP_go ?_ | simp -implicitDefEqProofs [appP, appV, srcOf, cellsAt])
                    refine loopP_unr 5 ?_
                    rw [unr]
                    simp -implicitDefEqProofs
                    refine Gives.done (by simp) ?_
                    rw [unr]
                    simp -implicitDefEqProofs
                    refine Gives.done (by simp) ?_
                    rw [unr]
                    simp -implicitDefEqProofs
                    refine Gives.done (by simp) ?_
                    rw [unr]
                    simp -implicitDefEqProofs
                    refine Gives.done (by simp) ?_
                    rw [unr]
                    simp -implicitDefEqProofs
                    have he := shEv ⟨6, u, s, ad, a, b, c, t⟩ ⟨6, 0, s, 0, a, b, 0, t⟩
                    simp only [Ev.row] at he
                    simp -implicitDefEqProofs [he]
                    exact Ans.of (by simp [evMay, evPlain, evOf, evParts, ev0, c1, c2, c3, c4, h0, h1, h2, h3, c0])
                  · simp -implicitDefEqProofs [c1, c2, c3, c4]; exact Ans.of (by simp [evMay, c4])
                · simp -implicitDefEqProofs [c1, c2, c3]; exact Ans.of (by simp [evMay, c3])
              · simp -implicitDefEqProofs [c1, c2]; exact Ans.of (by simp [evMay, c2])
            · simp -implicitDefEqProofs [c1]; exact Ans.of (by simp [evMay, c1])
theorem event_May_7 (hR : R.Ok) (u s ad a b c t : Int) {h : AHeap A} {K : AVal → AHeap A → Prop} (hk : K (.bool (evMay ⟨7, u, s, ad, a, b, c, t⟩)) h) : Tri Pr R n_event_May [.agg (Ev.row ⟨7, u, s, ad, a, b, c, t⟩)] h K := by
  refine Tri.fn1 hR _ rfl rfl ?_ hk
  apply c_event_May
  unfold p_event_May
  simp -implicitDefEqProofs [Ev.row]
  apply c_event_parts
  unfold p_event_parts
  simp -implicitDefEqProofs [appP, appV, srcOf, cellsAt]
  repeat (first | refine joinP_go ?_ | simp -implicitDefEqProofs [appP, appV, srcOf, cellsAt])
  refine loopP_unr 5 ?_
  rw [unr]
  simp -implicitDefEqProofs
  refine field_NumMay_ok _ ?_
  cases h0 : nMay u with
  | false => simp -implicitDefEqProofs; exact Ans.of (by simp [evMay, evParts, h0])
  | true =>
    simp -implicitDefEqProofs
    refine Gives.done (by simp) ?_
    rw [unr]
    simp -implicitDefEqProofs
    refine joinP_go ?_
    by_cases c1 : u < 8
    · by_cases c2 : ad < 16
      · by_cases c3 : t ≤ 1048575
        · by_cases c4 : c ≤ 1048576
          · simp -implicitDefEqProofs [c1, c2, c3, c4]
            apply c_event_plain
            unfold p_event_plain
            simp -implicitDefEqProofs
            apply c_event_parts
            unfold p_event_parts
            simp -implicitDefEqProofs [appP, appV, srcOf, cellsAt]
            repeat (first | refine joinP_go ?_ | simp -implicitDefEqProofs [appP, appV, srcOf, cellsAt])
            apply c_event_parts
            unfold p_event_parts
            simp -implicitDefEqProofs [appP, appV, srcOf, cellsAt]
            repeat (first | refine joinP_go ?_ | simp -implicitDefEqProofs [appP, appV, srcOf, cellsAt])
            refine loopP_unr 5 ?_
            rw [unr]
            simp -implicitDefEqProofs
            refine Gives.done (by simp) ?_
            rw [unr]
            simp -implicitDefEqProofs
            have he := shEv ⟨7, u, s, ad, a, b, c, t⟩ ⟨7, u, 0, 0, 0, 0, 0, 0⟩
            simp only [Ev.row] at he
            simp -implicitDefEqProofs [he]
            exact Ans.of (by simp [evMay, evPlain, evOf, evParts, ev0, c1, c2, c3, c4, h0])
          · simp -implicitDefEqProofs [c1, c2, c3, c4]; exact Ans.of (by simp [evMay, c4])
        · simp -implicitDefEqProofs [c1, c2, c3]; exact Ans.of (by simp [evMay, c3])
      · simp -implicitDefEqProofs [c1, c2]; exact Ans.of (by simp [evMay, c2])
    · simp -implicitDefEqProofs [c1]; exact Ans.of (by simp [evMay, c1])
theorem event_May_8 (hR : R.Ok) (u s ad a b c t : Int) {h : AHeap A} {K : AVal → AHeap A → Prop} (hk : K (.bool (evMay ⟨8, u, s, ad, a, b, c, t⟩)) h) : Tri Pr R n_event_May [.agg (Ev.row ⟨8, u, s, ad, a, b, c, t⟩)] h K := by
  refine Tri.fn1 hR _ rfl rfl ?_ hk
  apply c_event_May
  unfold p_event_May
  simp -implicitDefEqProofs [Ev.row]
  apply c_event_parts
  unfold p_event_parts
  simp -implicitDefEqProofs [appP, appV, srcOf, cellsAt]
  repeat (first | refine joinP_go ?_ | simp -implicitDefEqProofs [appP, appV, srcOf, cellsAt])
  refine loopP_unr 5 ?_
  rw [unr]
  simp -implicitDefEqProofs
  refine joinP_go ?_
  by_cases c1 : u < 8
  · by_cases c2 : ad < 16
    · by_cases c3 : t ≤ 1048575
      · by_cases c4 : c ≤ 1048576
        · simp -implicitDefEqProofs [c1, c2, c3, c4]
          apply c_event_plain
          unfold p_event_plain
          simp -implicitDefEqProofs
          apply c_event_parts
          unfold p_event_parts
          simp -implicitDefEqProofs [appP, appV, srcOf, cellsAt]
          repeat (first | refine joinP_go ?_ | simp -implicitDefEqProofs [appP, appV, srcOf, cellsAt])
          apply c_event_parts
          unfold p_event_parts
          simp -implicitDefEqProofs [appP, appV, srcOf, cellsAt]
          repeat (first | refine joinP_go ?_ | simp -implicitDefEqProofs [appP, appV, srcOf, cellsAt])
          refine loopP_unr 5 ?_
          rw [unr]
          simp -implicitDefEqProofs
          have he := shEv ⟨8, u, s, ad, a, b, c, t⟩ ⟨8, 0, 0, 0, 0, 0, 0, 0⟩
          simp only [Ev.row] at he
          simp -implicitDefEqProofs [he]
          exact Ans.of (by simp [evMay, evPlain, evOf, evParts, ev0, c1, c2, c3, c4])
        · simp -implicitDefEqProofs [c1, c2, c3, c4]; exact Ans.of (by simp [evMay, c4])
      · simp -implicitDefEqProofs [c1, c2, c3]; exact Ans.of (by simp [evMay, c3])
    · simp -implicitDefEqProofs [c1, c2]; exact Ans.of (by simp [evMay, c2])
  · simp -implicitDefEqProofs [c1]; exact Ans.of (by simp [evMay, c1])
theorem event_May_9 (hR : R.Ok) (u s ad a b c t : Int) {h : AHeap A} {K : AVal → AHeap A → Prop} (hk : K (.bool (evMay ⟨9, u, s, ad, a, b, c, t⟩)) h) : Tri Pr R n_event_May [.agg (Ev.row ⟨9, u, s, ad, a, b, c, t⟩)] h K := by
  refine Tri.fn1 hR _ rfl rfl ?_ hk
  apply c_event_May
  unfold p_event_May
  simp -implicitDefEqProofs [Ev.row]
  apply c_event_parts
  unfold p_event_parts
  simp -implicitDefEqProofs [appP, appV, srcOf, cellsAt]
  repeat (first | refine joinP_go ?_ | simp -implicitDefEqProofs [appP, appV, srcOf, cellsAt])
  refine loopP_unr 5 ?_
  rw [unr]
  simp -implicitDefEqProofs
  refine field_NumMay_ok _ ?_
  cases h0 : nMay s with
  | false => simp -implicitDefEqProofs; exact Ans.of (by simp [evMay, evParts, h0])
  | true =>
    simp -implicitDefEqProofs
    refine Gives.done (by simp) ?_
    rw [unr]
    simp -implicitDefEqProofs
    refine joinP_go ?_
    by_cases c1 : u < 8
    · by_cases c2 : ad < 16
      · by_cases c3 : t ≤ 1048575
        · by_cases c4 : c ≤ 1048576
          · simp -implicitDefEqProofs [c1, c2, c3, c4]
            apply c_event_plain
            unfold p_event_plain
            simp -implicitDefEqProofs
            apply c_event_parts
            unfold p_event_parts
            simp -implicitDefEqProofs [appP, appV, srcOf, cellsAt]
            repeat (first | refine joinP_go ?_ | simp -implicitDefEqProofs [appP, appV, srcOf, cellsAt])
            apply c_event_parts
            unfold p_event_parts
            simp -implicitDefEqProofs [appP, appV, srcOf, cellsAt]
            repeat (first | refine joinP_go ?_ | simp -implicitDefEqProofs [appP, appV, srcOf, cellsAt])
            refine loopP_unr 5 ?_
            rw [unr]
            simp -implicitDefEqProofs
            refine Gives.done (by simp) ?_
            rw [unr]
            simp -implicitDefEqProofs
            have he := shEv ⟨9, u, s, ad, a, b, c, t⟩ ⟨9, 0, s, 0, 0, 0, 0, 0⟩
            simp only [Ev.row] at he
            simp -implicitDefEqProofs [he]
            exact Ans.of (by simp [evMay, evPlain, evOf, evParts, ev0, c1, c2, c3, c4, h0])
          · simp -implicitDefEqProofs [c1, c2, c3, c4]; exact Ans.of (by simp [evMay, c4])
        · simp -implicitDefEqProofs [c1, c2, c3]; exact Ans.of (by simp [evMay, c3])
      · simp -implicitDefEqProofs [c1, c2]; exact Ans.of (by simp [evMay, c2])
    · simp -implicitDefEqProofs [c1]; exact Ans.of (by simp [evMay, c1])
theorem event_May_ok (hR : R.Ok) (e : Ev) {h : AHeap A} {K : AVal → AHeap A → Prop} (hk : K (.bool (evMay e)) h) : Tri Pr R n_event_May [.agg e.row] h K := by
  obtain ⟨k, u, s, ad, a, b, c, t⟩ := e
  by_cases h0 : k < 0
  · refine Tri.fn1 hR _ rfl rfl ?_ hk
    apply c_event_May
    unfold p_event_May
    simp -implicitDefEqProofs [Ev.row, h0]; exact Ans.of (by simp [evMay]; omega)
  by_cases h1 : 9 < k
  · refine Tri.fn1 hR _ rfl rfl ?_ hk
    apply c_event_May
    unfold p_event_May
    simp -implicitDefEqProofs [Ev.row, h0, h1]; exact Ans.of (by simp [evMay]; omega)
  have hc : k = 0 ∨ k = 1 ∨ k = 2 ∨ k = 3 ∨ k = 4 ∨ k = 5 ∨ k = 6 ∨ k = 7 ∨ k = 8 ∨ k = 9 := by omega
  rcases hc with rfl | rfl | rfl | rfl | rfl | rfl | rfl | rfl | rfl | rfl
  · exact event_May_0 hR u s ad a b c t hk
  · exact event_May_1 hR u s ad a b c t hk
  · exact event_May_2 hR u s ad a b c t hk
  · exact event_May_3 hR u s ad a b c t hk
  · exact event_May_4 hR u s ad a b c t hk
  · exact event_May_5 hR u s ad a b c t hk
  · exact event_May_6 hR u s ad a b c t hk
  · exact event_May_7 hR u s ad a b c t hk
  · exact event_May_8 hR u s ad a b c t hk
  · exact event_May_9 hR u s ad a b c t hk
end Go.AI
