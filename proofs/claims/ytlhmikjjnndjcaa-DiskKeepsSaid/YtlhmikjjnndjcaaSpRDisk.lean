/- The document's disk. -/
import Derived.Test.YtlhmikjjnndjcaaSpDisk
import Derived.Test.YtlhmikjjnndjcaaFn4
set_option linter.all false
namespace Go.AI
variable {A : Type} {R : Adts A}
section disk
variable {mk : List Bs → Ws → Bool → A}
theorem rdisk_ix (hB : HasRDisk R mk) (k : List Bs) (w : Ws) (d : Bool) (n : Nat) : (AObj.adt (mk k w d)).ix R n := by
  intro g hg
  obtain rfl := (hB.lay _ _ _ _).1 hg
  unfold rdiskG
  split <;> simp [AVal.ix, strs_ix, wCells_ix]
theorem rdisk_ren (hB : HasRDisk R mk) (k : List Bs) (w : Ws) (d : Bool) (τ : Nat → Nat) : (AObj.adt (mk k w d)).ren R τ = .adt (mk k w d) := by simp [AObj.ren, hB.ren]
theorem rdisk_shut0 (hR : R.Ok) (hB : HasRDisk R mk) {k : List Bs} {d : Bool} {h : AHeap A} {v : AVal} {K : List AVal → AHeap A → Prop} (j0 n : Nat) (hn : n = k.length) (h0 : h[0]? = some (.cells t_bastionref1_Disk [.sl j0 0 n n false, .nils, .bool d]))
    (hs : h[j0]? = some (.cells t_string (k.map .str))) (hd : 0 ≠ j0) (hv : v.ix 0 = true) (hk : K [v] [.adt (mk k [] d)]) : Gives Pr R 1 h [v] K := by
  subst hn
  refine adt_shut hR ((hB.lay _ _ _ _).2 rfl) (rdisk_ix hB _ _ _ _) (rdisk_ren hB _ _ _) [j0] (by simpa [rdiskG, GC.on] using h0) rfl (fun i s hs' => ?_) (by simp [hd]) (by simp [rdiskG]; omega) (by simp [rdiskG]) hv hk
  match i, hs' with
  | 0, hs' => simp [rdiskG] at hs'; subst hs'; exact ⟨hs, rfl⟩
  | i + 1, hs' => simp [rdiskG] at hs'
theorem rdisk_shut (hR : R.Ok) (hB : HasRDisk R mk) {k : List Bs} {w : Ws} (hne : w ≠ []) {d : Bool} {h : AHeap A} {v : AVal} {K : List AVal → AHeap A → Prop} (j0 j1 n m : Nat) (hn : n = k.length) (hm : m = w.length)
    (h0 : h[0]? = some (.cells t_bastionref1_Disk [.sl j0 0 n n false, .sl j1 0 m m false, .bool d])) (hs : h[j0]? = some (.cells t_string (k.map .str))) (hw : h[j1]? = some (.cells t_bastionref1_write (wCells w)))
    (hd : 0 ≠ j0 ∧ 0 ≠ j1 ∧ j0 ≠ j1) (hv : v.ix 0 = true) (hk : K [v] [.adt (mk k w d)]) : Gives Pr R 1 h [v] K := by
  subst hn hm
  refine adt_shut hR ((hB.lay _ _ _ _).2 rfl) (rdisk_ix hB _ _ _ _) (rdisk_ren hB _ _ _) [j0, j1] (by simpa [rdiskG, GC.on, hne] using h0) (by simp [rdiskG, hne]) (fun i s hs' => ?_) (by simp [hd]) (by simp [rdiskG, hne]; omega) (by simp [rdiskG, hne]) hv hk
  match i, hs' with
  | 0, hs' => simp [rdiskG, hne] at hs'; subst hs'; exact ⟨hs, rfl⟩
  | 1, hs' => simp [rdiskG, hne] at hs'; subst hs'; exact ⟨hw, rfl⟩
  | i + 2, hs' => simp [rdiskG, hne] at hs'
theorem rdisk_Waits_ok (hR : R.Ok) (hB : HasRDisk R mk) {k : List Bs} {w : Ws} {d : Bool} {h : AHeap A} {b : Nat} (hb : h[b]? = some (.adt (mk k w d))) {K : AVal → AHeap A → Prop}
    (hk : K (.int .i64 w.length) h) : Tri Pr R n_ref1_Disk_Waits [.ptr b 0] h K := by
  refine Tri.own hR (as2 := [.ptr 0 0]) (Q := fun v o => v = .int .i64 w.length ∧ o = .adt (mk k w d)) rfl (rdisk_ix hB _ _ _ _) ?_ (rdisk_ren hB _ _ _) ?_ hb (by simp [rens, AVal.ren]) ?_
  · rintro _ _ ⟨rfl, rfl⟩; exact ⟨rfl, rdisk_ren hB _ _ _⟩
  · refine Tri.post (Tri.pre (Gives.opened 0 rfl (by simp) fun g hg => ?_))
    obtain rfl := (hB.lay _ _ _ _).1 hg
    refine Gives.done (by simp) ?_
    apply c_ref1_Disk_Waits
    unfold p_ref1_Disk_Waits
    by_cases h0 : w = []
    · subst h0
      simp [rdiskG, GC.at]
      exact rdisk_shut0 hR hB 1 _ rfl rfl rfl (by omega) rfl ⟨_, rfl, _, ⟨rfl, rfl⟩, rfl⟩
    · simp [rdiskG, GC.at, h0]
      exact rdisk_shut hR hB h0 1 2 _ _ rfl rfl rfl rfl rfl (by omega) rfl ⟨_, rfl, _, ⟨rfl, rfl⟩, rfl⟩
  · rintro _ _ ⟨rfl, rfl⟩; rw [set_same hb]; exact hk
theorem rdisk_Restart_ok (hR : R.Ok) (hB : HasRDisk R mk) {k : List Bs} {w : Ws} {d : Bool} {h : AHeap A} {b : Nat} (hb : h[b]? = some (.adt (mk k w d))) {K : AVal → AHeap A → Prop}
    (hk : K (.int .i64 (if d = true then 0 else 800)) (h.set b (.adt (mk k w false)))) : Tri Pr R n_ref1_Disk_Restart [.ptr b 0] h K := by
  refine Tri.own hR (as2 := [.ptr 0 0]) (Q := fun v o => v = .int .i64 (if d = true then 0 else 800) ∧ o = .adt (mk k w false)) rfl (rdisk_ix hB _ _ _ _) ?_ (rdisk_ren hB _ _ _) ?_ hb (by simp [rens, AVal.ren]) ?_
  · rintro _ _ ⟨rfl, rfl⟩; exact ⟨rfl, rdisk_ren hB _ _ _⟩
  · refine Tri.post (Tri.pre (Gives.opened 0 rfl (by simp) fun g hg => ?_))
    obtain rfl := (hB.lay _ _ _ _).1 hg
    refine Gives.done (by simp) ?_
    apply c_ref1_Disk_Restart
    unfold p_ref1_Disk_Restart
    by_cases h0 : w = []
    · subst h0
      cases d <;> simp [rdiskG, GC.at]
      · exact rdisk_shut0 hR hB 1 _ rfl rfl rfl (by omega) rfl ⟨_, rfl, _, ⟨rfl, rfl⟩, rfl⟩
      · exact rdisk_shut0 hR hB 1 _ rfl rfl rfl (by omega) rfl ⟨_, rfl, _, ⟨rfl, rfl⟩, rfl⟩
    · cases d <;> simp [rdiskG, GC.at, h0]
      · exact rdisk_shut hR hB h0 1 2 _ _ rfl rfl rfl rfl rfl (by omega) rfl ⟨_, rfl, _, ⟨rfl, rfl⟩, rfl⟩
      · exact rdisk_shut hR hB h0 1 2 _ _ rfl rfl rfl rfl rfl (by omega) rfl ⟨_, rfl, _, ⟨rfl, rfl⟩, rfl⟩
  · rintro _ _ ⟨rfl, rfl⟩; exact hk
theorem rdisk_Write_ok (hR : R.Ok) (hB : HasRDisk R mk) {k : List Bs} {w : Ws} {d : Bool} (hok : dOk k w) (hw : w.length ≤ 1000) (x : Int) (s : Bs) {h : AHeap A} {b : Nat} (hb : h[b]? = some (.adt (mk k w d))) {K : AVal → AHeap A → Prop}
    (hk : K (.int .i64 (dWrite k w d x s).2) (h.set b (.adt (mk k (dWrite k w d x s).1 d)))) : Tri Pr R n_ref1_Disk_Write [.ptr b 0, .int .i64 x, .str s] h K := by
  refine Tri.own hR (as2 := [.ptr 0 0, .int .i64 x, .str s]) (Q := fun v o => v = .int .i64 (dWrite k w d x s).2 ∧ o = .adt (mk k (dWrite k w d x s).1 d)) rfl (rdisk_ix hB _ _ _ _) ?_ (rdisk_ren hB _ _ _) ?_ hb (by simp [rens, AVal.ren]) ?_
  · rintro _ _ ⟨rfl, rfl⟩; exact ⟨rfl, rdisk_ren hB _ _ _⟩
  · refine Tri.post (Tri.pre (Gives.opened 0 rfl (by simp) fun g hg => ?_))
    obtain rfl := (hB.lay _ _ _ _).1 hg
    refine Gives.done (by simp) ?_
    apply c_ref1_Disk_Write
    unfold p_ref1_Disk_Write
    obtain ⟨r, hr⟩ : ∃ r, dWrite k w d x s = r := ⟨_, rfl⟩
    rw [hr]
    unfold dWrite at hr
    have tests : (x < 0) ∨ (¬ x < 0 ∧ (k.length : Int) ≤ x) ∨ (¬ x < 0 ∧ ¬ (k.length : Int) ≤ x ∧ s.length ≠ 64) ∨ (¬ x < 0 ∧ ¬ (k.length : Int) ≤ x ∧ s.length = 64) := by omega
    by_cases h0 : w = []
    · subst h0
      have fin : ∀ (v : Int), Gives Pr R 1 [.cells t_bastionref1_Disk [.sl 1 0 k.length k.length false, .nils, .bool d], .cells t_string (k.map .str)] [.int .i64 v] fun vs h2 => ∃ u, vs = [u] ∧ ∃ o', (u = .int .i64 v ∧ o' = .adt (mk k [] d)) ∧ h2 = [o'] := fun v =>
        rdisk_shut0 hR hB 1 _ rfl rfl rfl (by omega) rfl ⟨_, rfl, _, ⟨rfl, rfl⟩, rfl⟩
      cases d with
      | true =>
        simp at hr; subst hr
        simp [rdiskG, GC.at]
        exact fin _
      | false =>
        simp at hr
        rcases tests with h1 | ⟨h1, h2⟩ | ⟨h1, h2, h3⟩ | ⟨h1, h2, h3⟩
        · rw [if_pos (by omega)] at hr; subst hr
          simp [rdiskG, GC.at, h1]
          exact fin _
        · rw [if_pos (by omega)] at hr; subst hr
          simp [rdiskG, GC.at, h1, h2]
          exact fin _
        · rw [if_pos (by omega)] at hr; subst hr
          have h4 : ((s.length : Int) != 64) = true := by simp; omega
          simp [rdiskG, GC.at, h1, h2, h4]
          exact fin _
        · rw [if_neg (by omega)] at hr; subst hr
          simp [rdiskG, GC.at, h1, h2, h3, appP, appV, srcOf, cellsAt]
          exact rdisk_shut hR hB (w := [(x, s)]) (by simp) 1 3 _ 1 rfl rfl rfl rfl rfl (by omega) rfl ⟨_, rfl, _, ⟨rfl, rfl⟩, rfl⟩
    · have fin : ∀ (v : Int), Gives Pr R 1 [.cells t_bastionref1_Disk [.sl 1 0 k.length k.length false, .sl 2 0 w.length w.length false, .bool d], .cells t_string (k.map .str), .cells t_bastionref1_write (wCells w)] [.int .i64 v] fun vs h2 => ∃ u, vs = [u] ∧ ∃ o', (u = .int .i64 v ∧ o' = .adt (mk k w d)) ∧ h2 = [o'] := fun v =>
        rdisk_shut hR hB h0 1 2 _ _ rfl rfl rfl rfl rfl (by omega) rfl ⟨_, rfl, _, ⟨rfl, rfl⟩, rfl⟩
      cases d with
      | true =>
        simp at hr; subst hr
        simp [rdiskG, GC.at, h0]
        exact fin _
      | false =>
        simp at hr
        rcases tests with h1 | ⟨h1, h2⟩ | ⟨h1, h2, h3⟩ | ⟨h1, h2, h3⟩
        · rw [if_pos (by omega)] at hr; subst hr
          simp [rdiskG, GC.at, h0, h1]
          exact fin _
        · rw [if_pos (by omega)] at hr; subst hr
          simp [rdiskG, GC.at, h0, h1, h2]
          exact fin _
        · rw [if_pos (by omega)] at hr; subst hr
          have h4 : ((s.length : Int) != 64) = true := by simp; omega
          simp [rdiskG, GC.at, h0, h1, h2, h4]
          exact fin _
        · rw [if_neg (by omega)] at hr; subst hr
          have hl := wCells_len w
          have h6 : ¬ w.length + 1 ≤ w.length := by omega
          have h7 : (2 * (w.length + 1) + 1000) * 24 ≤ 140737488355328 := by omega
          have h9 : w.length * 2 = (wCells w).length := by omega
          simp [rdiskG, GC.at, h0, h1, h2, h3, appP, appV, srcOf, cellsAt, h6, h7, h9]
          refine rdisk_shut hR hB (w := w ++ [(x, s)]) (by simp) 1 4 _ (w.length + 1) rfl (by simp) rfl rfl ?_ (by omega) rfl ⟨_, rfl, _, ⟨rfl, rfl⟩, rfl⟩
          simp [wCells]
  · rintro _ _ ⟨rfl, rfl⟩; exact hk
theorem wCells_get0 (w : Ws) (i : Nat) (h : i < w.length) : (wCells w)[i * 2]? = some (.int .i64 w[i].1) := by
  have := congrArg (fun l : List AVal => l[0]?) (wCells_at w i h)
  simpa [List.getElem?_take, List.getElem?_drop] using this
theorem wCells_get1 (w : Ws) (i : Nat) (h : i < w.length) : (wCells w)[i * 2 + 1]? = some (.str w[i].2) := by
  have := congrArg (fun l : List AVal => l[1]?) (wCells_at w i h)
  simpa [List.getElem?_take, List.getElem?_drop] using this
theorem rdisk_Flush_ok (hR : R.Ok) (hB : HasRDisk R mk) {k : List Bs} {w : Ws} {d : Bool} (hok : dOk k w) (hw : w.length ≤ 1000) {h : AHeap A} {b : Nat} (hb : h[b]? = some (.adt (mk k w d))) {K : AVal → AHeap A → Prop}
    (hk : if d = true then K (.int .i64 801) h else K (.int .i64 0) (h.set b (.adt (mk (dPut k w) [] d)))) : Tri Pr R n_ref1_Disk_Flush [.ptr b 0] h K := by
  refine Tri.own hR (as2 := [.ptr 0 0]) (Q := fun v o => if d = true then v = .int .i64 801 ∧ o = .adt (mk k w d) else v = .int .i64 0 ∧ o = .adt (mk (dPut k w) [] d)) rfl (rdisk_ix hB _ _ _ _) ?_ (rdisk_ren hB _ _ _) ?_ hb (by simp [rens, AVal.ren]) ?_
  · intro v o hq; split at hq <;> (obtain ⟨rfl, rfl⟩ := hq; exact ⟨rfl, rdisk_ren hB _ _ _⟩)
  · refine Tri.post (Tri.pre (Gives.opened 0 rfl (by simp) fun g hg => ?_))
    obtain rfl := (hB.lay _ _ _ _).1 hg
    refine Gives.done (by simp) ?_
    apply c_ref1_Disk_Flush
    unfold p_ref1_Disk_Flush
    by_cases h0 : w = []
    · subst h0
      cases d with
      | true =>
        simp [rdiskG, GC.at]
        exact rdisk_shut0 hR hB 1 _ rfl rfl rfl (by omega) rfl ⟨_, rfl, _, ⟨rfl, rfl⟩, rfl⟩
      | false =>
        simp [rdiskG, GC.at]
        refine loopP_unr 1 ?_
        rw [unr]
        simp
        exact rdisk_shut0 hR hB 1 _ rfl rfl rfl (by omega) rfl ⟨_, rfl, _, ⟨rfl, rfl⟩, rfl⟩
    · cases d with
      | true =>
        simp [rdiskG, GC.at, h0]
        exact rdisk_shut hR hB h0 1 2 _ _ rfl rfl rfl rfl rfl (by omega) rfl ⟨_, rfl, _, ⟨rfl, rfl⟩, rfl⟩
      | false =>
        simp [rdiskG, GC.at, h0]
        refine loopP_go (fun m y g => ∃ i : Nat, y = [.int .i64 i] ∧ g = [.cells t_bastionref1_Disk [.sl 1 0 k.length k.length false, .sl 2 0 w.length w.length false, .bool false], .cells t_string ((dPut k (w.take i)).map .str), .cells t_bastionref1_write (wCells w)] ∧ i ≤ w.length ∧ m = w.length - i) w.length
          (Gives.done (by simp) ⟨0, by simp, by simp [dPut], by omega, by omega⟩) ?_
        rintro m y g ⟨i, rfl, rfl, hi, rfl⟩
        simp
        refine iteP_of (fun h1 => ?_) (fun h1 => ?_)
        · simp at h1
          have e1 := w64 (n := (i : Int) + 1) (by omega)
          have g0 := wCells_get0 w i h1
          have g1 := wCells_get1 w i h1
          obtain ⟨q0, q1, q2⟩ := hok.wait w[i] (List.getElem_mem h1)
          have hdl := dPut_len k (w.take i)
          have hso := fun g : AHeap A => setO_one g 1 w[i].1.toNat (.str w[i].2) t_string ((dPut k (w.take i)).map .str) rfl (by simp [hdl]; omega)
          have hsp : dPut k (w.take (i + 1)) = (dPut k (w.take i)).set w[i].1.toNat w[i].2 := by rw [← List.take_append_getElem h1, dPut_snoc]
          have hwl := wCells_len w
          have l0 : i * 2 < (wCells w).length := by omega
          have l1 : i * 2 + 1 < (wCells w).length := by omega
          obtain ⟨_, g0'⟩ := List.getElem?_eq_some_iff.1 g0
          obtain ⟨_, g1'⟩ := List.getElem?_eq_some_iff.1 g1
          simp [h1, l0, l1, g0', g1', q0, q1, hso, e1]
          refine Gives.cut hR (m := 3) (by omega) (by simp) rfl (by simp; exact ⟨low_cells rfl, low_cells (by rw [← List.map_set]; exact strs_ix _ _), low_cells (wCells_ix _ _)⟩) ?_
          exact ⟨w.length - (i + 1), by omega, i + 1, by simp, by rw [hsp]; simp, by omega, rfl⟩
        · simp at h1
          obtain rfl : i = w.length := by omega
          simp
          exact rdisk_shut0 hR hB 1 _ (dPut_len k w).symm rfl rfl (by omega) rfl ⟨_, rfl, _, ⟨rfl, rfl⟩, rfl⟩
  · intro v o hq
    cases d with
    | true => simp at hq hk; obtain ⟨rfl, rfl⟩ := hq; rw [set_same hb]; exact hk
    | false => simp at hq hk; obtain ⟨rfl, rfl⟩ := hq; exact hk
theorem dPut_skip (n : Nat) : ∀ (w : Ws) (k : List Bs), (∀ a ∈ w, a.1.toNat ≠ n) → (dPut k w)[n]? = k[n]?
  | [], k, _ => rfl
  | a :: r, k, h => by
    have := dPut_skip n r (k.set a.1.toNat a.2) fun b hb => h b (by simp [hb])
    have e : dPut k (a :: r) = dPut (k.set a.1.toNat a.2) r := rfl
    rw [e, this, List.getElem?_set]
    simp [h a (by simp)]
theorem dPut_app (k : List Bs) (w v : Ws) : dPut k (w ++ v) = dPut (dPut k w) v := by simp [dPut, List.foldl_append]
theorem dPut_last {k : List Bs} {w : Ws} {i : Nat} (hi : i < w.length) (hk : w[i].1.toNat < k.length) (h : ∀ a ∈ w.drop (i + 1), a.1.toNat ≠ w[i].1.toNat) : (dPut k w)[w[i].1.toNat]? = some w[i].2 := by
  have e : w = w.take i ++ [w[i]] ++ w.drop (i + 1) := by rw [List.take_append_getElem hi, List.take_append_drop]
  have e2 : dPut k w = dPut ((dPut k (w.take i)).set w[i].1.toNat w[i].2) (w.drop (i + 1)) := by
    conv => lhs; rw [e]
    rw [dPut_app, dPut_snoc]
  rw [e2, dPut_skip _ _ _ h, List.getElem?_set]
  simp [dPut_len, hk]
theorem rdisk_Read_ok (hR : R.Ok) (hB : HasRDisk R mk) {k : List Bs} {w : Ws} {d : Bool} (hok : dOk k w) (hw : w.length ≤ 1000) (x : Int) {h : AHeap A} {b : Nat} (hb : h[b]? = some (.adt (mk k w d))) {K : AVal → AHeap A → Prop}
    (hk : K (.tup [.str (dRead k w d x).1, .int .i64 (dRead k w d x).2]) h) : Tri Pr R n_ref1_Disk_Read [.ptr b 0, .int .i64 x] h K := by
  refine Tri.own hR (as2 := [.ptr 0 0, .int .i64 x]) (Q := fun v o => v = .tup [.str (dRead k w d x).1, .int .i64 (dRead k w d x).2] ∧ o = .adt (mk k w d)) rfl (rdisk_ix hB _ _ _ _) ?_ (rdisk_ren hB _ _ _) ?_ hb (by simp [rens, AVal.ren]) ?_
  · rintro _ _ ⟨rfl, rfl⟩; exact ⟨rfl, rdisk_ren hB _ _ _⟩
  · refine Tri.post (Tri.pre (Gives.opened 0 rfl (by simp) fun g hg => ?_))
    obtain rfl := (hB.lay _ _ _ _).1 hg
    refine Gives.done (by simp) ?_
    apply c_ref1_Disk_Read
    unfold p_ref1_Disk_Read
    obtain ⟨r, hr⟩ : ∃ r, dRead k w d x = r := ⟨_, rfl⟩
    rw [hr]
    unfold dRead at hr
    have hsz := hok.size
    have tests : (x < 0) ∨ (¬ x < 0 ∧ (k.length : Int) ≤ x) ∨ (¬ x < 0 ∧ ¬ (k.length : Int) ≤ x) := by omega
    by_cases h0 : w = []
    · subst h0
      have fin : ∀ (s : Bs) (v : Int), Gives Pr R 1 [.cells t_bastionref1_Disk [.sl 1 0 k.length k.length false, .nils, .bool d], .cells t_string (k.map .str)] [.tup [.str s, .int .i64 v]] fun vs h2 => ∃ u, vs = [u] ∧ ∃ o', (u = .tup [.str s, .int .i64 v] ∧ o' = .adt (mk k [] d)) ∧ h2 = [o'] := fun s v =>
        rdisk_shut0 hR hB 1 _ rfl rfl rfl (by omega) rfl ⟨_, rfl, _, ⟨rfl, rfl⟩, rfl⟩
      cases d with
      | true =>
        simp at hr; subst hr
        simp [rdiskG, GC.at]
        exact fin _ _
      | false =>
        simp at hr
        rcases tests with h1 | ⟨h1, h2⟩ | ⟨h1, h2⟩
        · rw [if_pos (by omega)] at hr; subst hr
          simp [rdiskG, GC.at, h1]
          exact fin _ _
        · rw [if_pos (by omega)] at hr; subst hr
          simp [rdiskG, GC.at, h1, h2]
          exact fin _ _
        · rw [if_neg (by omega)] at hr; subst hr
          have h3 : 0 ≤ x := by omega
          have h5 : x < k.length := by omega
          have h4 : x.toNat < k.length := by omega
          simp [rdiskG, GC.at, h1, h2]
          refine loopP_unr 1 ?_
          rw [unr]
          simp [dPut, h3, h4, h5]
          exact fin _ _
    · have fin : ∀ (s : Bs) (v : Int), Gives Pr R 1 [.cells t_bastionref1_Disk [.sl 1 0 k.length k.length false, .sl 2 0 w.length w.length false, .bool d], .cells t_string (k.map .str), .cells t_bastionref1_write (wCells w)] [.tup [.str s, .int .i64 v]] fun vs h2 => ∃ u, vs = [u] ∧ ∃ o', (u = .tup [.str s, .int .i64 v] ∧ o' = .adt (mk k w d)) ∧ h2 = [o'] := fun s v =>
        rdisk_shut hR hB h0 1 2 _ _ rfl rfl rfl rfl rfl (by omega) rfl ⟨_, rfl, _, ⟨rfl, rfl⟩, rfl⟩
      cases d with
      | true =>
        simp at hr; subst hr
        simp [rdiskG, GC.at, h0]
        exact fin _ _
      | false =>
        simp at hr
        rcases tests with h1 | ⟨h1, h2⟩ | ⟨h1, h2⟩
        · rw [if_pos (by omega)] at hr; subst hr
          simp [rdiskG, GC.at, h0, h1]
          exact fin _ _
        · rw [if_pos (by omega)] at hr; subst hr
          simp [rdiskG, GC.at, h0, h1, h2]
          exact fin _ _
        · rw [if_neg (by omega)] at hr; subst hr
          have h3 : 0 ≤ x := by omega
          have h5 : x < k.length := by omega
          have h4 : x.toNat < k.length := by omega
          have e0 := w64 (n := (w.length : Int) - 1) (by omega)
          simp [rdiskG, GC.at, h0, h1, h2, e0]
          refine loopP_go (fun m y g => ∃ i : Nat, y = [.int .i64 ((i : Int) - 1)] ∧ g = [.cells t_bastionref1_Disk [.sl 1 0 k.length k.length false, .sl 2 0 w.length w.length false, .bool false], .cells t_string (k.map .str), .cells t_bastionref1_write (wCells w)] ∧ i ≤ w.length ∧ m = i ∧ ∀ a ∈ w.drop i, a.1.toNat ≠ x.toNat) w.length
            (Gives.done (by simp) ⟨w.length, rfl, rfl, by omega, rfl, by simp⟩) ?_
          rintro m y g ⟨i, rfl, rfl, hi, rfl, hp⟩
          cases m with
          | zero =>
            have h6 : (dPut k w)[x.toNat]? = some k[x.toNat] := by
              rw [dPut_skip _ _ _ (by simpa using hp)]; simp [h4]
            simp only [h6]
            simp [h3, h4, h5]
            exact fin _ _
          | succ i =>
            have hlt : i < w.length := by omega
            have e1 := w64 (n := (i : Int) - 1) (by omega)
            have e3 : ((i + 1 : Nat) : Int) - 1 = i := by omega
            have hwl := wCells_len w
            have l0 : i * 2 < (wCells w).length := by omega
            have l1 : i * 2 + 1 < (wCells w).length := by omega
            obtain ⟨_, g0'⟩ := List.getElem?_eq_some_iff.1 (wCells_get0 w i hlt)
            obtain ⟨_, g1'⟩ := List.getElem?_eq_some_iff.1 (wCells_get1 w i hlt)
            obtain ⟨q0, q1, q2⟩ := hok.wait w[i] (List.getElem_mem hlt)
            simp only [e3]
            simp [hlt, l0, l1, g0', g1', e1]
            refine iteP_of (fun h6 => ?_) (fun h6 => ?_)
            · simp at h6
              have h7 : (dPut k w)[x.toNat]? = some w[i].2 := by
                rw [← h6, dPut_last hlt (by omega) (by rw [h6]; exact hp)]
              simp only [h7]
              exact fin _ _
            · simp at h6
              refine Gives.done (by simp) ⟨i, by omega, i, rfl, rfl, by omega, rfl, fun a c ha => ?_⟩
              rw [List.drop_eq_getElem_cons hlt] at ha
              rcases List.mem_cons.1 ha with he | ha
              · have : a = w[i].1 := congrArg Prod.fst he
                omega
              · exact hp (a, c) ha
  · rintro _ _ ⟨rfl, rfl⟩; rw [set_same hb]; exact hk
end disk
end Go.AI
