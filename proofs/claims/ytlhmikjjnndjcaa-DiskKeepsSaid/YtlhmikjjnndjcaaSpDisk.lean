/- A disk: its lists as one object. -/
import Derived.Test.YtlhmikjjnndjcaaSpBook2
import Derived.Test.YtlhmikjjnndjcaaFn1
import Derived.Test.YtlhmikjjnndjcaaFn2
import Derived.Test.YtlhmikjjnndjcaaFn3
set_option linter.all false
namespace Go.AI
variable {A : Type} {R : Adts A}
/-- Writes that wait: sector, bytes. -/
abbrev Ws := List (Int × Bs)
def wCells (ws : Ws) : List AVal := ws.flatMap fun w => [.int .i64 w.1, .str w.2]
/-- The program's disk: kept sectors, writes that wait, is it down. -/
def diskG (kept : List Bs) (ws : Ws) (down : Bool) : Grp A :=
  if ws = [] then { e := t_disk_Disk, cs := [.sl 0 0 kept.length kept.length true, .g .nils, .g (.bool down)], subs := [.cells t_string (kept.map .str)] }
  else { e := t_disk_Disk, cs := [.sl 0 0 kept.length kept.length true, .sl 1 0 ws.length ws.length false, .g (.bool down)], subs := [.cells t_string (kept.map .str), .cells t_disk_write (wCells ws)] }
structure HasDisk (R : Adts A) (mk : List Bs → Ws → Bool → A) : Prop where
  lay : ∀ k w d g, R.lay (mk k w d) g ↔ g = diskG k w d
  ren : ∀ τ k w d, R.ren τ (mk k w d) = mk k w d
/-- The document's disk. -/
def rdiskG (kept : List Bs) (ws : Ws) (down : Bool) : Grp A :=
  if ws = [] then { e := t_bastionref1_Disk, cs := [.sl 0 0 kept.length kept.length false, .g .nils, .g (.bool down)], subs := [.cells t_string (kept.map .str)] }
  else { e := t_bastionref1_Disk, cs := [.sl 0 0 kept.length kept.length false, .sl 1 0 ws.length ws.length false, .g (.bool down)], subs := [.cells t_string (kept.map .str), .cells t_bastionref1_write (wCells ws)] }
structure HasRDisk (R : Adts A) (mk : List Bs → Ws → Bool → A) : Prop where
  lay : ∀ k w d g, R.lay (mk k w d) g ↔ g = rdiskG k w d
  ren : ∀ τ k w d, R.ren τ (mk k w d) = mk k w d
/-- What holds of a disk. -/
structure dOk (kept : List Bs) (ws : Ws) : Prop where
  size : 1 ≤ kept.length ∧ kept.length ≤ 256
  full : ∀ s ∈ kept, s.length = 64
  wait : ∀ w ∈ ws, 0 ≤ w.1 ∧ w.1 < kept.length ∧ w.2.length = 64
/-- What the methods do, plainly: the disk behind it, the answer. -/
def dWrite (kept : List Bs) (ws : Ws) (down : Bool) (x : Int) (s : Bs) : Ws × Int :=
  if down then (ws, 801) else if x < 0 ∨ (kept.length : Int) ≤ x ∨ s.length ≠ 64 then (ws, 800) else (ws ++ [(x, s)], 0)
def dPut (kept : List Bs) (ws : Ws) : List Bs := ws.foldl (fun k w => k.set w.1.toNat w.2) kept
def dRead (kept : List Bs) (ws : Ws) (down : Bool) (x : Int) : Bs × Int :=
  if down then ([], 801) else if x < 0 ∨ (kept.length : Int) ≤ x then ([], 800) else ((dPut kept ws).getD x.toNat [], 0)
theorem wCells_ix (n : Nat) : ∀ ws : Ws, ixs n (wCells ws) = true
  | [] => rfl
  | w :: r => by simp only [wCells, List.flatMap_cons]; simpa [ixs, AVal.ix, wCells] using wCells_ix n r
theorem wCells_len : ∀ ws : Ws, (wCells ws).length = 2 * ws.length
  | [] => rfl
  | w :: r => by have := wCells_len r; simp [wCells] at this ⊢; omega
theorem strs_ix (n : Nat) (l : List Bs) : ixs n (l.map .str) = true := by simp [ixs_all, AVal.ix]
/-- An object of a data type is told as one again. -/
theorem adt_shut (hR : R.Ok) {a : A} {g : Grp A} (hl : R.lay a g) (hix : (AObj.adt a).ix R 1) (hren : ∀ τ, (AObj.adt a).ren R τ = .adt a) {h : AHeap A} {v : AVal} {K : List AVal → AHeap A → Prop} (js : List Nat)
    (h0 : h[0]? = some (.cells g.e (g.cs.map (GC.on js)))) (hj : js.length = g.subs.length) (hs : ∀ (i : Nat) (s : AObj A), g.subs[i]? = some s → h[js.getD i 0]? = some s ∧ s.bas = true) (hnd : (0 :: js).Nodup)
    (hi1 : ∀ i o len cap ex, GC.sl i o len cap ex ∈ g.cs → i < g.subs.length) (hi2 : ∀ i, GC.mp i ∈ g.cs → i < g.subs.length) (hv : v.ix 0 = true) (hk : K [v] [.adt a]) : Gives Pr R 1 h [v] K := by
  have hlt := (List.getElem?_eq_some_iff.1 h0).1
  refine Gives.shut 0 js a g hl h0 hj hs hnd hi1 hi2 ?_
  have e := take1_set (kills h js) (.adt a) (by rw [kills_length]; exact hlt)
  exact Gives.cut hR (m := 1) (by omega) (by simp [kills_length]; omega) (by simp [ixs, ix_mono (Nat.zero_le 1) v hv]) (by rw [e]; simp; exact ⟨hix, fun τ _ => hren τ⟩) (by rw [e]; exact hk)
section disk
variable {mk : List Bs → Ws → Bool → A}
theorem disk_ix (hB : HasDisk R mk) (k : List Bs) (w : Ws) (d : Bool) (n : Nat) : (AObj.adt (mk k w d)).ix R n := by
  intro g hg
  obtain rfl := (hB.lay _ _ _ _).1 hg
  unfold diskG
  split <;> simp [AVal.ix, strs_ix, wCells_ix]
theorem disk_ren (hB : HasDisk R mk) (k : List Bs) (w : Ws) (d : Bool) (τ : Nat → Nat) : (AObj.adt (mk k w d)).ren R τ = .adt (mk k w d) := by simp [AObj.ren, hB.ren]
theorem disk_shut0 (hR : R.Ok) (hB : HasDisk R mk) {k : List Bs} {d : Bool} {h : AHeap A} {v : AVal} {K : List AVal → AHeap A → Prop} (j0 n : Nat) (hn : n = k.length) (h0 : h[0]? = some (.cells t_disk_Disk [.sl j0 0 n n true, .nils, .bool d]))
    (hs : h[j0]? = some (.cells t_string (k.map .str))) (hd : 0 ≠ j0) (hv : v.ix 0 = true) (hk : K [v] [.adt (mk k [] d)]) : Gives Pr R 1 h [v] K := by
  subst hn
  refine adt_shut hR ((hB.lay _ _ _ _).2 rfl) (disk_ix hB _ _ _ _) (disk_ren hB _ _ _) [j0] (by simpa [diskG, GC.on] using h0) rfl (fun i s hs' => ?_) (by simp [hd]) (by simp [diskG]; omega) (by simp [diskG]) hv hk
  match i, hs' with
  | 0, hs' => simp [diskG] at hs'; subst hs'; exact ⟨hs, rfl⟩
  | i + 1, hs' => simp [diskG] at hs'
theorem disk_shut (hR : R.Ok) (hB : HasDisk R mk) {k : List Bs} {w : Ws} (hne : w ≠ []) {d : Bool} {h : AHeap A} {v : AVal} {K : List AVal → AHeap A → Prop} (j0 j1 n m : Nat) (hn : n = k.length) (hm : m = w.length)
    (h0 : h[0]? = some (.cells t_disk_Disk [.sl j0 0 n n true, .sl j1 0 m m false, .bool d])) (hs : h[j0]? = some (.cells t_string (k.map .str))) (hw : h[j1]? = some (.cells t_disk_write (wCells w)))
    (hd : 0 ≠ j0 ∧ 0 ≠ j1 ∧ j0 ≠ j1) (hv : v.ix 0 = true) (hk : K [v] [.adt (mk k w d)]) : Gives Pr R 1 h [v] K := by
  subst hn hm
  refine adt_shut hR ((hB.lay _ _ _ _).2 rfl) (disk_ix hB _ _ _ _) (disk_ren hB _ _ _) [j0, j1] (by simpa [diskG, GC.on, hne] using h0) (by simp [diskG, hne]) (fun i s hs' => ?_) (by simp [hd]) (by simp [diskG, hne]; omega) (by simp [diskG, hne]) hv hk
  match i, hs' with
  | 0, hs' => simp [diskG, hne] at hs'; subst hs'; exact ⟨hs, rfl⟩
  | 1, hs' => simp [diskG, hne] at hs'; subst hs'; exact ⟨hw, rfl⟩
  | i + 2, hs' => simp [diskG, hne] at hs'
theorem there_cells {h : AHeap A} {b j o n cap : Nat} {ex : Bool} {t : TypeId} {w d : AVal} (hb : h[b]? = some (.cells t [.sl j o n cap ex, w, d])) (x : Int) {K : AVal → AHeap A → Prop} (hk : K (.bool (decide (0 ≤ x) && decide (x < n))) h) :
    Tri Pr R n_disk_Disk_there [.ptr b 0, .int .i64 x] h K := by
  apply c_disk_Disk_there
  unfold p_disk_Disk_there
  simp [cellsAt, hb, AObj.read]
  refine iteP_of (fun h1 => ?_) (fun h1 => ?_)
  · rw [h1] at hk; simpa using hk
  · rw [h1] at hk; simpa using hk
theorem disk_Write_ok (hR : R.Ok) (hB : HasDisk R mk) {k : List Bs} {w : Ws} {d : Bool} (hok : dOk k w) (hw : w.length ≤ 1000) (x : Int) (s : Bs) {h : AHeap A} {b : Nat} (hb : h[b]? = some (.adt (mk k w d))) {K : AVal → AHeap A → Prop}
    (hk : K (.int .i64 (dWrite k w d x s).2) (h.set b (.adt (mk k (dWrite k w d x s).1 d)))) : Tri Pr R n_disk_Disk_Write [.ptr b 0, .int .i64 x, .str s] h K := by
  refine Tri.own hR (as2 := [.ptr 0 0, .int .i64 x, .str s]) (Q := fun v o => v = .int .i64 (dWrite k w d x s).2 ∧ o = .adt (mk k (dWrite k w d x s).1 d)) rfl (disk_ix hB _ _ _ _) ?_ (disk_ren hB _ _ _) ?_ hb (by simp [rens, AVal.ren]) ?_
  · rintro _ _ ⟨rfl, rfl⟩; exact ⟨rfl, disk_ren hB _ _ _⟩
  · refine Tri.post (Tri.pre (Gives.opened 0 rfl (by simp) fun g hg => ?_))
    obtain rfl := (hB.lay _ _ _ _).1 hg
    refine Gives.done (by simp) ?_
    apply c_disk_Disk_Write
    unfold p_disk_Disk_Write
    obtain ⟨r, hr⟩ : ∃ r, dWrite k w d x s = r := ⟨_, rfl⟩
    rw [hr]
    unfold dWrite at hr
    by_cases h0 : w = []
    · subst h0
      have fin : ∀ (v : Int), Gives Pr R 1 [.cells t_disk_Disk [.sl 1 0 k.length k.length true, .nils, .bool d], .cells t_string (k.map .str)] [.int .i64 v] fun vs h2 => ∃ u, vs = [u] ∧ ∃ o', (u = .int .i64 v ∧ o' = .adt (mk k [] d)) ∧ h2 = [o'] := fun v =>
        disk_shut0 hR hB 1 _ rfl rfl rfl (by omega) rfl ⟨_, rfl, _, ⟨rfl, rfl⟩, rfl⟩
      cases d with
      | true =>
        simp at hr; subst hr
        simp [diskG, GC.at]
        exact fin _
      | false =>
        simp at hr
        simp [diskG, GC.at]
        refine there_cells rfl x ?_
        by_cases hx : x < 0 ∨ (k.length : Int) ≤ x
        · rw [if_pos (by omega)] at hr; subst hr
          have h1 : (decide (0 ≤ x) && decide (x < k.length)) = false := by simp; omega
          simp [h1]
          exact fin _
        · have h1 : (decide (0 ≤ x) && decide (x < k.length)) = true := by simp; omega
          by_cases hs : s.length = 64
          · rw [if_neg (by omega)] at hr; subst hr
            simp [h1, hs, appP, appV, srcOf, cellsAt]
            exact disk_shut hR hB (w := [(x, s)]) (by simp) 1 3 _ 1 rfl rfl rfl rfl rfl (by omega) rfl ⟨_, rfl, _, ⟨rfl, rfl⟩, rfl⟩
          · rw [if_pos (by omega)] at hr; subst hr
            have h2 : ((s.length : Int) != 64) = true := by simp; omega
            simp [h1, h2]
            exact fin _
    · have fin : ∀ (v : Int), Gives Pr R 1 [.cells t_disk_Disk [.sl 1 0 k.length k.length true, .sl 2 0 w.length w.length false, .bool d], .cells t_string (k.map .str), .cells t_disk_write (wCells w)] [.int .i64 v] fun vs h2 => ∃ u, vs = [u] ∧ ∃ o', (u = .int .i64 v ∧ o' = .adt (mk k w d)) ∧ h2 = [o'] := fun v =>
        disk_shut hR hB h0 1 2 _ _ rfl rfl rfl rfl rfl (by omega) rfl ⟨_, rfl, _, ⟨rfl, rfl⟩, rfl⟩
      cases d with
      | true =>
        simp at hr; subst hr
        simp [diskG, GC.at, h0]
        exact fin _
      | false =>
        simp at hr
        simp [diskG, GC.at, h0]
        refine there_cells rfl x ?_
        by_cases hx : x < 0 ∨ (k.length : Int) ≤ x
        · rw [if_pos (by omega)] at hr; subst hr
          have h1 : (decide (0 ≤ x) && decide (x < k.length)) = false := by simp; omega
          simp [h1]
          exact fin _
        · have h1 : (decide (0 ≤ x) && decide (x < k.length)) = true := by simp; omega
          by_cases hs : s.length = 64
          · rw [if_neg (by omega)] at hr; subst hr
            have hl := wCells_len w
            have h6 : ¬ w.length + 1 ≤ w.length := by omega
            have h7 : (2 * (w.length + 1) + 1000) * 24 ≤ 140737488355328 := by omega
            have h8 : w.length * 2 ≤ (wCells w).length := by omega
            have h9 : w.length * 2 = (wCells w).length := by omega
            simp [h1, hs, appP, appV, srcOf, cellsAt, h6, h7, h8, h9]
            refine disk_shut hR hB (w := w ++ [(x, s)]) (by simp) 1 4 _ (w.length + 1) rfl (by simp) rfl rfl ?_ (by omega) rfl ⟨_, rfl, _, ⟨rfl, rfl⟩, rfl⟩
            simp [wCells]
          · rw [if_pos (by omega)] at hr; subst hr
            have h2 : ((s.length : Int) != 64) = true := by simp; omega
            simp [h1, h2]
            exact fin _
  · rintro _ _ ⟨rfl, rfl⟩; exact hk
theorem wCells_at : ∀ (w : Ws) (i : Nat) (h : i < w.length), ((wCells w).drop (i * 2)).take 2 = [.int .i64 w[i].1, .str w[i].2]
  | [], i, h => by simp at h
  | a :: r, 0, h => by simp [wCells]
  | a :: r, i + 1, h => by
    have := wCells_at r i (by simpa using h)
    rw [show (i + 1) * 2 = 2 + i * 2 by omega]
    simp only [wCells, List.flatMap_cons] at this ⊢
    rw [← List.drop_drop]
    simpa using this
theorem dPut_len (k : List Bs) : ∀ w : Ws, (dPut k w).length = k.length := by
  intro w
  unfold dPut
  induction w generalizing k with
  | nil => rfl
  | cons a r ih => simp [List.foldl_cons, ih]
theorem dPut_snoc (k : List Bs) (w : Ws) (a : Int × Bs) : dPut k (w ++ [a]) = (dPut k w).set a.1.toNat a.2 := by simp [dPut, List.foldl_append]
theorem dPut_full {k : List Bs} {w : Ws} (h : dOk k w) : ∀ s ∈ dPut k w, s.length = 64 := by
  have key : ∀ (w : Ws) (k : List Bs), (∀ s ∈ k, s.length = 64) → (∀ a ∈ w, a.2.length = 64) → ∀ s ∈ dPut k w, s.length = 64 := by
    intro w
    induction w with
    | nil => intro k hk _; exact hk
    | cons a r ih =>
      intro k hk hw
      refine ih _ (fun s hs => ?_) (fun b hb => hw b (by simp [hb]))
      rcases List.mem_or_eq_of_mem_set hs with h | h
      · exact hk s h
      · rw [h]; exact hw a (by simp)
  exact key w k h.full fun a ha => (h.wait a ha).2.2
theorem disk_Flush_ok (hR : R.Ok) (hB : HasDisk R mk) {k : List Bs} {w : Ws} {d : Bool} (hok : dOk k w) (hw : w.length ≤ 1000) {h : AHeap A} {b : Nat} (hb : h[b]? = some (.adt (mk k w d))) {K : AVal → AHeap A → Prop}
    (hk : if d = true then K (.int .i64 801) h else K (.int .i64 0) (h.set b (.adt (mk (dPut k w) [] d)))) : Tri Pr R n_disk_Disk_Flush [.ptr b 0] h K := by
  refine Tri.own hR (as2 := [.ptr 0 0]) (Q := fun v o => if d = true then v = .int .i64 801 ∧ o = .adt (mk k w d) else v = .int .i64 0 ∧ o = .adt (mk (dPut k w) [] d)) rfl (disk_ix hB _ _ _ _) ?_ (disk_ren hB _ _ _) ?_ hb (by simp [rens, AVal.ren]) ?_
  · intro v o hq; split at hq <;> (obtain ⟨rfl, rfl⟩ := hq; exact ⟨rfl, disk_ren hB _ _ _⟩)
  · refine Tri.post (Tri.pre (Gives.opened 0 rfl (by simp) fun g hg => ?_))
    obtain rfl := (hB.lay _ _ _ _).1 hg
    refine Gives.done (by simp) ?_
    apply c_disk_Disk_Flush
    unfold p_disk_Disk_Flush
    by_cases h0 : w = []
    · subst h0
      cases d with
      | true =>
        simp [diskG, GC.at]
        exact disk_shut0 hR hB 1 _ rfl rfl rfl (by omega) rfl ⟨_, rfl, _, ⟨rfl, rfl⟩, rfl⟩
      | false =>
        simp [diskG, GC.at]
        refine loopP_unr 1 ?_
        rw [unr]
        simp
        exact disk_shut0 hR hB 1 _ rfl rfl rfl (by omega) rfl ⟨_, rfl, _, ⟨rfl, rfl⟩, rfl⟩
    · cases d with
      | true =>
        simp [diskG, GC.at, h0]
        exact disk_shut hR hB h0 1 2 _ _ rfl rfl rfl rfl rfl (by omega) rfl ⟨_, rfl, _, ⟨rfl, rfl⟩, rfl⟩
      | false =>
        simp [diskG, GC.at, h0]
        refine loopP_go (fun m y g => ∃ i : Nat, y = [.int .i64 i] ∧ g = [.cells t_disk_Disk [.sl 1 0 k.length k.length true, .sl 2 0 w.length w.length false, .bool false], .cells t_string ((dPut k (w.take i)).map .str), .cells t_disk_write (wCells w)] ∧ i ≤ w.length ∧ m = w.length - i) w.length
          (Gives.done (by simp) ⟨0, by simp, by simp [dPut], by omega, by omega⟩) ?_
        rintro m y g ⟨i, rfl, rfl, hi, rfl⟩
        simp
        refine iteP_of (fun h1 => ?_) (fun h1 => ?_)
        · simp at h1
          have e1 := w64 (n := (i : Int) + 1) (by omega)
          have hwc := wCells_at w i h1
          have hwl := wCells_len w
          have hle : i * 2 + 2 ≤ (wCells w).length := by omega
          obtain ⟨q0, q1, q2⟩ := hok.wait w[i] (List.getElem_mem h1)
          have hdl := dPut_len k (w.take i)
          have hso := fun g : AHeap A => setO_one g 1 w[i].1.toNat (.str w[i].2) t_string ((dPut k (w.take i)).map .str) rfl (by simp [hdl]; omega)
          have hsp : dPut k (w.take (i + 1)) = (dPut k (w.take i)).set w[i].1.toNat w[i].2 := by rw [← List.take_append_getElem h1, dPut_snoc]
          simp [h1, hwc, hle, q0, q1, hso, e1]
          refine Gives.cut hR (m := 3) (by omega) (by simp) rfl (by simp; exact ⟨low_cells rfl, low_cells (by rw [← List.map_set]; exact strs_ix _ _), low_cells (wCells_ix _ _)⟩) ?_
          exact ⟨w.length - (i + 1), by omega, i + 1, by simp, by rw [hsp]; simp, by omega, rfl⟩
        · simp at h1
          obtain rfl : i = w.length := by omega
          simp
          exact disk_shut0 hR hB 1 _ (dPut_len k w).symm rfl rfl (by omega) rfl ⟨_, rfl, _, ⟨rfl, rfl⟩, rfl⟩
  · intro v o hq
    cases d with
    | true => simp at hq hk; obtain ⟨rfl, rfl⟩ := hq; rw [set_same hb]; exact hk
    | false => simp at hq hk; obtain ⟨rfl, rfl⟩ := hq; exact hk
theorem disk_Read_ok (hR : R.Ok) (hB : HasDisk R mk) {k : List Bs} {w : Ws} {d : Bool} (hok : dOk k w) (hw : w.length ≤ 1000) (x : Int) {h : AHeap A} {b : Nat} (hb : h[b]? = some (.adt (mk k w d))) {K : AVal → AHeap A → Prop}
    (hk : K (.tup [.str (dRead k w d x).1, .int .i64 (dRead k w d x).2]) h) : Tri Pr R n_disk_Disk_Read [.ptr b 0, .int .i64 x] h K := by
  refine Tri.own hR (as2 := [.ptr 0 0, .int .i64 x]) (Q := fun v o => v = .tup [.str (dRead k w d x).1, .int .i64 (dRead k w d x).2] ∧ o = .adt (mk k w d)) rfl (disk_ix hB _ _ _ _) ?_ (disk_ren hB _ _ _) ?_ hb (by simp [rens, AVal.ren]) ?_
  · rintro _ _ ⟨rfl, rfl⟩; exact ⟨rfl, disk_ren hB _ _ _⟩
  · refine Tri.post (Tri.pre (Gives.opened 0 rfl (by simp) fun g hg => ?_))
    obtain rfl := (hB.lay _ _ _ _).1 hg
    refine Gives.done (by simp) ?_
    apply c_disk_Disk_Read
    unfold p_disk_Disk_Read
    obtain ⟨r, hr⟩ : ∃ r, dRead k w d x = r := ⟨_, rfl⟩
    rw [hr]
    unfold dRead at hr
    by_cases h0 : w = []
    · subst h0
      have fin : ∀ (s : Bs) (v : Int), Gives Pr R 1 [.cells t_disk_Disk [.sl 1 0 k.length k.length true, .nils, .bool d], .cells t_string (k.map .str)] [.tup [.str s, .int .i64 v]] fun vs h2 => ∃ u, vs = [u] ∧ ∃ o', (u = .tup [.str s, .int .i64 v] ∧ o' = .adt (mk k [] d)) ∧ h2 = [o'] := fun s v =>
        disk_shut0 hR hB 1 _ rfl rfl rfl (by omega) rfl ⟨_, rfl, _, ⟨rfl, rfl⟩, rfl⟩
      cases d with
      | true =>
        simp at hr; subst hr
        simp [diskG, GC.at]
        exact fin _ _
      | false =>
        simp at hr
        simp [diskG, GC.at]
        refine there_cells rfl x ?_
        by_cases hx : x < 0 ∨ (k.length : Int) ≤ x
        · rw [if_pos hx] at hr; subst hr
          have h1 : (decide (0 ≤ x) && decide (x < k.length)) = false := by simp; omega
          simp [h1]
          exact fin _ _
        · rw [if_neg hx] at hr; subst hr
          have h1 : (decide (0 ≤ x) && decide (x < k.length)) = true := by simp; omega
          have h2 : 0 ≤ x := by omega
          have h3 : x < k.length := by omega
          have h4 : x.toNat < k.length := by omega
          simp [h1, h2, h3, h4]
          refine loopP_unr 1 ?_
          rw [unr]
          simp [dPut, h4]
          exact fin _ _
    · have fin : ∀ (s : Bs) (v : Int), Gives Pr R 1 [.cells t_disk_Disk [.sl 1 0 k.length k.length true, .sl 2 0 w.length w.length false, .bool d], .cells t_string (k.map .str), .cells t_disk_write (wCells w)] [.tup [.str s, .int .i64 v]] fun vs h2 => ∃ u, vs = [u] ∧ ∃ o', (u = .tup [.str s, .int .i64 v] ∧ o' = .adt (mk k w d)) ∧ h2 = [o'] := fun s v =>
        disk_shut hR hB h0 1 2 _ _ rfl rfl rfl rfl rfl (by omega) rfl ⟨_, rfl, _, ⟨rfl, rfl⟩, rfl⟩
      cases d with
      | true =>
        simp at hr; subst hr
        simp [diskG, GC.at, h0]
        exact fin _ _
      | false =>
        simp at hr
        simp [diskG, GC.at, h0]
        refine there_cells rfl x ?_
        by_cases hx : x < 0 ∨ (k.length : Int) ≤ x
        · rw [if_pos hx] at hr; subst hr
          have h1 : (decide (0 ≤ x) && decide (x < k.length)) = false := by simp; omega
          simp [h1]
          exact fin _ _
        · rw [if_neg hx] at hr; subst hr
          have h1 : (decide (0 ≤ x) && decide (x < k.length)) = true := by simp; omega
          have h2 : 0 ≤ x := by omega
          have h3 : x < k.length := by omega
          have h4 : x.toNat < k.length := by omega
          simp [h1, h2, h3, h4]
          refine loopP_go (fun m y g => ∃ i : Nat, y = [.str ((dPut k (w.take i)).getD x.toNat []), .int .i64 i] ∧ g = [.cells t_disk_Disk [.sl 1 0 k.length k.length true, .sl 2 0 w.length w.length false, .bool false], .cells t_string (k.map .str), .cells t_disk_write (wCells w)] ∧ i ≤ w.length ∧ m = w.length - i) w.length
            (Gives.done (by simp) ⟨0, by simp [dPut, h4], rfl, by omega, by omega⟩) ?_
          rintro m y g ⟨i, rfl, rfl, hi, rfl⟩
          simp
          refine iteP_of (fun h5 => ?_) (fun h5 => ?_)
          · simp at h5
            have e1 := w64 (n := (i : Int) + 1) (by omega)
            have hwc := wCells_at w i h5
            have hwl := wCells_len w
            have hle : i * 2 + 2 ≤ (wCells w).length := by omega
            obtain ⟨q0, q1, q2⟩ := hok.wait w[i] (List.getElem_mem h5)
            have hdl := dPut_len k (w.take i)
            have hsp : dPut k (w.take (i + 1)) = (dPut k (w.take i)).set w[i].1.toNat w[i].2 := by rw [← List.take_append_getElem h5, dPut_snoc]
            refine joinP_go ?_
            simp [h5, hwc, hle, e1]
            refine iteP_of (fun h6 => ?_) (fun h6 => ?_)
            · simp at h6
              refine Gives.cut hR (m := 3) (by omega) (by simp) rfl (by simp; exact ⟨low_cells rfl, low_cells (strs_ix _ _), low_cells (wCells_ix _ _)⟩) ?_
              refine ⟨w.length - (i + 1), by omega, i + 1, ?_, rfl, by omega, rfl⟩
              rw [hsp, ← h6]
              simp [List.getD_eq_getElem?_getD, List.getElem?_set, hdl, show w[i].1.toNat < k.length by omega]
            · simp at h6
              refine Gives.cut hR (m := 3) (by omega) (by simp) rfl (by simp; exact ⟨low_cells rfl, low_cells (strs_ix _ _), low_cells (wCells_ix _ _)⟩) ?_
              refine ⟨w.length - (i + 1), by omega, i + 1, ?_, rfl, by omega, rfl⟩
              rw [hsp]
              simp [List.getD_eq_getElem?_getD, List.getElem?_set, show ¬ w[i].1.toNat = x.toNat by omega]
          · simp at h5
            obtain rfl : i = w.length := by omega
            simp
            simpa using fin _ _
  · rintro _ _ ⟨rfl, rfl⟩; rw [set_same hb]; exact hk
theorem disk_Waits_ok (hR : R.Ok) (hB : HasDisk R mk) {k : List Bs} {w : Ws} {d : Bool} {h : AHeap A} {b : Nat} (hb : h[b]? = some (.adt (mk k w d))) {K : AVal → AHeap A → Prop}
    (hk : K (.int .i64 w.length) h) : Tri Pr R n_disk_Disk_Waits [.ptr b 0] h K := by
  refine Tri.own hR (as2 := [.ptr 0 0]) (Q := fun v o => v = .int .i64 w.length ∧ o = .adt (mk k w d)) rfl (disk_ix hB _ _ _ _) ?_ (disk_ren hB _ _ _) ?_ hb (by simp [rens, AVal.ren]) ?_
  · rintro _ _ ⟨rfl, rfl⟩; exact ⟨rfl, disk_ren hB _ _ _⟩
  · refine Tri.post (Tri.pre (Gives.opened 0 rfl (by simp) fun g hg => ?_))
    obtain rfl := (hB.lay _ _ _ _).1 hg
    refine Gives.done (by simp) ?_
    apply c_disk_Disk_Waits
    unfold p_disk_Disk_Waits
    by_cases h0 : w = []
    · subst h0
      simp [diskG, GC.at]
      exact disk_shut0 hR hB 1 _ rfl rfl rfl (by omega) rfl ⟨_, rfl, _, ⟨rfl, rfl⟩, rfl⟩
    · simp [diskG, GC.at, h0]
      exact disk_shut hR hB h0 1 2 _ _ rfl rfl rfl rfl rfl (by omega) rfl ⟨_, rfl, _, ⟨rfl, rfl⟩, rfl⟩
  · rintro _ _ ⟨rfl, rfl⟩; rw [set_same hb]; exact hk
theorem disk_Restart_ok (hR : R.Ok) (hB : HasDisk R mk) {k : List Bs} {w : Ws} {d : Bool} {h : AHeap A} {b : Nat} (hb : h[b]? = some (.adt (mk k w d))) {K : AVal → AHeap A → Prop}
    (hk : K (.int .i64 (if d = true then 0 else 800)) (h.set b (.adt (mk k w false)))) : Tri Pr R n_disk_Disk_Restart [.ptr b 0] h K := by
  refine Tri.own hR (as2 := [.ptr 0 0]) (Q := fun v o => v = .int .i64 (if d = true then 0 else 800) ∧ o = .adt (mk k w false)) rfl (disk_ix hB _ _ _ _) ?_ (disk_ren hB _ _ _) ?_ hb (by simp [rens, AVal.ren]) ?_
  · rintro _ _ ⟨rfl, rfl⟩; exact ⟨rfl, disk_ren hB _ _ _⟩
  · refine Tri.post (Tri.pre (Gives.opened 0 rfl (by simp) fun g hg => ?_))
    obtain rfl := (hB.lay _ _ _ _).1 hg
    refine Gives.done (by simp) ?_
    apply c_disk_Disk_Restart
    unfold p_disk_Disk_Restart
    by_cases h0 : w = []
    · subst h0
      cases d <;> simp [diskG, GC.at]
      · exact disk_shut0 hR hB 1 _ rfl rfl rfl (by omega) rfl ⟨_, rfl, _, ⟨rfl, rfl⟩, rfl⟩
      · exact disk_shut0 hR hB 1 _ rfl rfl rfl (by omega) rfl ⟨_, rfl, _, ⟨rfl, rfl⟩, rfl⟩
    · cases d <;> simp [diskG, GC.at, h0]
      · exact disk_shut hR hB h0 1 2 _ _ rfl rfl rfl rfl rfl (by omega) rfl ⟨_, rfl, _, ⟨rfl, rfl⟩, rfl⟩
      · exact disk_shut hR hB h0 1 2 _ _ rfl rfl rfl rfl rfl (by omega) rfl ⟨_, rfl, _, ⟨rfl, rfl⟩, rfl⟩
  · rintro _ _ ⟨rfl, rfl⟩; exact hk
/-- A crash: whether a write was lost already, the sectors behind it. -/
def dLose (mask torn : Int) : Nat → List Bs → Bool → Ws → List Bs
  | _, k, _, [] => k
  | i, k, whole, a :: r =>
    if i < 30 ∧ mask / 2 ^ i % 2 = 1 then dLose mask torn (i + 1) (k.set a.1.toNat a.2) whole r
    else if whole = true then dLose mask torn (i + 1) (k.set a.1.toNat (a.2.take (min torn.toNat 64) ++ (k.getD a.1.toNat []).drop (min torn.toNat 64))) false r
    else dLose mask torn (i + 1) k whole r
end disk
end Go.AI
