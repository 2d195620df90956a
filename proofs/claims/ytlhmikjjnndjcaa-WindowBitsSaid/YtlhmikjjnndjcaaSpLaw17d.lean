/- WindowRows. -/
import Derived.Test.YtlhmikjjnndjcaaSpLaw17c
set_option linter.all false
namespace Go.AI
variable {A : Type} {R : Adts A}
/-- A list of whole numbers that grows: nil, or an object of its own behind the first ones. -/
def Row (t : TypeId) (base : AHeap A) (x : AVal) (row : List Int) (g : AHeap A) : Prop :=
  (row = [] ∧ x = .nils ∧ g = base) ∨ (row ≠ [] ∧ x = .sl base.length 0 row.length row.length false ∧ g = base ++ [.cells t (row.map (.int .i64))])
theorem cells_ints {t : TypeId} {m : Nat} (l : List Int) : (AObj.cells t (l.map (.int .i64)) : AObj A).ix R m ∧ ∀ τ, (AObj.cells t (l.map (.int .i64)) : AObj A).ren R τ = .cells t (l.map (.int .i64)) := by
  have h1 : ∀ m, ixs m (l.map (.int .i64)) = true := fun m => by simp [ixs_all, AVal.ix]
  exact ⟨h1 m, fun τ => by simp only [AObj.ren]; rw [rens_ix0 τ _ (h1 0)]⟩
theorem low_ints {t : TypeId} {m : Nat} (l : List Int) : AObj.low R m (.cells t (l.map (.int .i64)) : AObj A) := low_cells (by simp [ixs_all, AVal.ix])
/-- A number is laid behind a row (bslP, appP). -/
theorem Row.push {t : TypeId} {base : AHeap A} {x : AVal} {row : List Int} {g : AHeap A} (hr : Row t base x row g) (n : Int) (hl : row.length ≤ 1000) {K : AVal → AHeap A → Prop}
    (hk : ∀ mid : AHeap A, K (.sl (base.length + mid.length) 0 (row.length + 1) (row.length + 1) false) (base ++ (mid ++ [.cells t ((row ++ [n]).map (.int .i64))]))) :
    bslP t 1 [.int .i64 0] [(0, 1, .int .i64 n)] g fun v g => appP t 1 8 x v g K := by
  simp
  unfold appP
  rcases hr with ⟨rfl, rfl, rfl⟩ | ⟨hne, rfl, rfl⟩
  · have := hk [.cells t [.int .i64 n]]
    simp [appV, srcOf, cellsAt]
    simpa using this
  · have := hk [.dead, .cells t [.int .i64 n]]
    simp [appV, srcOf, cellsAt]
    rw [if_neg (by omega), if_pos (by omega), List.take_of_length_le (by simp)]
    simpa using this
def RowsI (at_ : Int) (m : Nat) (y : List AVal) (g : AHeap A) : Prop :=
  ∃ (S : Int → Prop) (L : List AVal) (row : List Int) (x : AVal) (i : Int), y = [x, .int .i64 i] ∧
    Row t_int [.cells t_api_Window [.int .i64 (-1), .int .i64 0], .cells t_api_Window [.int .i64 (-1), .int .i64 0], .cells t_arr32_bool L] x row g ∧ IsTab L 32 S ∧ row.Nodup ∧
    (∀ t, t ∈ row ↔ ∃ k, 0 ≤ k ∧ k < 32 ∧ S k ∧ t = at_ + k) ∧ row.length ≤ i ∧ 0 ≤ i ∧ i ≤ 40 ∧ m = (40 - i).toNat
def RowsJ (L : List AVal) (row : List Int) (m : Nat) (y : List AVal) (g : AHeap A) : Prop :=
  ∃ (i : Int) (hu : Int) (bu : Nat) (hd : Int) (bd : Nat), y = [.int .i64 i] ∧ g = [.cells t_api_Window [.int .i64 hu, .int .i64 bu], .cells t_api_Window [.int .i64 hd, .int .i64 bd], .cells t_arr32_bool L, .cells t_int (row.map (.int .i64))] ∧
    Win hu bu (· ∈ row.take i.toNat) ∧ Win hd bd (· ∈ row.drop (row.length - i.toNat)) ∧ 0 ≤ i ∧ i ≤ row.length ∧ m = (row.length - i).toNat
set_option maxHeartbeats 1000000 in
theorem WindowRows_ok (hR : R.Ok) (a : AVal) (l : List Int) (ha : IsInts a l) (base : Int) : Tri Pr R n_law17_WindowRows [a, .int .i64 base] [] fun u _ => u = .bool true := by
  apply c_law17_WindowRows
  unfold p_law17_WindowRows
  refine awake17_ok hR ?_
  simp
  rw [bits_mask base 16 (by omega) 65535 (by decide)]
  obtain ⟨q, hq, q0, q1⟩ : ∃ q, base % 2 ^ 16 = q ∧ 0 ≤ q ∧ q < 65536 := ⟨_, rfl, by omega, by omega⟩
  rw [hq]
  refine loopP_go (RowsI q) 40 ?_ ?_
  · refine Gives.done (by simp) ⟨fun _ => False, _, [], _, 0, rfl, .inl ⟨rfl, rfl, rfl⟩, IsTab.none 32, by simp, fun t => by simp, by simp, by omega, by omega, rfl⟩
  rintro m y g ⟨S, L, row, x, i, rfl, hrow, hL, hnd, hm, hri, i0, i1, rfl⟩
  have e2 := w64 (n := i + 1) (by omega)
  simp [ha.len]
  refine iteP_of (fun h1 => iteP_of (fun h2 => joinP_go ?_) (fun h2 => ?_)) (fun h1 => ?_)
  · simp at h1 h2
    obtain ⟨bb, oo, cs, hg⟩ := ha.get i0 h1
    generalize l.getD i.toNat 0 = s0 at hg
    simp [hg]
    rw [bits_mask s0 5 (by omega) 31 (by decide)]
    obtain ⟨s, hs, s1, s2⟩ : ∃ s, s0 % 2 ^ 5 = s ∧ 0 ≤ s ∧ s < 32 := ⟨_, rfl, by omega, by omega⟩
    rw [hs]
    obtain ⟨c, hc, hcS⟩ := hL.get (show s.toNat < 32 by omega)
    have hst : ((s.toNat : Nat) : Int) = s := by omega
    rw [hst] at hcS
    have hlen := hL.len
    have e4 := w64 (n := q + s) (by omega)
    have hso := fun g : AHeap A => setO_one g 2 s.toNat (.bool true) t_arr32_bool L rfl (by omega)
    have hL2 := hL.set (show s.toNat < 32 by omega)
    rw [hst] at hL2
    cases c with
    | true =>
      have hfin : Gives Pr R 3 g [x, .int .i64 (i + 1)] fun z k => ∃ m' : Nat, (m' : Int) < 40 - i ∧ RowsI q m' z k :=
        Gives.done (by rcases hrow with ⟨_, _, rfl⟩ | ⟨_, _, rfl⟩ <;> simp) ⟨_, by omega, S, L, row, x, i + 1, rfl, hrow, hL, hnd, hm, by omega, by omega, by omega, rfl⟩
      rcases hrow with ⟨rfl, rfl, rfl⟩ | ⟨hne, rfl, rfl⟩
      · simp [s1, s2, hc, e2]
        exact hfin
      · simp [s1, s2, hc, e2]
        exact hfin
    | false =>
      have hns : ¬ S s := fun h => by simpa using hcS.2 h
      have hni : q + s ∉ row := fun h => by
        obtain ⟨k, _, _, h3, h4⟩ := (hm _).1 h
        exact hns (by rw [show s = k by omega]; exact h3)
      have hfin : ∃ m' : Nat, (m' : Int) < 40 - i ∧ RowsI q m' [.sl 3 0 (row.length + 1) (row.length + 1) false, .int .i64 (i + 1)]
          [.cells t_api_Window [.int .i64 (-1), .int .i64 0], .cells t_api_Window [.int .i64 (-1), .int .i64 0], .cells t_arr32_bool (L.set s.toNat (.bool true)), .cells t_int ((row ++ [q + s]).map (.int .i64)) (A := A)] := by
        refine ⟨(40 - (i + 1)).toNat, by omega, _, _, row ++ [q + s], _, i + 1, rfl, .inr ⟨by simp, by simp, rfl⟩, hL2, ?_, fun t => ?_, by simp; omega, by omega, by omega, rfl⟩
        · rw [List.nodup_append]
          exact ⟨hnd, by simp, fun a ha b hb h => by simp at hb; subst hb; subst h; exact hni ha⟩
        · rw [List.mem_append, hm t]
          constructor
          · rintro (⟨k, k0, k1, k2, k3⟩ | h)
            · exact ⟨k, k0, k1, .inl k2, k3⟩
            · simp at h; exact ⟨s, s1, s2, .inr rfl, h⟩
          · rintro ⟨k, k0, k1, k2 | k2, k3⟩
            · exact .inl ⟨k, k0, k1, k2, k3⟩
            · subst k2; simp [k3]
      have hlw : ∀ o ∈ ([.cells t_api_Window [.int .i64 (-1), .int .i64 0], .cells t_api_Window [.int .i64 (-1), .int .i64 0], .cells t_arr32_bool (L.set s.toNat (.bool true))] : AHeap A), o.low R 3 := by
        simp; exact ⟨low_cells rfl, low_cells hL2.ix⟩
      rcases hrow with ⟨rfl, rfl, rfl⟩ | ⟨hne, rfl, rfl⟩
      · simp [s1, s2, hc, e2, e4, hso, appP, appV, srcOf, cellsAt]
        refine Gives.pick hR [.cells t_api_Window [.int .i64 (-1), .int .i64 0], .cells t_api_Window [.int .i64 (-1), .int .i64 0], .cells t_arr32_bool (L.set s.toNat (.bool true))] [.cells t_int [.int .i64 (q + s)]] (.cells t_int [.int .i64 (q + s)])
          _ [.sl 3 0 1 1 false, .int .i64 (i + 1)] rfl (by simp) hlw (cells_ints [q + s]) (by simp [rens, AVal.ren]) rfl ?_
        exact hfin
      · simp [s1, s2, hc, e2, e4, hso, appP, appV, srcOf, cellsAt]
        rw [if_neg (by omega), if_pos (by omega), List.take_of_length_le (by simp)]
        simp
        refine Gives.pick hR [.cells t_api_Window [.int .i64 (-1), .int .i64 0], .cells t_api_Window [.int .i64 (-1), .int .i64 0], .cells t_arr32_bool (L.set s.toNat (.bool true))] [.dead, .cells t_int [.int .i64 (q + s)]] (.cells t_int ((row ++ [q + s]).map (.int .i64)))
          _ [.sl 3 0 (row.length + 1) (row.length + 1) false, .int .i64 (i + 1)] (by simp) (by simp) hlw (cells_ints _) (by simp [rens, AVal.ren]) (by simp [ixs, AVal.ix]) ?_
        exact hfin
  all_goals
    rcases hrow with ⟨rfl, rfl, rfl⟩ | ⟨hne, rfl, rfl⟩
    · refine loopP_go (fun m y g => y = [.int .i64 0] ∧ g = [.cells t_api_Window [.int .i64 (-1), .int .i64 0], .cells t_api_Window [.int .i64 (-1), .int .i64 0], .cells t_arr32_bool L]) 0 (Gives.done (by simp) ⟨rfl, rfl⟩) ?_
      rintro m y g ⟨rfl, rfl⟩
      simp [shEq, shEqs]
    · have hp : 0 < row.length := List.length_pos_iff.2 hne
      refine loopP_go (RowsJ L row) row.length ?_ ?_
      · exact Gives.done (by simp) ⟨0, -1, 0, -1, 0, rfl, rfl, Win.none.cong (by simp), Win.none.cong (by simp), by omega, by omega, by omega⟩
      rintro m y g ⟨j, hu, bu, hd, bd, rfl, rfl, wu, wd, j0, j1, rfl⟩
      simp
      refine iteP_of (fun h3 => ?_) (fun h3 => ?_)
      · simp at h3
        obtain ⟨r, hr⟩ : ∃ r, row[j.toNat]? = some r := ⟨_, List.getElem?_eq_getElem (by omega)⟩
        obtain ⟨hlt, hre⟩ := List.getElem?_eq_some_iff.1 hr
        obtain ⟨k, hk, k0, k1⟩ : ∃ k : Int, (row.length : Int) - 1 - j = k ∧ 0 ≤ k ∧ k < row.length := ⟨_, rfl, by omega, by omega⟩
        obtain ⟨r', hr'⟩ : ∃ r', row[k.toNat]? = some r' := ⟨_, List.getElem?_eq_getElem (by omega)⟩
        obtain ⟨hlt', hre'⟩ := List.getElem?_eq_some_iff.1 hr'
        have hlr : row.length ≤ 40 := by omega
        have e5 := w64 (n := (row.length : Int) - 1) (by omega)
        have e6 : IntKind.i64.wrap ((row.length : Int) - 1 - j) = k := by rw [hk, w64 (by omega)]
        have e7 := w64 (n := j + 1) (by omega)
        have bnd : ∀ t, t ∈ row → q ≤ t ∧ t < q + 32 := fun t ht => by
          obtain ⟨k, k0, k1, _, rfl⟩ := (hm t).1 ht; omega
        have hr1 := bnd r (List.mem_of_getElem? hr)
        have hr1' := bnd r' (List.mem_of_getElem? hr')
        have hub : hu < q + 32 := by
          by_cases h : hu = -1
          · omega
          · exact (bnd _ (List.mem_of_mem_take (wu.mem h))).2
        have hdb : hd < q + 32 := by
          by_cases h : hd = -1
          · omega
          · exact (bnd _ (List.mem_of_mem_drop (wd.mem h))).2
        have sp1 : row.take (j.toNat + 1) = row.take j.toNat ++ [r] := by rw [List.take_add_one, hr]; rfl
        have sp2 : row.drop (row.length - (j + 1).toNat) = r' :: row.drop (row.length - j.toNat) := by
          have hk2 : row.length - (j + 1).toNat = k.toNat := by omega
          rw [hk2, List.drop_eq_getElem_cons hlt', hre', show k.toNat + 1 = row.length - j.toNat by omega]
        have nt : r ∉ row.take j.toNat := fun h => by
          have h5 : (row.take (j.toNat + 1)).Nodup := hnd.sublist (List.take_sublist _ _)
          rw [sp1, List.nodup_append] at h5
          exact h5.2.2 r h r (by simp) rfl
        have nt' : r' ∉ row.drop (row.length - j.toNat) := fun h => by
          have h5 : (row.drop (row.length - (j + 1).toNat)).Nodup := hnd.sublist (List.drop_sublist _ _)
          rw [sp2, List.nodup_cons] at h5
          exact h5.1 h
        obtain ⟨bu', hb1, hb2⟩ := wu.fresh (s := r) (by omega) (by omega) (by omega) nt
        obtain ⟨bd', hd1, hd2⟩ := wd.fresh (s := r') (by omega) (by omega) (by omega) nt'
        refine joinP_all (fun x h => x = [.ptr 4 0, .int .i64 0] ∧ h = [.cells t_api_Window [.int .i64 hu, .int .i64 bu], .cells t_api_Window [.int .i64 hd, .int .i64 bd], .cells t_arr32_bool L, .cells t_int (row.map (.int .i64)), .cells t_api_Window [.int .i64 (max hu r), .int .i64 bu']]) ?_ ?_
        · simp [hre, j0, h3]
          constructor
          · refine add_at hR hb1 ?_
            simp
          · refine add_at hR hb1 ?_
            simp
        rintro x h ⟨rfl, rfl⟩
        refine ⟨by simp, ?_⟩
        simp
        refine joinP_all (fun x h => x = [.ptr 5 0, .int .i64 0] ∧ h = [.cells t_api_Window [.int .i64 hu, .int .i64 bu], .cells t_api_Window [.int .i64 hd, .int .i64 bd], .cells t_arr32_bool L, .cells t_int (row.map (.int .i64)), .cells t_api_Window [.int .i64 (max hu r), .int .i64 bu'], .cells t_api_Window [.int .i64 (max hd r'), .int .i64 bd']]) ?_ ?_
        · simp [e5, e6, hre', k0, k1]
          constructor
          · refine add_at hR hd1 ?_
            simp
          · refine add_at hR hd1 ?_
            simp
        rintro x h ⟨rfl, rfl⟩
        refine ⟨by simp, ?_⟩
        simp
        refine num_ok ?_
        simp
        refine num_ok ?_
        simp [e7]
        refine Gives.cut hR (m := 4) (by omega) (by simp) rfl (by simp; exact ⟨low_cells rfl, low_cells rfl, low_cells hL.ix, low_ints row⟩) ?_
        refine ⟨((row.length : Int) - (j + 1)).toNat, by omega, j + 1, max hu r, bu', max hd r', bd', rfl, rfl, ?_, ?_, by omega, by omega, rfl⟩
        · refine hb2.cong fun t => ?_
          rw [show (j + 1).toNat = j.toNat + 1 by omega, sp1]
          simp
        · refine hd2.cong fun t => ?_
          rw [sp2]
          simp [or_comm]
      · simp at h3
        have : j.toNat = row.length := by omega
        rw [this] at wu wd
        obtain ⟨rfl, rfl⟩ := (wu.cong (by simp)).ext2 (wd.cong (S' := (· ∈ row)) (by simp))
        simp [shEq, shEqs]
end Go.AI
