/- WindowBits. -/
import Derived.Test.YtlhmikjjnndjcaaSpLaw17d
set_option linter.all false
namespace Go.AI
variable {A : Type} {R : Adts A}
def BitsI (m : Nat) (y : List AVal) (g : AHeap A) : Prop :=
  ∃ (row : List Int) (x : AVal) (i hi : Int) (b : Nat), y = [x, .int .i64 i] ∧ Row t_int [.cells t_api_Window [.int .i64 hi, .int .i64 b]] x row g ∧ Win hi b (· ∈ row) ∧ hi < 64 ∧
    row.length ≤ i ∧ 0 ≤ i ∧ i ≤ 40 ∧ m = (40 - i).toNat
def BitsJ (hi : Int) (b : Nat) (row : List Int) (m : Nat) (y : List AVal) (g : AHeap A) : Prop :=
  ∃ q : Int, y = [.int .i64 q] ∧ g = [.cells t_api_Window [.int .i64 hi, .int .i64 b], .cells t_int (row.map (.int .i64))] ∧ 0 ≤ q ∧ hi - 32 < q ∧ q ≤ hi + 1 ∧ m = (hi + 1 - q).toNat
def BitsH (H : AHeap A) (q : Int) (row : List Int) (m : Nat) (y : List AVal) (g : AHeap A) : Prop :=
  ∃ (j : Int) (c : Bool), y = [.bool c, .int .i64 j] ∧ g = H ∧ 0 ≤ j ∧ j ≤ row.length ∧ (c = true ↔ q ∈ row.take j.toNat) ∧ m = (row.length - j).toNat
set_option maxHeartbeats 1000000 in
theorem WindowBits_ok (hR : R.Ok) (a : AVal) (l : List Int) (ha : IsInts a l) (ask : Int) : Tri Pr R n_law17_WindowBits [a, .int .i64 ask] [] fun u _ => u = .bool true := by
  apply c_law17_WindowBits
  unfold p_law17_WindowBits
  refine awake17_ok hR ?_
  simp
  refine loopP_go BitsI 40 ?_ ?_
  · exact Gives.done (by simp) ⟨[], _, 0, -1, 0, rfl, .inl ⟨rfl, rfl, rfl⟩, Win.none.cong (by simp), by omega, by simp, by omega, by omega, rfl⟩
  rintro m y g ⟨row, x, i, hi, b, rfl, hrow, hw, hhi, hri, i0, i1, rfl⟩
  have e2 := w64 (n := i + 1) (by omega)
  have hhi2 : -1 ≤ hi := by have := wMay_spec hw.may; omega
  simp [ha.len]
  refine iteP_of (fun h1 => iteP_of (fun h2 => ?_) (fun h2 => ?_)) (fun h1 => ?_)
  · simp at h1 h2
    obtain ⟨bb, oo, cs, hg⟩ := ha.get i0 h1
    generalize l.getD i.toNat 0 = s0 at hg
    have hs0 := bits_mask s0 6 (by omega) 63 (by decide)
    obtain ⟨s, hs, s1, s2⟩ : ∃ s, s0 % 2 ^ 6 = s ∧ 0 ≤ s ∧ s < 64 := ⟨_, rfl, by omega, by omega⟩
    rw [hs] at hs0
    by_cases hold : s ≤ hi - 32 ∨ s ∈ row
    · have hadd : wAdd hi b s = (0, 0, 1701) := by
        rcases hold with h | h
        · exact hw.far s1 (by omega) h
        · exact hw.old (by omega) h
      have hfin : ∃ m' : Nat, (m' : Int) < 40 - i ∧ BitsI m' [x, .int .i64 (i + 1)] g :=
        ⟨(40 - (i + 1)).toNat, by omega, row, x, i + 1, hi, b, rfl, hrow, hw, hhi, by omega, by omega, by omega, rfl⟩
      rcases hrow with ⟨rfl, rfl, rfl⟩ | ⟨hne, rfl, rfl⟩
      · refine joinP_go ?_
        simp [hg, hs0]
        refine add_at hR hadd ?_
        simp
        refine num_ok ?_
        simp [e2]
        exact Gives.cut hR (m := 1) (by omega) (by simp) rfl (by simp; exact low_cells rfl) hfin
      · refine joinP_go ?_
        simp [hg, hs0]
        refine add_at hR hadd ?_
        simp
        refine num_ok ?_
        simp [e2]
        exact Gives.cut hR (m := 2) (by omega) (by simp) rfl (by simp; exact ⟨low_cells rfl, low_ints row⟩) hfin
    · obtain ⟨b', hb1, hb2⟩ := hw.fresh s1 (by omega) (by omega) (fun h => hold (.inr h))
      have hfin : ∃ m' : Nat, (m' : Int) < 40 - i ∧ BitsI m' [.sl 1 0 (row.length + 1) (row.length + 1) false, .int .i64 (i + 1)]
          [.cells t_api_Window [.int .i64 (max hi s), .int .i64 b'], .cells t_int ((row ++ [s]).map (.int .i64)) (A := A)] :=
        ⟨(40 - (i + 1)).toNat, by omega, row ++ [s], _, i + 1, max hi s, b', rfl, .inr ⟨by simp, by simp, rfl⟩, hb2.cong (by simp), by omega, by simp; omega, by omega, by omega, rfl⟩
      have hlw : ∀ o ∈ ([.cells t_api_Window [.int .i64 (max hi s), .int .i64 b']] : AHeap A), o.low R 1 := by
        simp; exact low_cells rfl
      rcases hrow with ⟨rfl, rfl, rfl⟩ | ⟨hne, rfl, rfl⟩
      · refine joinP_go ?_
        simp [hg, hs0]
        refine add_at hR hb1 ?_
        simp
        refine num_ok ?_
        simp [e2, appP, appV, srcOf, cellsAt]
        refine Gives.pick hR [.cells t_api_Window [.int .i64 (max hi s), .int .i64 b']] [.cells t_api_Window [.int .i64 (max hi s), .int .i64 b'], .cells t_int [.int .i64 s]] (.cells t_int [.int .i64 s])
          _ [.sl 1 0 1 1 false, .int .i64 (i + 1)] rfl (by simp) hlw (cells_ints [s]) (by simp [rens, AVal.ren]) rfl ?_
        exact hfin
      · refine joinP_go ?_
        simp [hg, hs0]
        refine add_at hR hb1 ?_
        simp
        refine num_ok ?_
        simp [e2, appP, appV, srcOf, cellsAt]
        rw [if_neg (by omega), if_pos (by omega), List.take_of_length_le (by simp)]
        simp
        refine Gives.pick hR [.cells t_api_Window [.int .i64 (max hi s), .int .i64 b']] [.dead, .cells t_api_Window [.int .i64 (max hi s), .int .i64 b'], .cells t_int [.int .i64 s]] (.cells t_int ((row ++ [s]).map (.int .i64)))
          _ [.sl 1 0 (row.length + 1) (row.length + 1) false, .int .i64 (i + 1)] (by simp) (by simp) hlw (cells_ints _) (by simp [rens, AVal.ren]) (by simp [ixs, AVal.ix]) ?_
        exact hfin
  all_goals
    clear h1
    have f1 := w64 (n := hi - 32) (by omega)
    have f2 := w64 (n := hi - 32 + 1) (by omega)
    have f3 := w64 (n := hi + 1) (by omega)
    have hk0 := bits_mask ask 5 (by omega) 31 (by decide)
    obtain ⟨k, hk, k0, k1⟩ : ∃ k, ask % 2 ^ 5 = k ∧ 0 ≤ k ∧ k < 32 := ⟨_, rfl, by omega, by omega⟩
    rw [hk] at hk0
    have f4 := w64 (n := hi + 1 + k) (by omega)
    obtain ⟨b', hb1, hb2⟩ := hw.fresh (s := hi + 1 + k) (by omega) (by omega) (by omega) (fun h => by have := hw.top _ h; omega)
    have hmx : max hi (hi + 1 + k) = hi + 1 + k := by omega
    rw [hmx] at hb1 hb2
    have hodd : bits .i64 (· &&& ·) (b' : Int) 1 = 1 := by
      rw [bits_and1]
      have := wMay_spec hb2.may; omega
    rcases hrow with ⟨rfl, rfl, rfl⟩ | ⟨hne, rfl, rfl⟩
    · obtain rfl : hi = -1 := Classical.byContradiction fun h => by have := hw.mem h; simp at this
      simp at f4 hb1 hb2
      simp [hk0]
      refine loopP_go (fun m y g => y = [.int .i64 0] ∧ g = [.cells t_api_Window [.int .i64 (-1), .int .i64 b]]) 0 (Gives.done (by simp) ⟨rfl, rfl⟩) ?_
      rintro m y g ⟨rfl, rfl⟩
      simp [f4]
      refine add_at hR hb1 ?_
      simp
      refine num_ok ?_
      simp [f4, hodd]
    · simp [f1, f2, f3, f4, hk0]
      refine loopP_go (BitsJ hi b row) _ (Gives.done (by simp) ⟨_, rfl, rfl, by split <;> omega, by split <;> omega, by split <;> omega, rfl⟩) ?_
      rintro m y g ⟨q, rfl, rfl, q0, q1, q2, rfl⟩
      simp
      refine iteP_of (fun h3 => ?_) (fun h3 => ?_)
      · simp at h3
        have e8 := w64 (n := q + 1) (by omega)
        obtain ⟨x1, y1, z1, hadd, hz⟩ : ∃ x1 y1 z1, wAdd hi b q = (x1, y1, z1) ∧ (z1 = 0 ↔ q ∉ row) := by
          by_cases hin : q ∈ row
          · exact ⟨_, _, _, hw.old (by omega) hin, by simp [hin]⟩
          · obtain ⟨b'', hc1, hc2⟩ := hw.fresh (s := q) (by omega) (by omega) (by omega) hin
            exact ⟨_, _, _, hc1, by simp [hin]⟩
        refine add_at hR hadd ?_
        simp
        refine loopP_go (BitsH [.cells t_api_Window [.int .i64 hi, .int .i64 b], .cells t_int (row.map (.int .i64)), .cells t_api_Window [.int .i64 x1, .int .i64 y1]] q row) row.length
          (Gives.done (by simp) ⟨0, false, rfl, rfl, by omega, by omega, by simp, by omega⟩) ?_
        rintro m y g ⟨j, c, rfl, rfl, j0, j1, hc, rfl⟩
        simp
        refine iteP_of (fun h4 => ?_) (fun h4 => ?_)
        · simp at h4
          have e9 := w64 (n := j + 1) (by omega)
          obtain ⟨r, hr⟩ : ∃ r, row[j.toNat]? = some r := ⟨_, List.getElem?_eq_getElem (by omega)⟩
          obtain ⟨hlt, hre⟩ := List.getElem?_eq_some_iff.1 hr
          have sp1 : row.take (j.toNat + 1) = row.take j.toNat ++ [r] := by rw [List.take_add_one, hr]; rfl
          have hfin : ∀ d : Bool, (d = true ↔ q ∈ row.take j.toNat ∨ q = r) → ∃ m' : Nat, (m' : Int) < row.length - j ∧ BitsH [.cells t_api_Window [.int .i64 hi, .int .i64 b], .cells t_int (row.map (.int .i64)), .cells t_api_Window [.int .i64 x1, .int .i64 y1] (A := A)] q row m' [.bool d, .int .i64 (j + 1)]
              [.cells t_api_Window [.int .i64 hi, .int .i64 b], .cells t_int (row.map (.int .i64)), .cells t_api_Window [.int .i64 x1, .int .i64 y1]] := fun d hd =>
            ⟨((row.length : Int) - (j + 1)).toNat, by omega, j + 1, d, rfl, rfl, by omega, by omega, by rw [hd, show (j + 1).toNat = j.toNat + 1 by omega, sp1]; simp, rfl⟩
          cases c with
          | true =>
            simp [e9]
            exact Gives.done (by simp) (hfin true (by simp [hc.1 rfl]))
          | false =>
            simp [e9, hre, j0, h4]
            refine Gives.done (by simp) (hfin _ ?_)
            have : ¬ q ∈ row.take j.toNat := fun h => by simpa using hc.2 h
            simp [this]
            exact ⟨Eq.symm, Eq.symm⟩
        · simp at h4
          obtain rfl : j = row.length := by omega
          simp at hc
          refine num_ok ?_
          have hzc : ((z1 == 0) == c) = false := by
            cases c with
            | true => have := hc.1 rfl; simp [hz, this]
            | false => have : q ∉ row := fun h => by simpa using hc.2 h
                       simp [hz, this]
          simp [e8]
          rw [hzc]
          simp
          refine Gives.cut hR (m := 2) (by omega) (by simp) rfl (by simp; exact ⟨low_cells rfl, low_ints row⟩) ?_
          exact ⟨(hi + 1 - (q + 1)).toNat, by omega, q + 1, rfl, rfl, by omega, by omega, by omega, rfl⟩
      · simp at h3
        simp [f3, f4]
        refine add_at hR hb1 ?_
        simp
        refine num_ok ?_
        simp [f3, f4, hodd]
end Go.AI
