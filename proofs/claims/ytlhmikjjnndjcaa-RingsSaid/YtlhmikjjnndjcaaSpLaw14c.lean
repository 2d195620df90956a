/- Rings. -/
import Derived.Test.YtlhmikjjnndjcaaSpLaw14b
set_option linter.all false
namespace Go.AI
variable {A : Type} {R : Adts A}
section
variable {bk rbk : Int → List Bs → A}
theorem same14_at (hR : R.Ok) (hB : HasBook R bk) (hB' : HasRBook R rbk) {m : Int} {ts : List Bs} (hok : bOk m ts) : Tri Pr R n_law14_sameBooks [.ptr 0 0, .ptr 1 0] [.adt (bk m ts), .adt (rbk m ts)] fun u _ => u = .bool true := by
  have hm := hok.most
  have hl := hok.len
  refine Tri.pre (Gives.opened 1 rfl (by simp) fun g hg => ?_)
  obtain rfl := (hB'.lay _ _ _).1 hg
  refine Gives.done (by simp) ?_
  apply c_law14_sameBooks
  unfold p_law14_sameBooks
  by_cases h0 : ts = []
  · subst h0
    simp [rbookG, GC.at]
    refine book_Len_ok hR hB rfl ?_
    simp
    refine loopP_unr 1 ?_
    rw [unr]
    simp
  · have e1 := w64 (n := (ts.length : Int) - 40) (by omega)
    simp [rbookG, GC.at, h0]
    refine book_Len_ok hR hB rfl ?_
    simp [e1]
    refine loopP_go (fun k y g => ∃ i : Nat, y = [.int .i64 i] ∧ g = [.adt (bk m ts), .cells t_bastionref1_Book [.int .i64 m, .sl 2 0 ts.length ts.length false], .cells t_string (ts.map .str)] ∧ i ≤ ts.length ∧ k = ts.length - i) _
      (Gives.done (by simp) ⟨(if 0 < (ts.length : Int) - 40 then (ts.length : Int) - 40 else 0).toNat, by congr 2; split <;> omega, rfl, by split <;> omega, rfl⟩) ?_
    rintro k y g ⟨i, rfl, rfl, hi, rfl⟩
    simp
    refine iteP_of (fun h1 => ?_) (fun h1 => trivial)
    simp at h1
    have e2 := w64 (n := (i : Int) + 1) (by omega)
    refine book_Term_ok hR hB i rfl ?_
    have hb : bTerm ts i = (ts[i], 0) := by simp [bTerm, h1]
    rw [hb]
    simp
    refine num14_ok ?_
    simp [h1, e2]
    exact Gives.done (by simp) ⟨ts.length - (i + 1), by omega, i + 1, by simp, rfl, by omega, rfl⟩
def RingsI (bk rbk : Int → List Bs → A) (most : Int) (m : Nat) (y : List AVal) (g : AHeap A) : Prop :=
  ∃ (i : Int) (ts : List Bs), y = [.int .i64 i] ∧ g = [.adt (bk most ts), .adt (rbk most ts)] ∧ bOk most ts ∧ 0 ≤ i ∧ i ≤ 20 ∧ m = (20 - i).toNat
theorem Rings_ok (hR : R.Ok) (hB : HasBook R bk) (hB' : HasRBook R rbk) (most : Int) (a : AVal) (l : List Int) (ha : IsInts a l) (now keep : Int) :
    Tri Pr R n_law14_Rings [.int .i64 most, a, .int .i64 now, .int .i64 keep] [] fun u _ => u = .bool true := by
  apply c_law14_Rings
  unfold p_law14_Rings
  refine law14_twin_ok hR hB hB' most ?_
  by_cases hm : 1 ≤ most ∧ most ≤ 65536
  · rw [if_pos hm]
    simp
    refine loopP_go (RingsI bk rbk most) 20 (Gives.done (by simp) ⟨0, [], rfl, rfl, bOk_nil hm, by omega, by omega, rfl⟩) ?_
    rintro m y g ⟨i, ts, rfl, rfl, hok, i0, i1, rfl⟩
    have e2 := w64 (n := i + 1) (by omega)
    simp [ha.len]
    refine iteP_of (fun h1 => iteP_of (fun h2 => ?_) (fun h2 => ?_)) (fun h1 => ?_)
    · simp at h1 h2
      obtain ⟨bb, oo, cs, hg⟩ := ha.get i0 h1
      generalize l.getD i.toNat 0 = s at hg
      simp [hg]
      refine ring_Key_ok hR hB hok s rfl ?_
      simp only [extP_t, List.getElem?_cons_zero, List.getElem?_cons_succ, optP_some, List.set_cons_zero]
      refine ref12_RingKey_ok hR hB' hok s rfl ?_
      simp only [extP_t, List.getElem?_cons_zero, List.getElem?_cons_succ, optP_some, List.set_cons_zero, List.set_cons_succ]
      refine joinP_go ?_
      have hok' := rKey_ok (x := s) hok
      generalize rKey most ts s = r at *
      simp
      refine num14_ok ?_
      simp
      refine ring_Live_ok hR s now keep ?_
      refine ref12_RingLive_ok hR s now keep ?_
      simp [e2]
      exact Gives.done (by simp) ⟨(20 - (i + 1)).toNat, by omega, i + 1, r.1, rfl, rfl, hok', by omega, by omega, rfl⟩
    all_goals
      refine (same14_at hR hB hB' hok).mono ?_
      rintro u g rfl
      simp
      refine awake14_ok hR hB hB' ?_
      simp
  · rw [if_neg hm]
    simp
    refine awake14_ok hR hB hB' ?_
    simp
end
end Go.AI
