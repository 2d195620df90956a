/- The document's book names a term. -/
import Derived.Test.YtnhclbecbagmfaaSpRBook
set_option linter.all false
namespace Go.AI
variable {A : Type} {R : Adts A}
section rbook
variable {mk : Int → List Bs → A}
theorem rbook_Name_ok (hR : R.Ok) (hB : HasRBook R mk) {m : Int} {ts : List Bs} (hok : bOk m ts) (s : Bs) {h : AHeap A} {b : Nat} (hb : h[b]? = some (.adt (mk m ts))) {K : AVal → AHeap A → Prop}
    (hk : K (.tup [.int .i64 (bName m ts s).2.1, .int .i64 (bName m ts s).2.2]) (h.set b (.adt (mk m (bName m ts s).1)))) : Tri Pr R n_ref1_Book_Name [.ptr b 0, .str s] h K := by
  refine Tri.own hR (as2 := [.ptr 0 0, .str s]) (Q := fun v o => v = .tup [.int .i64 (bName m ts s).2.1, .int .i64 (bName m ts s).2.2] ∧ o = .adt (mk m (bName m ts s).1)) rfl (rbook_ix hB _ _ _) ?_ (rbook_ren hB _ _) ?_ hb (by simp [rens, AVal.ren]) ?_
  · rintro _ _ ⟨rfl, rfl⟩; exact ⟨rfl, rbook_ren hB _ _⟩
  · refine Tri.post ?_
    apply c_ref1_Book_Name
    unfold p_ref1_Book_Name
    have hm := hok.most
    have hlen := hok.len
    obtain ⟨r, hr⟩ : ∃ r, bName m ts s = r := ⟨_, rfl⟩
    rw [hr]
    unfold bName at hr
    split at hr
    · rename_i h1
      subst hr
      simp
      refine iteP_of (fun h2 => iteP_of (fun h3 => ?_) (fun h3 => ?_)) (fun h2 => ?_)
      · exact Gives.done (by simp) ⟨_, rfl, _, ⟨rfl, rfl⟩, rfl⟩
      · simp at h2 h3; rcases h1 with h1 | h1; subst h1; simp at h2; omega
      · exact Gives.done (by simp) ⟨_, rfl, _, ⟨rfl, rfl⟩, rfl⟩
    · rename_i h1
      have h2 : ¬ (s.length : Int) < 1 := by
        have : s.length ≠ 0 := fun h => h1 (.inl (List.length_eq_zero_iff.1 h))
        omega
      have h3 : ¬ (512 : Int) < s.length := by omega
      simp [h2, h3]
      refine Tri.post (rbook_Find_ok hR hB hok s rfl (Gives.opened 0 rfl (by simp) fun g hg => ?_))
      obtain rfl := (hB.lay _ _ _).1 hg
      refine Gives.done (by simp) ⟨_, rfl, ?_⟩
      cases hf : bFind ts s with
      | some i =>
        have hne : ts ≠ [] := by rintro rfl; simp [bFind] at hf
        simp [hf] at hr
        subst hr
        simp [rbookG, GC.at, hne]
        exact rbook_shut hR hB hne 1 _ rfl rfl rfl (by omega) rfl ⟨_, rfl, _, ⟨rfl, rfl⟩, rfl⟩
      | none =>
        by_cases h0 : ts = []
        · subst h0
          have h5 : ¬ m ≤ 0 := by omega
          simp [hf, h5] at hr
          subst hr
          simp [rbookG, GC.at, h5, appP, appV, srcOf, cellsAt]
          exact rbook_shut hR hB (ts := [s]) (by simp) 2 1 rfl rfl rfl (by omega) rfl ⟨_, rfl, _, ⟨rfl, rfl⟩, rfl⟩
        · by_cases h4 : m ≤ ts.length
          · simp [hf, h4] at hr
            subst hr
            simp [rbookG, GC.at, h0, h4]
            exact rbook_shut hR hB h0 1 _ rfl rfl rfl (by omega) rfl ⟨_, rfl, _, ⟨rfl, rfl⟩, rfl⟩
          · simp [hf, h4] at hr
            subst hr
            have h6 : ¬ ts.length + 1 ≤ ts.length := by omega
            have h7 : (2 * (ts.length + 1) + 1000) * 16 ≤ 140737488355328 := by omega
            have e1 := w64 (n := (ts.length : Int)) (by omega)
            simp [rbookG, GC.at, h0, h4, appP, appV, srcOf, cellsAt, h6, h7, e1]
            trace_state
            refine rbook_shut hR hB (ts := ts ++ [s]) (by simp) 3 (ts.length + 1) (by simp) rfl ?_ (by omega) rfl ⟨_, rfl, _, ⟨rfl, rfl⟩, rfl⟩
            simp
            exact List.take_of_length_le (by simp)
  · rintro _ _ ⟨rfl, rfl⟩; exact hk
end rbook
end Go.AI
