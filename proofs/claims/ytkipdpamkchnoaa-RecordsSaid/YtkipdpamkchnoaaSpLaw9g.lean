/- Records: any record, any bytes, any place. -/
import Derived.Test.YtkipdpamkchnoaaSpLaw9
import Derived.Test.YtkipdpamkchnoaaSpRecord3
import Derived.Test.YtkipdpamkchnoaaSpRecT
set_option linter.all false
namespace Go.AI
variable {A : Type} {R : Adts A}
theorem recPut_len (m : Int) (ts : List Bs) (r : Rec) : (recPut m ts r).2.1.length ≤ 64 := by
  unfold recPut
  split
  · split
    · split
      · rename_i h; simp only; rw [pad_len h]; omega
      · simp
    · simp
  · simp
section
variable {mk : Int → List Bs → A}
theorem RRPut_at (hR : R.Ok) (hB : HasRBook R mk) {m : Int} {ts q : List Bs} {r : Rec} {s : Bs} {n e : Int} (hok : bOk m ts) (he : recPut m ts r = (q, s, n, e)) {h : AHeap A} {b : Nat} (hb : h[b]? = some (.adt (mk m ts))) {K : AVal → AHeap A → Prop}
    (hk : K (.tup [.str s, .int .i64 n, .int .i64 e]) (h.set b (.adt (mk m q)))) : Tri Pr R n_ref1_PutRecord [.ptr b 0, .agg r.row] h K := by
  refine ref1_PutRecord_ok hR hB hok r hb ?_
  rw [he]; exact hk
theorem RRGet_at (hR : R.Ok) (hB : HasRBook R mk) {m : Int} {ts : List Bs} (hok : bOk m ts) {s : Bs} {seq prev n e : Int} {r : Rec} (hs : s.length < 1000000000000000) (he : recGet ts s seq prev = (r, n, e)) {h : AHeap A} {b : Nat} (hb : h[b]? = some (.adt (mk m ts))) {K : AVal → AHeap A → Prop}
    (hk : K (.tup [.agg r.row, .int .i64 n, .int .i64 e]) h) : Tri Pr R n_ref1_GetRecord [.ptr b 0, .str s, .int .i64 seq, .int .i64 prev] h K := by
  refine ref1_GetRecord_ok hR hB hok s (by omega) seq prev hb ?_
  rw [he]; exact hk
theorem RGet_big (hR : R.Ok) (hB : HasBook R mk) {m : Int} {ts : List Bs} {s : Bs} {seq prev n e : Int} {r : Rec} (hs : s.length < 1000000000000000) (he : recGet ts s seq prev = (r, n, e)) {h : AHeap A} {b : Nat} (hb : h[b]? = some (.adt (mk m ts))) {K : AVal → AHeap A → Prop}
    (hk : K (.tup [.agg r.row, .int .i64 n, .int .i64 e]) h) : Tri Pr R n_record_Get [.ptr b 0, .str s, .int .i64 seq, .int .i64 prev] h K := by
  refine record_Get_ok hR hB s (by omega) seq prev hb ?_
  rw [he]; exact hk
end
section
variable {bk rbk : Int → List Bs → A}
theorem same9_any (hR : R.Ok) (hB : HasBook R bk) (hB' : HasRBook R rbk) {m : Int} {ts : List Bs} (hok : bOk m ts) {r : AHeap A} {K : AVal → AHeap A → Prop} (hk : ∀ H, K (.bool true) H) :
    Tri Pr R n_law9_sameBooks [.ptr 0 0, .ptr 1 0] (.adt (bk m ts) :: .adt (rbk m ts) :: r) K := by
  have s : Sel R [0, 1] (.adt (bk m ts) :: .adt (rbk m ts) :: r : AHeap A) [.adt (bk m ts), .adt (rbk m ts)] := by
    refine ⟨rfl, by decide, fun k o hk => ?_, fun o ho => ?_⟩
    · match k, hk with
      | 0, hk => simp at hk; subst hk; exact ⟨0, rfl, by simp [book_ren hB]⟩
      | 1, hk => simp at hk; subst hk; exact ⟨1, rfl, by simp [rbook_ren hB']⟩
      | k + 2, hk => simp at hk
    · simp only [List.mem_cons, List.not_mem_nil, or_false] at ho
      rcases ho with rfl | rfl
      · exact book_ix hB _ _ _
      · exact rbook_ix hB' _ _ _
  refine (Tri.frame hR s (as2 := [.ptr 0 0, .ptr 1 0]) rfl (same9_ok hR hB hB' hok (K := fun v _ => v = .bool true) rfl)).mono ?_
  rintro v H ⟨v0, h0, rfl, _, rfl, rfl⟩
  exact hk _
def RecsI (bk rbk : Int → List Bs → A) (m N : Int) (k : Nat) (y : List AVal) (g : AHeap A) : Prop :=
  ∃ (i : Int) (ts : List Bs), y = [.int .i64 i] ∧ g = [.adt (bk m ts), .adt (rbk m ts)] ∧ bOk m ts ∧ 0 ≤ i ∧ i ≤ 20 ∧ i ≤ N ∧ k = (20 - i).toNat
theorem Records_ok (hR : R.Ok) (hB : HasBook R bk) (hB' : HasRBook R rbk) (m : Int) (a : AVal) (l : List Rec) (ha : IsRows Rec.row a l) (s : Bs) (hs : s.length < 1000000000000000) (seq prev : Int) :
    Tri Pr R n_law9_Records [.int .i64 m, a, .str s, .int .i64 seq, .int .i64 prev] [] fun u _ => u = .bool true := by
  apply c_law9_Records
  unfold p_law9_Records
  rw [reps11]
  refine law9_twin_ok hR hB hB' m ?_
  by_cases hm : 1 ≤ m ∧ m ≤ 65536
  · rw [if_pos hm]
    simp -implicitDefEqProofs
    refine loopP_go (RecsI bk rbk m l.length) 20 (Gives.done (by simp) ⟨0, [], rfl, rfl, bOk_nil (by omega), by omega, by omega, by omega, rfl⟩) ?_
    rintro k y g ⟨i, ts, rfl, rfl, hok, i0, i20, iN, rfl⟩
    have e2 := w64 (n := i + 1) (by omega)
    simp -implicitDefEqProofs [ha.len]
    refine iteP_of (fun h3 => iteP_of (fun h4 => ?_) (fun h4 => ?_)) (fun h3 => ?_)
    · simp at h3 h4
      obtain ⟨x, bb, oo, cs, hx, hg⟩ := ha.get (w := 11) (fun x => rfl) i0 h3
      simp -implicitDefEqProofs [hg, Rec.row, Ev.row]
      obtain ⟨⟨q, t, n, e⟩, k1⟩ : ∃ z, recPut m ts x = z := ⟨_, rfl⟩
      have hlt : t.length ≤ 64 := by have := recPut_len m ts x; rw [k1] at this; exact this
      have hok' : bOk m q := by have := recPut_ok (r := x) hok; rw [k1] at this; exact this
      refine RPut_at (r := x) hR hB hok k1 rfl ?_
      simp -implicitDefEqProofs [hg, Rec.row, Ev.row]
      refine RRPut_at (r := x) hR hB' hok k1 rfl ?_
      simp -implicitDefEqProofs
      refine num14_ok ?_
      obtain ⟨⟨y, n2, f⟩, k2⟩ : ∃ z, recGet q t seq prev = z := ⟨_, rfl⟩
      simp -implicitDefEqProofs
      refine RGet_big hR hB (by omega) k2 rfl ?_
      simp -implicitDefEqProofs [Rec.row, Ev.row]
      refine RRGet_at hR hB' hok' (by omega) k2 rfl ?_
      have hsy := shRec y y
      simp only [Rec.row, Ev.row] at hsy
      simp -implicitDefEqProofs [Rec.row, Ev.row, hsy]
      refine num14_ok ?_
      simp -implicitDefEqProofs [e2]
      refine Gives.cut hR (m := 2) (by simp) (by simp) (by simp [ixs, AVal.ix]) ?_ ?_
      · simp only [List.take, List.mem_cons, List.not_mem_nil, or_false]
        rintro o (rfl | rfl)
        · exact book_low hB _ _
        · exact rbook_low hB' _ _
      · exact ⟨(20 - (i + 1)).toNat, by omega, i + 1, q, rfl, rfl, hok', by omega, by omega, by omega, rfl⟩
    all_goals
      obtain ⟨⟨y, n2, f⟩, k2⟩ : ∃ z, recGet ts s seq prev = z := ⟨_, rfl⟩
      have hsy := shRec y y
      simp only [Rec.row, Ev.row] at hsy
      refine RGet_big hR hB hs k2 rfl ?_
      simp -implicitDefEqProofs [Rec.row, Ev.row]
      refine RRGet_at hR hB' hok hs k2 rfl ?_
      simp -implicitDefEqProofs [Rec.row, Ev.row, hsy]
      refine num14_ok ?_
      simp -implicitDefEqProofs
      refine same9_any hR hB hB' hok fun H => ?_
      simp -implicitDefEqProofs
      refine awake9_ok hR hB hB' ?_
      simp -implicitDefEqProofs
  · rw [if_neg hm]
    simp -implicitDefEqProofs
    refine awake9_ok hR hB hB' ?_
    simp -implicitDefEqProofs
end
end Go.AI
