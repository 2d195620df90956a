/- Records: the statements. -/
import Derived.Test.YtkipdpamkchnoaaSpRecord2
import Derived.Test.YtkipdpamkchnoaaSpTw9
set_option linter.all false
namespace Go.AI
variable {A : Type} {R : Adts A}
theorem shRec (r q : Rec) : shEq (Sh.st [(0, 1, Sh.i), (1, 1, Sh.i), (2, 1, Sh.i), (3, 8, Sh.st [(0, 1, Sh.i), (1, 1, Sh.i), (2, 1, Sh.i), (3, 1, Sh.i), (4, 1, Sh.i), (5, 1, Sh.i), (6, 1, Sh.i), (7, 1, Sh.i)])]) r.row q.row = some (decide (r = q)) := by
  obtain ⟨x, y, z, k, u, s, ad, a, b, c, t⟩ := r
  obtain ⟨x2, y2, z2, k2, u2, s2, ad2, a2, b2, c2, t2⟩ := q
  simp [Rec.row, Ev.row, shEq, shEqs]
  rfl
section
variable {mk : Int → List Bs → A}
theorem RPut_at (hR : R.Ok) (hB : HasBook R mk) {m : Int} {ts q : List Bs} {r : Rec} {s : Bs} {n e : Int} (hok : bOk m ts) (he : recPut m ts r = (q, s, n, e)) {h : AHeap A} {b : Nat} (hb : h[b]? = some (.adt (mk m ts))) {K : AVal → AHeap A → Prop}
    (hk : K (.tup [.str s, .int .i64 n, .int .i64 e]) (h.set b (.adt (mk m q)))) : Tri Pr R n_record_Put [.ptr b 0, .agg r.row] h K := by
  refine record_Put_ok hR hB hok r hb ?_
  rw [he]; exact hk
theorem RPut_nil (hR : R.Ok) (r : Rec) {h : AHeap A} {K : AVal → AHeap A → Prop} (hk : K (.tup [.str [], .int .i64 0, .int .i64 1]) h) : Tri Pr R n_record_Put [.nilp, .agg r.row] h K := by
  refine Tri.fn1 hR _ rfl rfl ?_ hk
  apply c_record_Put
  unfold p_record_Put
  simp -implicitDefEqProofs [Rec.row, Ev.row]
  exact Ans.rfl' _
theorem RGet_at (hR : R.Ok) (hB : HasBook R mk) {m : Int} {ts : List Bs} {s : Bs} {seq prev n e : Int} {r : Rec} (hs : s.length < 1000) (he : recGet ts s seq prev = (r, n, e)) {h : AHeap A} {b : Nat} (hb : h[b]? = some (.adt (mk m ts))) {K : AVal → AHeap A → Prop}
    (hk : K (.tup [.agg r.row, .int .i64 n, .int .i64 e]) h) : Tri Pr R n_record_Get [.ptr b 0, .str s, .int .i64 seq, .int .i64 prev] h K := by
  refine record_Get_ok hR hB s (by omega) seq prev hb ?_
  rw [he]; exact hk
theorem bOk_rput {m : Int} {ts q : List Bs} {r : Rec} {s : Bs} {n e : Int} (h : bOk m ts) (he : recPut m ts r = (q, s, n, e)) : bOk m q := by
  have := recPut_ok (r := r) h
  rwa [he] at this
end
section
variable {bk rbk : Int → List Bs → A}
theorem awake9_ok (hR : R.Ok) (hB : HasBook R bk) (hB' : HasRBook R rbk) {h : AHeap A} {K : AVal → AHeap A → Prop} (hk : K (.bool true) h) : Tri Pr R n_law9_awake [] h K := by
  refine Tri.fn1 hR _ rfl rfl ?_ hk
  apply c_law9_awake
  unfold p_law9_awake
  rw [reps11]
  refine law9_twin_ok hR hB hB' 9 ?_
  rw [if_pos (by omega)]
  simp -implicitDefEqProofs
  have b0 : bOk 9 [] := bOk_nil (by omega)
  obtain ⟨t1, e1⟩ : ∃ t : List Bs, t = [recT ⟨1, 1, 0, ⟨2, 3, 0, 0, 0, 0, 0, 300⟩⟩] := ⟨_, rfl⟩
  obtain ⟨s, e2⟩ : ∃ t : Bs, t = pad [1, 1, 1, 1, 0, 1, 7, 1, 2, 1, 3, 2, 1, 44, 0] := ⟨_, rfl⟩
  have k1 : recPut 9 [] ⟨1, 1, 0, ⟨2, 3, 0, 0, 0, 0, 0, 300⟩⟩ = (t1, s, 0, 0) := by rw [e1, e2]; decide +kernel
  have b1 := bOk_rput b0 k1
  have k2 : recGet t1 s 1 0 = (⟨1, 1, 0, ⟨2, 3, 0, 0, 0, 0, 0, 300⟩⟩, 0, 0) := by rw [e1, e2]; decide +kernel
  have k3 : recGet t1 s 2 0 = (rec0, 0, 901) := by rw [e1, e2]; decide +kernel
  have k4 : recGet t1 (2 :: s.tail) 2 0 = (rec0, 0, 900) := by rw [e1, e2]; decide +kernel
  have k5 : recPut 9 t1 ⟨0, 1, 0, ⟨0, 0, 0, 0, 0, 0, 0, 0⟩⟩ = (t1, [], 0, 900) := rfl
  have l1 : s.length = 64 := by rw [e2]; rfl
  have l2 : s.take 16 = [1, 1, 1, 1, 0, 1, 7, 1, 2, 1, 3, 2, 1, 44, 0, 0] := by rw [e2]; rfl
  clear e1 e2
  refine RPut_at (r := ⟨1, 1, 0, ⟨2, 3, 0, 0, 0, 0, 0, 300⟩⟩) hR hB b0 k1 rfl ?_
  simp -implicitDefEqProofs
  refine num14_ok ?_
  simp -implicitDefEqProofs [l1]
  refine RGet_at hR hB (by omega) k2 rfl ?_
  simp -implicitDefEqProofs [Rec.row, Ev.row]
  refine RGet_at hR hB (by omega) k3 rfl ?_
  simp -implicitDefEqProofs [Rec.row, Ev.row, rec0, ev0, l1]
  refine RGet_at hR hB (by simp [l1]) k4 rfl ?_
  simp -implicitDefEqProofs [Rec.row, Ev.row, rec0, ev0, l1]
  refine RPut_at (r := ⟨0, 1, 0, ⟨0, 0, 0, 0, 0, 0, 0, 0⟩⟩) hR hB b1 k5 rfl ?_
  simp -implicitDefEqProofs
  refine RPut_nil hR ⟨1, 1, 0, ⟨2, 3, 0, 0, 0, 0, 0, 300⟩⟩ ?_
  have hs := shRec ⟨1, 1, 0, ⟨2, 3, 0, 0, 0, 0, 0, 300⟩⟩ ⟨1, 1, 0, ⟨2, 3, 0, 0, 0, 0, 0, 300⟩⟩
  simp only [Rec.row, Ev.row] at hs
  simp -implicitDefEqProofs [l1, l2, hs]
  repeat (refine num14_ok ?_; simp -implicitDefEqProofs)
  exact Ans.rfl' _
end
end Go.AI
