/- The boot's sectors: the statements. -/
import Derived.Test.YtkpoknhlecgbnaaSpSuper2
import Derived.Test.YtkpoknhlecgbnaaSpTw10
set_option linter.all false
namespace Go.AI
variable {A : Type} {R : Adts A}
section
variable {mk : Int → List Bs → A}
theorem SPut_at (hR : R.Ok) (hB : HasBook R mk) {m : Int} {ts r : List Bs} {boot e : Int} {s : Bs} (hok : bOk m ts) (he : sPut m ts boot = (r, s, e)) {h : AHeap A} {b : Nat} (hb : h[b]? = some (.adt (mk m ts))) {K : AVal → AHeap A → Prop}
    (hk : K (.tup [.str s, .int .i64 e]) (h.set b (.adt (mk m r)))) : Tri Pr R n_super_Put [.ptr b 0, .int .i64 boot] h K := by
  refine super_Put_ok hR hB hok boot hb ?_
  rw [he]; exact hk
theorem SGet_at (hR : R.Ok) (hB : HasBook R mk) {m : Int} {ts : List Bs} {s : Bs} {x e : Int} (hs : s.length < 1000) (he : sGet ts s = (x, e)) {h : AHeap A} {b : Nat} (hb : h[b]? = some (.adt (mk m ts))) {K : AVal → AHeap A → Prop}
    (hk : K (.tup [.int .i64 x, .int .i64 e]) h) : Tri Pr R n_super_Get [.ptr b 0, .str s] h K := by
  refine super_Get_ok hR hB s (by omega) hb ?_
  rw [he]; exact hk
theorem SPick_at (hR : R.Ok) (hB : HasBook R mk) {m : Int} {ts : List Bs} {s t : Bs} {x n e : Int} (hs : s.length < 1000) (ht : t.length < 1000) (he : sPick ts s t = (x, n, e)) {h : AHeap A} {b : Nat} (hb : h[b]? = some (.adt (mk m ts))) {K : AVal → AHeap A → Prop}
    (hk : K (.tup [.int .i64 x, .int .i64 n, .int .i64 e]) h) : Tri Pr R n_super_Pick [.ptr b 0, .str s, .str t] h K := by
  refine super_Pick_ok hR hB s t (by omega) (by omega) hb ?_
  rw [he]; exact hk
theorem bOk_put {m : Int} {ts r : List Bs} {boot e : Int} {s : Bs} (h : bOk m ts) (he : sPut m ts boot = (r, s, e)) : bOk m r := by
  have := sPut_ok (boot := boot) h
  rwa [he] at this
end
section
variable {bk rbk : Int → List Bs → A}
theorem awake10_ok (hR : R.Ok) (hB : HasBook R bk) (hB' : HasRBook R rbk) {h : AHeap A} {K : AVal → AHeap A → Prop} (hk : K (.bool true) h) : Tri Pr R n_law10_awake [] h K := by
  refine Tri.fn1 hR _ rfl rfl ?_ hk
  apply c_law10_awake
  unfold p_law10_awake
  refine law10_twin_ok hR hB hB' 9 ?_
  rw [if_pos (by omega)]
  simp -implicitDefEqProofs
  have b0 : bOk 9 [] := bOk_nil (by omega)
  obtain ⟨t1, e1⟩ : ∃ t : List Bs, t = [supT 3] := ⟨_, rfl⟩
  obtain ⟨t2, e2⟩ : ∃ t : List Bs, t = [supT 3, supT 300] := ⟨_, rfl⟩
  obtain ⟨s1, f1⟩ : ∃ t : Bs, t = pad [1, 3, 0] := ⟨_, rfl⟩
  obtain ⟨s2, f2⟩ : ∃ t : Bs, t = pad [2, 1, 44, 1, 1] := ⟨_, rfl⟩
  have k1 : sPut 9 [] 3 = (t1, s1, 0) := by rw [e1, f1]; decide +kernel
  have b1 := bOk_put b0 k1
  have k2 : sPut 9 t1 300 = (t2, s2, 0) := by rw [e1, e2, f2]; decide +kernel
  have b2 := bOk_put b1 k2
  have k3 : sGet t2 s2 = (300, 0) := by rw [e2, f2]; decide +kernel
  have k4 : sPut 9 t2 0 = (t2, [], 1000) := rfl
  have k5 : sPick t2 s1 s2 = (300, 0, 0) := by rw [e2, f1, f2]; decide +kernel
  have k6 : sPick t2 [] [] = (0, 0, 1001) := rfl
  have k7 : sPick t2 s1 [116, 111, 114, 110] = (3, 1, 0) := by rw [e2, f1]; decide +kernel
  have l1 : s1.length = 64 := by rw [f1]; rfl
  have l2 : s2.length = 64 := by rw [f2]; rfl
  have l3 : s1.take 3 = [1, 3, 0] := by rw [f1]; rfl
  clear e1 e2 f1 f2
  refine SPut_at hR hB b0 k1 rfl ?_
  simp -implicitDefEqProofs
  refine SPut_at hR hB b1 k2 rfl ?_
  simp -implicitDefEqProofs
  refine SGet_at hR hB (by omega) k3 rfl ?_
  simp -implicitDefEqProofs
  refine SPut_at hR hB b2 k4 rfl ?_
  simp -implicitDefEqProofs
  refine SPick_at hR hB (by omega) (by omega) k5 rfl ?_
  simp -implicitDefEqProofs
  refine SPick_at hR hB (by decide) (by decide) k6 rfl ?_
  simp -implicitDefEqProofs
  refine SPick_at hR hB (by omega) (by decide) k7 rfl ?_
  simp -implicitDefEqProofs
  refine super_Get_nil hR _ ?_
  simp -implicitDefEqProofs
  refine num14_ok ?_
  simp -implicitDefEqProofs [l1, l3]
  repeat (refine num14_ok ?_; simp -implicitDefEqProofs)
  exact Ans.rfl' _
def SupersI (bk rbk : Int → List Bs → A) (most : Int) (m : Nat) (y : List AVal) (g : AHeap A) : Prop :=
  ∃ (i : Int) (ts : List Bs) (s t : Bs), y = [.str s, .str t, .int .i64 i] ∧ g = [.adt (bk most ts), .adt (rbk most ts)] ∧ bOk most ts ∧ s.length < 8000000000000000000 ∧ t.length < 8000000000000000000 ∧ 0 ≤ i ∧ i ≤ 10 ∧ m = (10 - i).toNat
def StrJ (o : AHeap A) (vs : List AVal) (g : AHeap A) : Prop := ∃ s : Bs, s.length < 8000000000000000000 ∧ vs = [.str s] ∧ g = o
theorem sPut_len (m : Int) (ts : List Bs) (boot : Int) : (sPut m ts boot).2.1.length ≤ 64 := by
  unfold sPut
  split
  · split
    · have h1 := nS_len boot
      have h2 := nS_len (cMade m ts (supT boot)).2.1
      have := pad_len (s := nS boot ++ nS (cMade m ts (supT boot)).2.1) (by simp; omega)
      simp only; omega
    · simp
  · simp
theorem Supers_ok (hR : R.Ok) (hB : HasBook R bk) (hB' : HasRBook R rbk) (most : Int) (a : AVal) (l : List Int) (ha : IsInts a l) (s t : Bs) (hs : s.length < 8000000000000000000) (ht : t.length < 8000000000000000000) :
    Tri Pr R n_law10_Supers [.int .i64 most, a, .str s, .str t] [] fun u _ => u = .bool true := by
  apply c_law10_Supers
  unfold p_law10_Supers
  refine law10_twin_ok hR hB hB' most ?_
  by_cases hm : 1 ≤ most ∧ most ≤ 65536
  · rw [if_pos hm]
    simp -implicitDefEqProofs
    refine loopP_go (SupersI bk rbk most) 10 (Gives.done (by simp) ⟨0, [], s, t, rfl, rfl, bOk_nil hm, hs, ht, by omega, by omega, rfl⟩) ?_
    rintro m y g ⟨i, ts, one, two, rfl, rfl, hok, h1, h2, i0, i1, rfl⟩
    have e2 := w64 (n := i + 1) (by omega)
    simp -implicitDefEqProofs [ha.len]
    refine iteP_of (fun h3 => iteP_of (fun h4 => ?_) (fun h4 => ?_)) (fun h3 => ?_)
    · simp at h3 h4
      obtain ⟨bb, oo, cs, hg⟩ := ha.get i0 h3
      generalize l.getD i.toNat 0 = x at hg
      simp -implicitDefEqProofs [hg]
      refine super_Put_ok hR hB hok x rfl ?_
      simp -implicitDefEqProofs [hg]
      refine ref1_PutSuper_ok hR hB' hok x rfl ?_
      simp -implicitDefEqProofs
      refine num14_ok ?_
      have hok' := sPut_ok (boot := x) hok
      have hlen := sPut_len most ts x
      generalize sPut most ts x = r at *
      simp -implicitDefEqProofs
      refine joinP_all (StrJ [.adt (bk most r.1), .adt (rbk most r.1)]) ?_ ?_
      · cases hc : (r.2.2 == 0) with
        | true =>
          simp -implicitDefEqProofs
          refine iteP_of (fun _ => ⟨_, by omega, rfl, rfl⟩) (fun _ => ⟨_, h1, rfl, rfl⟩)
        | false =>
          simp -implicitDefEqProofs
          exact ⟨_, h1, rfl, rfl⟩
      rintro _ _ ⟨one', h1', rfl, rfl⟩
      refine ⟨by simp, ?_⟩
      simp -implicitDefEqProofs
      refine joinP_all (StrJ [.adt (bk most r.1), .adt (rbk most r.1)]) ?_ ?_
      · cases hc : (r.2.2 == 0) with
        | true =>
          simp -implicitDefEqProofs
          refine iteP_of (fun _ => ⟨_, by omega, rfl, rfl⟩) (fun _ => ⟨_, h2, rfl, rfl⟩)
        | false =>
          simp -implicitDefEqProofs
          exact ⟨_, h2, rfl, rfl⟩
      rintro _ _ ⟨two', h2', rfl, rfl⟩
      refine ⟨by simp, ?_⟩
      simp -implicitDefEqProofs
      refine super_Get_ok hR hB one' h1' rfl ?_
      simp -implicitDefEqProofs
      refine ref1_GetSuper_ok hR hB' hok' one' h1' rfl ?_
      simp -implicitDefEqProofs
      refine super_Pick_ok hR hB one' two' h1' h2' rfl ?_
      simp -implicitDefEqProofs
      refine ref1_Pick_ok hR hB' hok' one' two' h1' h2' rfl ?_
      simp -implicitDefEqProofs
      refine num14_ok ?_
      simp -implicitDefEqProofs
      refine num14_ok ?_
      simp -implicitDefEqProofs [e2]
      exact Gives.done (by simp) ⟨(10 - (i + 1)).toNat, by omega, i + 1, r.1, one', two', rfl, rfl, hok', h1', h2', by omega, by omega, rfl⟩
    all_goals
      refine super_Pick_ok hR hB s t hs ht rfl ?_
      simp -implicitDefEqProofs
      refine ref1_Pick_ok hR hB' hok s t hs ht rfl ?_
      simp -implicitDefEqProofs
      refine num14_ok ?_
      simp -implicitDefEqProofs
      refine same10_ok hR hB hB' hok ?_
      simp -implicitDefEqProofs
      refine awake10_ok hR hB hB' ?_
      simp -implicitDefEqProofs
  · rw [if_neg hm]
    simp -implicitDefEqProofs
    refine awake10_ok hR hB hB' ?_
    simp -implicitDefEqProofs
end
end Go.AI
