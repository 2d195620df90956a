/- Crafts: what every program answers that is one; any book, keys, texts, tags. -/
import Derived.Test.YtlhmikjjnndjcaaSpTw3
set_option linter.all false
namespace Go.AI
variable {A : Type} {R : Adts A}
section
variable {bk rbk : Int → List Bs → A}
theorem awake3_ok (hR : R.Ok) (hB : HasBook R bk) (hB' : HasRBook R rbk) {h : AHeap A} {K : AVal → AHeap A → Prop} (hk : K (.bool true) h) : Tri Pr R n_law3_awake [] h K := by
  refine Tri.fn1 hR _ rfl rfl ?_ hk
  apply c_law3_awake
  unfold p_law3_awake
  refine law3_twin_ok hR hB hB' 9 ?_
  rw [if_pos (by omega)]
  simp -implicitDefEqProofs
  have b0 : bOk 9 [] := bOk_nil (by omega)
  obtain ⟨t1, e1⟩ : ∃ t : List Bs, t = [[65, 107]] := ⟨_, rfl⟩
  obtain ⟨t2, e2⟩ : ∃ t : List Bs, t = [[65, 107], [72, 120]] := ⟨_, rfl⟩
  obtain ⟨t3, e3⟩ : ∃ t : List Bs, t = [[65, 107], [72, 120], [77, 0, 120]] := ⟨_, rfl⟩
  obtain ⟨t4, e4⟩ : ∃ t : List Bs, t = [[65, 107], [72, 120], [77, 0, 120], [83, 0, 98, 111, 100, 121]] := ⟨_, rfl⟩
  have k1 : cMade 9 [] (65 :: [107]) = (t1, 0, 0) := by rw [e1]; decide +kernel
  have b1 := bOk_at b0 k1
  have k2 : cMade 9 t1 (72 :: [120]) = (t2, 1, 0) := by rw [e1, e2]; decide +kernel
  have b2 := bOk_at b1 k2
  have k3 : cKey 9 t2 77 0 [120] = (t3, 2, 0) := by rw [e2, e3]; decide +kernel
  have b3 := bOk_key b2 k3
  have k4 : cKey 9 t3 83 0 [98, 111, 100, 121] = (t4, 3, 0) := by rw [e3, e4]; decide +kernel
  have b4 := bOk_key b3 k4
  have k5 : cOpen t4 0 3 = ([98, 111, 100, 121], 0) := by rw [e4]; decide +kernel
  have k6 : cOpen t4 1 3 = ([], 301) := by rw [e4]; decide +kernel
  have k7 : cKey 9 t4 77 (-1) [120] = (t4, 0, 300) := rfl
  have k8 : cIsMac t4 0 [120] 2 = true := by rw [e4]; decide +kernel
  have k9 : cIsMac t4 0 [121] 4 = false := by rw [e4]; decide +kernel
  have k10 : cIs t4 (72 :: [120]) 1 = true := by rw [e4]; decide +kernel
  have k11 : (t4.length : Int) = 4 := by rw [e4]; rfl
  clear e1 e2 e3 e4
  refine Atom_at hR hB b0 (by decide) k1 rfl ?_
  simp -implicitDefEqProofs
  refine Hash_at hR hB b1 (by decide) k2 rfl ?_
  simp -implicitDefEqProofs
  refine Mac_at hR hB b2 (by decide) k3 rfl ?_
  simp -implicitDefEqProofs
  refine Seal_at hR hB b3 (by decide) k4 rfl ?_
  simp -implicitDefEqProofs
  refine Open_at hR hB k5 rfl ?_
  simp -implicitDefEqProofs
  refine Open_at hR hB k6 rfl ?_
  simp -implicitDefEqProofs
  refine Mac_at hR hB b4 (by decide) k7 rfl ?_
  simp -implicitDefEqProofs
  refine craft_Atom_nil hR _ (by decide) ?_
  simp -implicitDefEqProofs
  repeat (refine num14_ok ?_; simp -implicitDefEqProofs)
  refine IsMac_at hR hB (by decide) k8 rfl ?_
  simp -implicitDefEqProofs
  refine IsMac_at hR hB (by decide) k9 rfl ?_
  simp -implicitDefEqProofs
  refine IsHash_at hR hB (by decide) k10 rfl ?_
  simp -implicitDefEqProofs
  refine craft_IsHash_nil hR _ (by decide) _ ?_
  simp -implicitDefEqProofs
  refine Len_at hR hB k11 rfl ?_
  simp -implicitDefEqProofs
  exact Ans.rfl' _
theorem Crafts_ok (hR : R.Ok) (hB : HasBook R bk) (hB' : HasRBook R rbk) (most : Int) (a : AVal) (l : List Bs) (ha : IsStrs a l) (key : Int) (s : Bs) (hs : s.length < 9000000000000000000) (tag : Int) :
    Tri Pr R n_law3_Crafts [.int .i64 most, a, .int .i64 key, .str s, .int .i64 tag] [] fun u _ => u = .bool true := by
  apply c_law3_Crafts
  unfold p_law3_Crafts
  refine law3_twins_ok hR hB hB' most a l ha ?_
  by_cases hm : 1 ≤ most ∧ most ≤ 65536
  · rw [if_pos hm]
    intro ts b0
    simp -implicitDefEqProofs
    refine craft_IsHash_ok hR hB s hs tag rfl ?_
    refine craft_IsMac_ok hR hB key s hs tag rfl ?_
    refine craft_Open_ok hR hB key tag rfl ?_
    simp -implicitDefEqProofs
    refine ref1_Open_ok hR hB' key tag rfl ?_
    simp -implicitDefEqProofs
    refine ref1_IsHash_ok hR hB' b0 s hs tag rfl ?_
    simp -implicitDefEqProofs
    refine ref1_IsMac_ok hR hB' b0 key s hs tag rfl ?_
    simp -implicitDefEqProofs
    refine num14_ok ?_
    simp -implicitDefEqProofs
    refine same3_ok hR hB hB' b0 ?_
    simp -implicitDefEqProofs
    refine craft_Atom_ok hR hB b0 s hs rfl ?_
    simp -implicitDefEqProofs
    refine ref1_Atom_ok hR hB' b0 s hs rfl ?_
    simp -implicitDefEqProofs
    have b1 := cMade_ok (s := 65 :: s) b0
    generalize cMade most ts (65 :: s) = r1 at *
    refine craft_Hash_ok hR hB b1 s hs rfl ?_
    simp -implicitDefEqProofs
    refine ref1_Hash_ok hR hB' b1 s hs rfl ?_
    simp -implicitDefEqProofs
    have b2 := cMade_ok (s := 72 :: s) b1
    generalize cMade most r1.1 (72 :: s) = r2 at *
    refine craft_Mac_ok hR hB b2 key s hs rfl ?_
    simp -implicitDefEqProofs
    refine ref1_Mac_ok hR hB' b2 key s hs rfl ?_
    simp -implicitDefEqProofs
    have b3 := cKey_ok (k := 77) (key := key) (s := s) b2
    generalize cKey most r2.1 77 key s = r3 at *
    refine craft_Seal_ok hR hB b3 key s hs rfl ?_
    simp -implicitDefEqProofs
    refine ref1_Seal_ok hR hB' b3 key s hs rfl ?_
    simp -implicitDefEqProofs
    have b4 := cKey_ok (k := 83) (key := key) (s := s) b3
    generalize cKey most r3.1 83 key s = r4 at *
    repeat (refine num14_ok ?_; simp -implicitDefEqProofs)
    refine same3_ok hR hB hB' b4 ?_
    simp -implicitDefEqProofs
    refine awake3_ok hR hB hB' ?_
    simp -implicitDefEqProofs
  · rw [if_neg hm]
    simp -implicitDefEqProofs
    refine awake3_ok hR hB hB' ?_
    simp -implicitDefEqProofs
end
end Go.AI
