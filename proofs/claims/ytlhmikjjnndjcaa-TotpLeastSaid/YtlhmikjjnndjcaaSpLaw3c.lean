/- CraftUnlike. -/
import Derived.Test.YtlhmikjjnndjcaaSpLaw3b
set_option linter.all false
namespace Go.AI
variable {A : Type} {R : Adts A}
theorem bFind_cons (a : Bs) (r : List Bs) (s : Bs) : bFind (a :: r) s = if a = s then some 0 else (bFind r s).map (· + 1) := by
  by_cases h : a = s
  · subst h; simp [bFind, List.idxOf?, List.findIdx?_cons]
  · simp [bFind, List.idxOf?, List.findIdx?_cons, h]
theorem bFind_nil (s : Bs) : bFind [] s = none := rfl
/-- What is within a seal. -/
theorem cOpen_seal {ts : List Bs} {q x tag : Int} {s : Bs} (hx : nMay x = true) (hq : nMay q = true) (ht : bTerm ts tag = (83 :: (nS x ++ s), 0)) : cOpen ts q tag = if q = x then (s, 0) else ([], 301) := by
  unfold cOpen
  rw [ht]
  by_cases h : q = x
  · subst h
    rw [if_pos rfl, if_pos ⟨hq, rfl, by simp, by simp⟩]
    simp
  · rw [if_neg h, if_neg]
    rintro ⟨_, _, h1, h2⟩
    simp at h2
    have h3 : nS q ++ (nS x ++ s).drop (nS q).length = nS x ++ s := by
      conv => rhs; rw [← List.take_append_drop (nS q).length (nS x ++ s)]
      rw [h2]
    exact h (nS_head hq hx h3).1
theorem cKey_new {m : Int} {ts : List Bs} {k : UInt8} {x : Int} {s : Bs} (hx : nMay x = true) (hs : s.length ≤ 100) (h3 : (k :: (nS x ++ s)) ∉ ts) (h4 : (ts.length : Int) < m) : cKey m ts k x s = (ts ++ [k :: (nS x ++ s)], (ts.length : Int), 0) := by
  have := nS_len x
  rw [cKey, if_pos hx, cMade_new (by simp) (by simp; omega) h3 h4]
theorem cKey_old {m : Int} {ts : List Bs} {k : UInt8} {x : Int} {s : Bs} (hx : nMay x = true) (hs : s.length ≤ 100) {i : Nat} (h3 : bFind ts (k :: (nS x ++ s)) = some i) : cKey m ts k x s = (ts, (i : Int), 0) := by
  have := nS_len x
  rw [cKey, if_pos hx, cMade_old (by simp) (by simp; omega) h3]
section
variable {bk rbk : Int → List Bs → A}
theorem CraftUnlike_ok (hR : R.Ok) (hB : HasBook R bk) (hB' : HasRBook R rbk) (a b : Int) (s t : Bs) : Tri Pr R n_law3_CraftUnlike [.int .i64 a, .int .i64 b, .str s, .str t] [] fun u _ => u = .bool true := by
  apply c_law3_CraftUnlike
  unfold p_law3_CraftUnlike
  refine awake3_ok hR hB hB' ?_
  by_cases hs' : (100 : Int) < s.length
  · simp -implicitDefEqProofs [hs']
  by_cases ht' : (100 : Int) < t.length
  · simp -implicitDefEqProofs [hs', ht']
  have hs : s.length ≤ 100 := by omega
  have ht : t.length ≤ 100 := by omega
  simp -implicitDefEqProofs [hs', ht']
  refine law3_twin_ok hR hB hB' 100 ?_
  rw [if_pos (by omega)]
  simp -implicitDefEqProofs
  rw [bits_mask a 30 (by omega) 1073741823 (by decide), bits_mask b 30 (by omega) 1073741823 (by decide)]
  obtain ⟨x, hx, x0⟩ : ∃ q, a % 2 ^ 30 = q ∧ nMay q = true := ⟨_, rfl, by simp [nMay]; omega⟩
  obtain ⟨y, hy, y0⟩ : ∃ q, b % 2 ^ 30 = q ∧ nMay q = true := ⟨_, rfl, by simp [nMay]; omega⟩
  rw [hx, hy]
  have b0 : bOk 100 [] := bOk_nil (by omega)
  have hE : nS x ++ s = nS y ++ t ↔ x = y ∧ s = t := ⟨fun h => nS_head x0 y0 h, fun ⟨h1, h2⟩ => by rw [h1, h2]⟩
  have hE' : nS y ++ t = nS x ++ s ↔ x = y ∧ s = t := by rw [eq_comm, hE]
  by_cases hsame : x = y ∧ s = t
  · obtain ⟨rfl, rfl⟩ := hsame
    have k1 : cKey 100 [] 77 x s = ([77 :: (nS x ++ s)], 0, 0) := cKey_new x0 hs (by simp) (by simp)
    have b1 := bOk_key b0 k1
    have k2 : cKey 100 [77 :: (nS x ++ s)] 77 x s = ([77 :: (nS x ++ s)], 0, 0) := cKey_old x0 hs (i := 0) (by simp [bFind_cons])
    have k3 : cKey 100 [77 :: (nS x ++ s)] 83 x s = ([77 :: (nS x ++ s), 83 :: (nS x ++ s)], 1, 0) := cKey_new x0 hs (by simp) (by simp)
    have b3 := bOk_key b1 k3
    have k4 : cKey 100 [77 :: (nS x ++ s), 83 :: (nS x ++ s)] 83 x s = ([77 :: (nS x ++ s), 83 :: (nS x ++ s)], 1, 0) := cKey_old x0 hs (i := 1) (by simp [bFind_cons])
    have k5 : cMade 100 [77 :: (nS x ++ s), 83 :: (nS x ++ s)] (72 :: s) = ([77 :: (nS x ++ s), 83 :: (nS x ++ s), 72 :: s], 2, 0) := cMade_new (by simp) (by simp; omega) (by simp) (by simp)
    have b5 := bOk_at b3 k5
    have k6 : cMade 100 [77 :: (nS x ++ s), 83 :: (nS x ++ s), 72 :: s] (65 :: s) = ([77 :: (nS x ++ s), 83 :: (nS x ++ s), 72 :: s, 65 :: s], 3, 0) := cMade_new (by simp) (by simp; omega) (by simp) (by simp)
    have k7 : cOpen [77 :: (nS x ++ s), 83 :: (nS x ++ s), 72 :: s, 65 :: s] x 1 = (s, 0) := by rw [cOpen_seal x0 x0 (x := x) (s := s) (by simp [bTerm])]; simp
    have k8 : cIsMac [77 :: (nS x ++ s), 83 :: (nS x ++ s), 72 :: s, 65 :: s] x s 0 = true := by simp [cIsMac, cIs, x0, bFind_cons]
    have k9 : cIsMac [77 :: (nS x ++ s), 83 :: (nS x ++ s), 72 :: s, 65 :: s] x s 1 = false := by simp [cIsMac, cIs, x0, bFind_cons]
    have k10 : cIs [77 :: (nS x ++ s), 83 :: (nS x ++ s), 72 :: s, 65 :: s] (72 :: s) 2 = true := by simp [cIs, bFind_cons]
    have hs1000 : s.length < 1000 := by omega
    generalize [77 :: (nS x ++ s), 83 :: (nS x ++ s), 72 :: s, 65 :: s] = T4 at *
    generalize [77 :: (nS x ++ s), 83 :: (nS x ++ s), 72 :: s] = T3 at *
    generalize [77 :: (nS x ++ s), 83 :: (nS x ++ s)] = T2 at *
    generalize [77 :: (nS x ++ s)] = T1 at *
    refine Mac_at hR hB b0 hs1000 k1 rfl ?_
    simp -implicitDefEqProofs
    refine Mac_at hR hB b1 hs1000 k2 rfl ?_
    simp -implicitDefEqProofs
    refine Seal_at hR hB b1 hs1000 k3 rfl ?_
    simp -implicitDefEqProofs
    refine Seal_at hR hB b3 hs1000 k4 rfl ?_
    simp -implicitDefEqProofs
    refine Hash_at hR hB b3 hs1000 k5 rfl ?_
    simp -implicitDefEqProofs
    refine Atom_at hR hB b5 hs1000 k6 rfl ?_
    simp -implicitDefEqProofs
    repeat (refine num14_ok ?_; simp -implicitDefEqProofs)
    refine Open_at hR hB k7 rfl ?_
    simp -implicitDefEqProofs
    refine Open_at hR hB k7 rfl ?_
    simp -implicitDefEqProofs
    refine IsMac_at hR hB hs1000 k8 rfl ?_
    simp -implicitDefEqProofs
    refine IsMac_at hR hB hs1000 k8 rfl ?_
    simp -implicitDefEqProofs
    refine IsMac_at hR hB hs1000 k9 rfl ?_
    simp -implicitDefEqProofs
    refine IsHash_at hR hB hs1000 k10 rfl ?_
    simp -implicitDefEqProofs
    refine IsHash_at hR hB hs1000 k10 rfl ?_
    simp -implicitDefEqProofs
    repeat (refine num14_ok ?_; simp -implicitDefEqProofs)
  · have hn1 : ¬ (nS x ++ s = nS y ++ t) := fun h => hsame (hE.1 h)
    have hn2 : ¬ (nS y ++ t = nS x ++ s) := fun h => hsame (hE'.1 h)
    have k1 : cKey 100 [] 77 x s = ([77 :: (nS x ++ s)], 0, 0) := cKey_new x0 hs (by simp) (by simp)
    have b1 := bOk_key b0 k1
    have k2 : cKey 100 [77 :: (nS x ++ s)] 77 y t = ([77 :: (nS x ++ s), 77 :: (nS y ++ t)], 1, 0) := cKey_new y0 ht (by simp [hn2]) (by simp)
    have b2 := bOk_key b1 k2
    have k3 : cKey 100 [77 :: (nS x ++ s), 77 :: (nS y ++ t)] 83 x s = ([77 :: (nS x ++ s), 77 :: (nS y ++ t), 83 :: (nS x ++ s)], 2, 0) := cKey_new x0 hs (by simp) (by simp)
    have b3 := bOk_key b2 k3
    have k4 : cKey 100 [77 :: (nS x ++ s), 77 :: (nS y ++ t), 83 :: (nS x ++ s)] 83 y t = ([77 :: (nS x ++ s), 77 :: (nS y ++ t), 83 :: (nS x ++ s), 83 :: (nS y ++ t)], 3, 0) := cKey_new y0 ht (by simp [hn2]) (by simp)
    have b4 := bOk_key b3 k4
    have k5 : cMade 100 [77 :: (nS x ++ s), 77 :: (nS y ++ t), 83 :: (nS x ++ s), 83 :: (nS y ++ t)] (72 :: s) = ([77 :: (nS x ++ s), 77 :: (nS y ++ t), 83 :: (nS x ++ s), 83 :: (nS y ++ t), 72 :: s], 4, 0) := cMade_new (by simp) (by simp; omega) (by simp) (by simp)
    have b5 := bOk_at b4 k5
    have k6 : cMade 100 [77 :: (nS x ++ s), 77 :: (nS y ++ t), 83 :: (nS x ++ s), 83 :: (nS y ++ t), 72 :: s] (65 :: s) = ([77 :: (nS x ++ s), 77 :: (nS y ++ t), 83 :: (nS x ++ s), 83 :: (nS y ++ t), 72 :: s, 65 :: s], 5, 0) := cMade_new (by simp) (by simp; omega) (by simp) (by simp)
    have k7 : cOpen [77 :: (nS x ++ s), 77 :: (nS y ++ t), 83 :: (nS x ++ s), 83 :: (nS y ++ t), 72 :: s, 65 :: s] x 2 = (s, 0) := by rw [cOpen_seal x0 x0 (x := x) (s := s) (by simp [bTerm])]; simp
    have k7' : cOpen [77 :: (nS x ++ s), 77 :: (nS y ++ t), 83 :: (nS x ++ s), 83 :: (nS y ++ t), 72 :: s, 65 :: s] y 2 = ((if y = x then (s, 0) else ([], 301) : Bs × Int).1, if y = x then 0 else 301) := by rw [cOpen_seal x0 y0 (x := x) (s := s) (by simp [bTerm])]; split <;> rfl
    have k8 : cIsMac [77 :: (nS x ++ s), 77 :: (nS y ++ t), 83 :: (nS x ++ s), 83 :: (nS y ++ t), 72 :: s, 65 :: s] x s 0 = true := by simp [cIsMac, cIs, x0, bFind_cons]
    have k8' : cIsMac [77 :: (nS x ++ s), 77 :: (nS y ++ t), 83 :: (nS x ++ s), 83 :: (nS y ++ t), 72 :: s, 65 :: s] y t 0 = false := by simp [cIsMac, cIs, y0, bFind_cons, hn1]
    have k9 : cIsMac [77 :: (nS x ++ s), 77 :: (nS y ++ t), 83 :: (nS x ++ s), 83 :: (nS y ++ t), 72 :: s, 65 :: s] x s 2 = false := by simp [cIsMac, cIs, x0, bFind_cons]
    have k10 : cIs [77 :: (nS x ++ s), 77 :: (nS y ++ t), 83 :: (nS x ++ s), 83 :: (nS y ++ t), 72 :: s, 65 :: s] (72 :: s) 4 = true := by simp [cIs, bFind_cons]
    have k10' : cIs [77 :: (nS x ++ s), 77 :: (nS y ++ t), 83 :: (nS x ++ s), 83 :: (nS y ++ t), 72 :: s, 65 :: s] (72 :: t) 4 = (s == t) := by
      by_cases h : s = t
      · subst h; simp [cIs, bFind_cons]
      · simp [cIs, bFind_cons, bFind_nil, h]
    have hs1000 : s.length < 1000 := by omega
    have ht1000 : t.length < 1000 := by omega
    have hx1 : (x == y && s == t) = false := by simpa using hsame
    generalize [77 :: (nS x ++ s), 77 :: (nS y ++ t), 83 :: (nS x ++ s), 83 :: (nS y ++ t), 72 :: s, 65 :: s] = T6 at *
    generalize [77 :: (nS x ++ s), 77 :: (nS y ++ t), 83 :: (nS x ++ s), 83 :: (nS y ++ t), 72 :: s] = T5 at *
    generalize [77 :: (nS x ++ s), 77 :: (nS y ++ t), 83 :: (nS x ++ s), 83 :: (nS y ++ t)] = T4 at *
    generalize [77 :: (nS x ++ s), 77 :: (nS y ++ t), 83 :: (nS x ++ s)] = T3 at *
    generalize [77 :: (nS x ++ s), 77 :: (nS y ++ t)] = T2 at *
    generalize [77 :: (nS x ++ s)] = T1 at *
    refine Mac_at hR hB b0 hs1000 k1 rfl ?_
    simp -implicitDefEqProofs
    refine Mac_at hR hB b1 ht1000 k2 rfl ?_
    simp -implicitDefEqProofs
    refine Seal_at hR hB b2 hs1000 k3 rfl ?_
    simp -implicitDefEqProofs
    refine Seal_at hR hB b3 ht1000 k4 rfl ?_
    simp -implicitDefEqProofs
    refine Hash_at hR hB b4 hs1000 k5 rfl ?_
    simp -implicitDefEqProofs
    refine Atom_at hR hB b5 hs1000 k6 rfl ?_
    have fin : ∀ (c1 : Bool), c1 = false → True := fun _ _ => trivial
    by_cases hxy : x = y
    · have hst : (s == t) = false := by simp; exact fun h => hsame ⟨hxy, h⟩
      have hxy' : (x == y) = true := by simpa using hxy
      simp -implicitDefEqProofs [hxy', hst]
      repeat (refine num14_ok ?_; simp -implicitDefEqProofs)
      refine Open_at hR hB k7 rfl ?_
      simp -implicitDefEqProofs
      refine Open_at hR hB k7' rfl ?_
      simp -implicitDefEqProofs
      refine IsMac_at hR hB hs1000 k8 rfl ?_
      simp -implicitDefEqProofs
      refine IsMac_at hR hB ht1000 k8' rfl ?_
      simp -implicitDefEqProofs
      refine IsMac_at hR hB hs1000 k9 rfl ?_
      simp -implicitDefEqProofs
      refine IsHash_at hR hB hs1000 k10 rfl ?_
      simp -implicitDefEqProofs
      refine IsHash_at hR hB ht1000 k10' rfl ?_
      simp -implicitDefEqProofs [hst]
      repeat (refine num14_ok ?_; simp -implicitDefEqProofs [hxy])
    · have hxy' : (x == y) = false := by simpa using hxy
      have hyx : ¬ y = x := fun h => hxy h.symm
      simp -implicitDefEqProofs [hxy']
      repeat (refine num14_ok ?_; simp -implicitDefEqProofs)
      refine Open_at hR hB k7 rfl ?_
      simp -implicitDefEqProofs
      refine Open_at hR hB k7' rfl ?_
      simp -implicitDefEqProofs
      refine IsMac_at hR hB hs1000 k8 rfl ?_
      simp -implicitDefEqProofs
      refine IsMac_at hR hB ht1000 k8' rfl ?_
      simp -implicitDefEqProofs
      refine IsMac_at hR hB hs1000 k9 rfl ?_
      simp -implicitDefEqProofs
      refine IsHash_at hR hB hs1000 k10 rfl ?_
      simp -implicitDefEqProofs
      refine IsHash_at hR hB ht1000 k10' rfl ?_
      simp -implicitDefEqProofs
      repeat (refine num14_ok ?_; simp -implicitDefEqProofs [hyx])
end
end Go.AI
