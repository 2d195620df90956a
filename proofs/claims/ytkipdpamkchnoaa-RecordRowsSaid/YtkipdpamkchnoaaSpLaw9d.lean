/- RecordTorn. -/
import Derived.Test.YtkipdpamkchnoaaSpLaw9c
set_option linter.all false
namespace Go.AI
variable {A : Type} {R : Adts A}
theorem bTerm_two {u v s : Bs} {n : Int} (h : bTerm [u, v] n = (s, 0)) : (n = 0 ∧ s = u) ∨ (n = 1 ∧ s = v) := by
  unfold bTerm at h
  split at h
  · rename_i h1
    have : n = 0 ∨ n = 1 := by simp at h1; omega
    rcases this with rfl | rfl
    · simp at h; exact .inl ⟨rfl, h.symm⟩
    · simp at h; exact .inr ⟨rfl, h.symm⟩
  · simp at h
theorem recT_inj {r q : Rec} (h : recT r = recT q) : recBody r = recBody q := by simpa [recT] using h
/-- Of two records each sector is read as itself; all else is none. -/
theorem recRead_two {x y : Rec} (hx : recMay x = true) (hy : recMay y = true) (hne : recT x ≠ recT y) (u : Bs) : recRead [recT x, recT y] u = if u = pad (recBody y ++ nS 1) then some (y, 1) else if u = pad (recBody x ++ nS 0) then some (x, 0) else none := by
  have hn : [recT x, recT y].Nodup := by simp [hne]
  have lx := recBody_len hx
  have ly := recBody_len hy
  have gy : recRead [recT x, recT y] (pad (recBody y ++ nS 1)) = some (y, 1) := recRead_dec hn hy rfl rfl (by simp [nS, nMay, nE]; omega)
  have gx : recRead [recT x, recT y] (pad (recBody x ++ nS 0)) = some (x, 0) := recRead_dec hn hx rfl rfl (by simp [nS, nMay, nE]; omega)
  split
  · rename_i h; rw [h]; exact gy
  · rename_i h1
    split
    · rename_i h; rw [h]; exact gx
    · rename_i h2
      cases e : recRead [recT x, recT y] u with
      | none => rfl
      | some p =>
        obtain ⟨r, n⟩ := p
        obtain ⟨e1, e2, e3, e4⟩ := recRead_enc hn e
        exfalso
        rcases bTerm_two e3 with ⟨rfl, e5⟩ | ⟨rfl, e5⟩
        · exact h2 (by rw [e4, recT_inj e5])
        · exact h1 (by rw [e4, recT_inj e5])
/-- The fourth byte of a first record is its boot. -/
theorem rec_boot {b : Int} {e : Ev} {n : Int} (hb : 1 ≤ b ∧ b ≤ 3) : (pad (recBody ⟨1, b, 0, e⟩ ++ nS n))[3]? = some (bb b) := by
  have e1 : nS b = [1, bb b] := by
    have : nMay b = true := by simp [nMay]; omega
    simp only [nS, this, if_true, nE]
    rw [if_neg (by omega), if_pos (by omega)]
  have e2 : nS 1 = [1, 1] := by decide
  simp [pad, recBody, nAll, e1, e2]
theorem recT_boots {a c : Ev} {b : Int} (hb : 1 ≤ b ∧ b ≤ 2) : recT ⟨1, b, 0, a⟩ ≠ recT ⟨1, 3, 0, c⟩ := by
  intro h
  have h1 := recT_inj h
  have h2 := rec_boot (b := b) (e := a) (n := 0) (by omega)
  have h3 := rec_boot (b := 3) (e := c) (n := 0) (by omega)
  rw [h1] at h2
  rw [h3] at h2
  have : b = 1 ∨ b = 2 := by omega
  rcases this with rfl | rfl <;> simp [bb] at h2
/-- What is torn over zeros is not the other record. -/
theorem torn_zero {a c : Ev} {b : Int} (hb : 1 ≤ b ∧ b ≤ 2) (k n m : Nat) : (pad (recBody ⟨1, 3, 0, c⟩ ++ nS 1)).take k ++ List.replicate n 0 ≠ pad (recBody ⟨1, b, 0, a⟩ ++ nS 0) := by
  intro h
  have h2 := rec_boot (b := b) (e := a) (n := 0) (by omega)
  have h3 := rec_boot (b := 3) (e := c) (n := 1) (by omega)
  rw [← h] at h2
  have hbb : bb b = 1 ∨ bb b = 2 := by
    have : b = 1 ∨ b = 2 := by omega
    rcases this with rfl | rfl <;> simp [bb]
  by_cases hk : 4 ≤ k
  · rw [List.getElem?_append_left (by rw [List.length_take]; have := (List.getElem?_eq_some_iff.1 h3).1; omega), List.getElem?_take, if_pos (by omega), h3] at h2
    rcases hbb with e | e <;> rw [e] at h2 <;> simp [bb] at h2
  · have hl : ((pad (recBody ⟨1, 3, 0, c⟩ ++ nS 1)).take k).length ≤ 3 := by rw [List.length_take]; omega
    rw [List.getElem?_append_right hl, List.getElem?_replicate] at h2
    split at h2
    · rcases hbb with e | e <;> rw [e] at h2 <;> simp at h2
    · simp at h2
theorem recGet_two {x y : Rec} (hx : recMay x = true) (hy : recMay y = true) (hne : recT x ≠ recT y) (u : Bs) {q p : Int} (h1 : x.seq = q ∧ x.prev = p) (h2 : y.seq = q ∧ y.prev = p) : recGet [recT x, recT y] u q p = if u = pad (recBody y ++ nS 1) then (y, 1, 0) else if u = pad (recBody x ++ nS 0) then (x, 0, 0) else (rec0, 0, 900) := by
  unfold recGet
  rw [recRead_two hx hy hne]
  by_cases e1 : u = pad (recBody y ++ nS 1)
  · rw [if_pos e1, if_pos e1]; simp [h2]
  · rw [if_neg e1, if_neg e1]
    by_cases e2 : u = pad (recBody x ++ nS 0)
    · rw [if_pos e2, if_pos e2]; simp [h1]
    · rw [if_neg e2, if_neg e2]
section
variable {bk rbk : Int → List Bs → A}
theorem RecordTorn_ok (hR : R.Ok) (hB : HasBook R bk) (hB' : HasRBook R rbk) (a c : Ev) (torn boots : Int) : Tri Pr R n_law9_RecordTorn [.agg a.row, .agg c.row, .int .i64 torn, .int .i64 boots] [] fun u _ => u = .bool true := by
  apply c_law9_RecordTorn
  unfold p_law9_RecordTorn
  rw [reps11]
  simp -implicitDefEqProofs [Ev.row]
  refine awake9_ok hR hB hB' ?_
  simp -implicitDefEqProofs
  refine book_New_ok hR hB 9 ?_
  rw [if_pos (by omega)]
  simp -implicitDefEqProofs
  refine num14_ok ?_
  rw [bits_mask boots 1 (by omega) 1 (by decide), bits_mask torn 6 (by omega) 63 (by decide)]
  obtain ⟨b, hb, b1, b2⟩ : ∃ b, 1 + boots % 2 ^ 1 = b ∧ 1 ≤ b ∧ b ≤ 2 := ⟨_, rfl, by omega, by omega⟩
  obtain ⟨k, hk, k1⟩ : ∃ k : Nat, torn % 2 ^ 6 = (k : Int) ∧ k < 64 := ⟨(torn % 2 ^ 6).toNat, by omega, by omega⟩
  rw [hb, hk]
  simp -implicitDefEqProofs [w64 (n := b) (by omega)]
  have b0 : bOk 9 [] := bOk_nil (by omega)
  have hey : (⟨1, 3, 0, c⟩ : Rec).row = (⟨1, 3, 0, c⟩ : Rec).row := rfl
  by_cases hx : recMay ⟨1, b, 0, a⟩ = true
  · by_cases hy : recMay ⟨1, 3, 0, c⟩ = true
    · have hne := recT_boots (a := a) (c := c) (b := b) ⟨b1, b2⟩
      have k1 := recPut_new (m := 9) (ts := []) hx (by simp) (by simp) (by simp)
      have k2 := recPut_new (m := 9) (ts := [recT ⟨1, b, 0, a⟩]) hy (by simpa using hne.symm) (by simp) (by simp)
      have hz := fun n => torn_zero (a := a) (c := c) (b := b) ⟨b1, b2⟩ k n 0
      have hg := fun u => recGet_two hx hy hne u (q := 1) (p := 0) ⟨rfl, rfl⟩ ⟨rfl, rfl⟩
      have z0 : (([] : List Bs).length : Int) = 0 := rfl
      have z1 : (([recT ⟨1, b, 0, a⟩] : List Bs).length : Int) = 1 := rfl
      rw [z0, List.nil_append] at k1
      rw [z1, List.singleton_append] at k2
      have bb1 := bOk_rput b0 k1
      have bb2 := bOk_rput bb1 k2
      have l0 := recBody_len hx
      have l1 := recBody_len hy
      obtain ⟨s, hs⟩ : ∃ s, pad (recBody ⟨1, b, 0, a⟩ ++ nS 0) = s := ⟨_, rfl⟩
      obtain ⟨t, ht⟩ : ∃ s, pad (recBody ⟨1, 3, 0, c⟩ ++ nS 1) = s := ⟨_, rfl⟩
      have hl : s.length = 64 := by rw [← hs, pad_len]; simp [nS, nMay, nE]; omega
      have hl2 : t.length = 64 := by rw [← ht, pad_len]; simp [nS, nMay, nE]; omega
      rw [hs] at k1 hz
      rw [ht] at k2 hz
      simp only [hs, ht] at hg
      have hst : s ≠ t := by
        intro e
        have h2 := rec_boot (b := b) (e := a) (n := 0) (by omega)
        have h3 := rec_boot (b := 3) (e := c) (n := 1) (by omega)
        rw [hs, e, ← ht, h3] at h2
        have : b = 1 ∨ b = 2 := by omega
        rcases this with rfl | rfl <;> simp [bb] at h2
      obtain ⟨ts, hts⟩ : ∃ ts, [recT ⟨1, b, 0, a⟩, recT ⟨1, 3, 0, c⟩] = ts := ⟨_, rfl⟩
      obtain ⟨ts1, hts1⟩ : ∃ ts, [recT ⟨1, b, 0, a⟩] = ts := ⟨_, rfl⟩
      simp only [hts, hts1] at k1 k2 bb1 bb2 hg
      clear hs ht hts hts1 z0 z1 hne
      refine RPut_at (r := ⟨1, b, 0, a⟩) hR hB b0 k1 rfl ?_
      simp -implicitDefEqProofs
      refine RPut_at (r := ⟨1, 3, 0, c⟩) hR hB bb1 k2 rfl ?_
      simp -implicitDefEqProofs
      repeat (refine num14_ok ?_; simp -implicitDefEqProofs)
      have hn : 0 ≤ (64 : Int) - k ∧ (64 : Int) - k ≤ 140737488355328 := by omega
      have hk1 : (k : Int) ≤ (t.length : Int) := by omega
      have hk2 : (k : Int) ≤ (s.length : Int) := by omega
      have hk3 : k ≤ 64 := by omega
      have hk4 : (k : Int) ≤ 64 := by omega
      simp -implicitDefEqProofs [hl, hl2, w64 (n := 64 - (k : Int)) (by omega), hk3, hk4]
      refine mkz_ok hn ?_
      obtain ⟨o, ho⟩ : ∃ o : AObj A, .cells t_uint8 (zCells ((64 : Int) - k).toNat) = o := ⟨_, rfl⟩
      rw [ho]
      clear ho
      have hz1 := hz (64 - k)
      have ez : ((64 : Int) - k).toNat = 64 - k := by omega
      rw [ez]
      obtain ⟨u1, hu1⟩ : ∃ u, List.take k t ++ List.replicate (64 - k) 0 = u := ⟨_, rfl⟩
      obtain ⟨u2, hu2⟩ : ∃ u, List.take k t ++ List.drop k s = u := ⟨_, rfl⟩
      have lu1 : u1.length = 64 := by rw [← hu1]; simp; omega
      have lu2 : u2.length = 64 := by rw [← hu2]; simp; omega
      rw [hu1] at hz1
      simp -implicitDefEqProofs [hl, hl2, hk3, hk4, hu1, hu2]
      obtain ⟨⟨r1, n1, e1⟩, g1⟩ : ∃ p, recGet ts u1 1 0 = p := ⟨_, rfl⟩
      obtain ⟨⟨r2, n2, e2⟩, g2⟩ : ∃ p, recGet ts u2 1 0 = p := ⟨_, rfl⟩
      have g1' := hg u1
      have g2' := hg u2
      rw [g1, if_neg hz1] at g1'
      rw [g2] at g2'
      refine RGet_at hR hB (by omega) g1 rfl ?_
      simp -implicitDefEqProofs [Rec.row, Ev.row]
      refine RGet_at hR hB (by omega) g2 rfl ?_
      simp -implicitDefEqProofs [Rec.row, Ev.row]
      refine num14_ok ?_
      have hsc := shRec ⟨1, 3, 0, c⟩ ⟨1, 3, 0, c⟩
      have hsa := shRec ⟨1, b, 0, a⟩ ⟨1, b, 0, a⟩
      simp only [Rec.row, Ev.row] at hsc hsa
      have hst1 : (s == t) = false := beq_eq_false_iff_ne.2 hst
      have hst2 : (s != t) = true := by simp [hst]
      clear hg hz hz1 hu1 hu2 hB' b0 bb1 bb2 k1 k2 g1 g2
      by_cases e : u1 = t
      · rw [if_pos e] at g1'
        simp only [Prod.mk.injEq] at g1'
        obtain ⟨rfl, rfl, rfl⟩ := g1'
        simp -implicitDefEqProofs [e, hsc]
        refine num14_ok ?_
        by_cases e3 : u2 = t
        · rw [if_pos e3] at g2'
          simp only [Prod.mk.injEq] at g2'
          obtain ⟨rfl, rfl, rfl⟩ := g2'
          simp -implicitDefEqProofs [e3, hsc]
        · rw [if_neg e3] at g2'
          by_cases e4 : u2 = s
          · rw [if_pos e4] at g2'
            simp only [Prod.mk.injEq] at g2'
            obtain ⟨rfl, rfl, rfl⟩ := g2'
            simp -implicitDefEqProofs [e4, hst1, hst2, hsa]
          · rw [if_neg e4] at g2'
            simp only [Prod.mk.injEq] at g2'
            obtain ⟨rfl, rfl, rfl⟩ := g2'
            simp -implicitDefEqProofs [show (u2 == t) = false from beq_eq_false_iff_ne.2 e3, show (u2 == s) = false from beq_eq_false_iff_ne.2 e4, show (u2 != t) = true from by simp [e3], show (u2 != s) = true from by simp [e4]]
      · rw [if_neg e] at g1'
        simp only [Prod.mk.injEq] at g1'
        obtain ⟨rfl, rfl, rfl⟩ := g1'
        simp -implicitDefEqProofs [show (u1 == t) = false from beq_eq_false_iff_ne.2 e, show (u1 != t) = true from by simp [e], hsc]
        refine num14_ok ?_
        by_cases e3 : u2 = t
        · rw [if_pos e3] at g2'
          simp only [Prod.mk.injEq] at g2'
          obtain ⟨rfl, rfl, rfl⟩ := g2'
          simp -implicitDefEqProofs [e3, hsc]
        · rw [if_neg e3] at g2'
          by_cases e4 : u2 = s
          · rw [if_pos e4] at g2'
            simp only [Prod.mk.injEq] at g2'
            obtain ⟨rfl, rfl, rfl⟩ := g2'
            simp -implicitDefEqProofs [e4, hst1, hst2, hsa]
          · rw [if_neg e4] at g2'
            simp only [Prod.mk.injEq] at g2'
            obtain ⟨rfl, rfl, rfl⟩ := g2'
            simp -implicitDefEqProofs [show (u2 == t) = false from beq_eq_false_iff_ne.2 e3, show (u2 == s) = false from beq_eq_false_iff_ne.2 e4, show (u2 != t) = true from by simp [e3], show (u2 != s) = true from by simp [e4]]
    · have k1 := recPut_new (m := 9) (ts := []) hx (by simp) (by simp) (by simp)
      have z0 : (([] : List Bs).length : Int) = 0 := rfl
      rw [z0, List.nil_append] at k1
      have bb1 := bOk_rput b0 k1
      have k2 := recPut_bad (m := 9) (ts := [recT ⟨1, b, 0, a⟩]) hy
      refine RPut_at (r := ⟨1, b, 0, a⟩) hR hB b0 k1 rfl ?_
      simp -implicitDefEqProofs
      refine RPut_at (r := ⟨1, 3, 0, c⟩) hR hB bb1 k2 rfl ?_
      simp -implicitDefEqProofs
      repeat (refine num14_ok ?_; simp -implicitDefEqProofs)
  · have k1 := recPut_bad (m := 9) (ts := []) hx
    refine RPut_at (r := ⟨1, b, 0, a⟩) hR hB b0 k1 rfl ?_
    obtain ⟨q, s2, n2, e2, h2⟩ : ∃ q s2 n2 e2, recPut 9 [] ⟨1, 3, 0, c⟩ = (q, s2, n2, e2) := ⟨_, _, _, _, rfl⟩
    simp -implicitDefEqProofs
    refine RPut_at (r := ⟨1, 3, 0, c⟩) hR hB b0 h2 rfl ?_
    simp -implicitDefEqProofs
    refine num14_ok ?_
    simp -implicitDefEqProofs
end
end Go.AI
