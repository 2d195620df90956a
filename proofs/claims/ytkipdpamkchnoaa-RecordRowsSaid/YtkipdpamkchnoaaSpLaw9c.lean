/- RecordBack. -/
import Derived.Test.YtkipdpamkchnoaaSpLaw9b
set_option linter.all false
namespace Go.AI
variable {A : Type} {R : Adts A}
theorem bTerm_one {u s : Bs} {n : Int} (h : bTerm [u] n = (s, 0)) : n = 0 ∧ s = u := by
  unfold bTerm at h
  split at h
  · rename_i h1
    have : n = 0 := by simp at h1; omega
    subst this
    simp at h
    exact ⟨rfl, h.symm⟩
  · simp at h
theorem bytes_mapM (t : Bs) : (t.map fun b => AVal.int .u8 b.toNat).mapM byteOf = some t := by
  induction t with
  | nil => rfl
  | cons c t ih => rw [List.map_cons, List.mapM_cons, ih]; simp [byteOf]
theorem recRead_own {x : Rec} {t : Bs} (h : t ≠ pad (recBody x ++ nS 0)) : recRead [recT x] t = none := by
  cases e : recRead [recT x] t with
  | none => rfl
  | some p =>
    obtain ⟨r, n⟩ := p
    obtain ⟨h1, h2, h3, h4⟩ := recRead_enc (by simp) e
    exfalso
    apply h
    have e1 := bTerm_one h3
    obtain ⟨rfl, e2⟩ := e1
    have e3 : recBody r = recBody x := by simpa [recT] using e2
    rw [h4, e3]
theorem recGet_none {ts : List Bs} {s : Bs} {seq prev : Int} (h : recRead ts s = none) : recGet ts s seq prev = (rec0, 0, 900) := by unfold recGet; rw [h]
theorem recPut_new {m : Int} {ts : List Bs} {r : Rec} (h : recMay r = true) (h3 : recT r ∉ ts) (h4 : (ts.length : Int) < m) (h5 : ts.length < 256) : recPut m ts r = (ts ++ [recT r], pad (recBody r ++ nS (ts.length : Int)), (ts.length : Int), 0) := by
  have h2 := recBody_len h
  have h1 : cMade m ts (recT r) = (ts ++ [recT r], (ts.length : Int), 0) := cMade_new (by simp [recT]) (by simp [recT]; omega) h3 h4
  have e : (nS (ts.length : Int)).length ≤ 2 := by
    have : nMay (ts.length : Int) = true := by simp [nMay]; omega
    simp only [nS, this, if_true, nE]
    split
    · simp
    · rw [if_pos (by omega)]; simp
  unfold recPut
  rw [if_pos h, h1]
  simp only [if_true]
  rw [if_pos (by rw [List.length_append]; omega)]
theorem bits_xor8 (a : UInt8) (d : Int) (h : 1 ≤ d ∧ d ≤ 128) : ∃ c : UInt8, bits .u8 (· ^^^ ·) (a.toNat : Int) d = (c.toNat : Int) ∧ c ≠ a := by
  obtain ⟨n, rfl⟩ := Int.eq_ofNat_of_zero_le (show 0 ≤ d by omega)
  refine ⟨a ^^^ UInt8.ofNat n, ?_, ?_⟩
  · have h1 : BitVec.ofInt 8 (a.toNat : Int) = a.toBitVec := by apply BitVec.eq_of_toNat_eq; simp
    have h2 : BitVec.ofInt 8 (n : Int) = (UInt8.ofNat n).toBitVec := by apply BitVec.eq_of_toNat_eq; simp
    show IntKind.u8.wrap ((BitVec.ofInt 8 (a.toNat : Int) ^^^ BitVec.ofInt 8 (n : Int)).toNat : Int) = _
    rw [h1, h2, w8m]
    have h3 : (a.toBitVec ^^^ (UInt8.ofNat n).toBitVec).toNat = (a ^^^ UInt8.ofNat n).toNat := rfl
    rw [h3]
    have := (a ^^^ UInt8.ofNat n).toNat_lt
    omega
  · intro e
    have e1 : a ^^^ (a ^^^ UInt8.ofNat n) = a ^^^ a := by rw [e]
    rw [← UInt8.xor_assoc, UInt8.xor_self, UInt8.zero_xor] at e1
    have e2 := congrArg UInt8.toNat e1
    simp at e2
    omega
theorem turn_go {t : TypeId} {s : Bs} {k : Nat} {d : Int} (hk : k < s.length) (hd : 1 ≤ d ∧ d ≤ 128) {h : AHeap A} {K : AVal → AHeap A → Prop} (hK : ∀ s' : Bs, s' ≠ s → s'.length = s.length → K (.str s') (h ++ [.cells t (s'.map fun b => .int .u8 b.toNat)])) :
    s2bP t (.str s) h fun v53 h => idxP 1 v53 (.int .i64 (k : Int)) fun v54 => optP (ldV 1 false v54 h) fun v55 => binP .xor .other v55 (.int .u8 d) fun v59 => idxP 1 v53 (.int .i64 (k : Int)) fun v60 => stP 1 v60 v59 h fun h => b2sP v53 h fun v61 => K v61 h := by
  obtain ⟨c, hc, hc1⟩ := bits_xor8 s[k] d hd
  have e1 : (s.map fun b => AVal.int .u8 b.toNat)[k]? = some (.int .u8 (s[k].toNat : Int)) := by simp [hk]
  have e2 : (s.map fun b => AVal.int .u8 b.toNat).set k (.int .u8 (c.toNat : Int)) = (s.set k c).map fun b => AVal.int .u8 b.toNat := by rw [List.map_set]
  have e3 := bytes_mapM (s.set k c)
  have hne : s.set k c ≠ s := by
    intro e
    have := congrArg (fun l : Bs => l[k]?) e
    simp [hk] at this
    exact hc1 this
  unfold s2bP
  simp -implicitDefEqProofs [hk, e1, hc]
  rw [setO_one _ _ _ _ _ _ rfl (by simpa using hk), e2]
  obtain ⟨z, hz⟩ : ∃ z, (List.set s k c).map (fun b => AVal.int .u8 b.toNat) = z := ⟨_, rfl⟩
  have lz : z.length = s.length := by rw [← hz]; simp
  rw [hz] at e3 ⊢
  simp -implicitDefEqProofs [b2sP, cellsAt, lz]
  rw [List.take_of_length_le (by omega), e3, ← hz]
  exact hK _ hne (by simp)
section
variable {bk rbk : Int → List Bs → A}
theorem RecordBack_ok (hR : R.Ok) (hB : HasBook R bk) (hB' : HasRBook R rbk) (x : Rec) (at_ by_ : Int) : Tri Pr R n_law9_RecordBack [.agg x.row, .int .i64 at_, .int .i64 by_] [] fun u _ => u = .bool true := by
  apply c_law9_RecordBack
  unfold p_law9_RecordBack
  rw [reps11]
  simp -implicitDefEqProofs [Rec.row, Ev.row]
  refine awake9_ok hR hB hB' ?_
  simp -implicitDefEqProofs
  refine law9_twin_ok hR hB hB' 9 ?_
  rw [if_pos (by omega)]
  simp -implicitDefEqProofs
  have b0 : bOk 9 [] := bOk_nil (by omega)
  by_cases hm : recMay x = true
  · obtain ⟨m1, m2, m3, m4, m5, m6, m7⟩ := recMay_all hm
    have k1 := recPut_new (m := 9) (ts := []) hm (by simp) (by simp) (by simp)
    rw [List.nil_append] at k1
    have l0 := recBody_len hm
    obtain ⟨s, hs⟩ : ∃ s, pad (recBody x ++ nS 0) = s := ⟨_, rfl⟩
    have hl : s.length = 64 := by rw [← hs, pad_len]; simp [nS, nMay, nE]; omega
    have hg : recRead [recT x] s = some (x, 0) := by rw [← hs]; exact recRead_dec (by simp) hm rfl rfl (by simp [nS, nMay, nE]; omega)
    have hbad : ∀ t : Bs, t ≠ s → ∀ q p, recGet [recT x] t q p = (rec0, 0, 900) := fun t ht q p => recGet_none (recRead_own (by rw [hs]; exact ht))
    have z0 : (([] : List Bs).length : Int) = 0 := rfl
    rw [z0, hs] at k1
    have b1 := bOk_rput b0 k1
    have g1 : recGet [recT x] s x.seq x.prev = (x, 0, 0) := by unfold recGet; rw [hg]; simp
    have g2 : recGet [recT x] s (x.seq + 1) x.prev = (rec0, 0, 901) := by unfold recGet; rw [hg]; simp only; rw [if_pos (.inl (by omega))]
    have g3 : recGet [recT x] s x.seq (x.prev + 1) = (rec0, 0, 901) := by unfold recGet; rw [hg]; simp only; rw [if_pos (.inr (by omega))]
    have l6 : (([recT x] : List Bs).length : Int) = 1 := rfl
    obtain ⟨ts, hts⟩ : ∃ ts, [recT x] = ts := ⟨_, rfl⟩
    simp only [hts] at k1 b1 g1 g2 g3 hbad l6
    clear hs hg
    have w1 := w64 (n := x.seq + 1) (by simp [nMay] at m3; omega)
    have w2 := w64 (n := x.prev + 1) (by simp [nMay] at m6; omega)
    obtain ⟨k, hk, hk0, hk1⟩ : ∃ k : Nat, (IntKind.u64.wrap at_).tmod 64 = (k : Int) ∧ k < 64 ∧ IntKind.i64.wrap (k : Int) = (k : Int) := by
      have h1 : 0 ≤ IntKind.u64.wrap at_ := by simp [IntKind.wrap, IntKind.signed, IntKind.bits]; omega
      have h2 := Int.tmod_nonneg 64 h1
      have h3 := Int.tmod_lt_of_pos (IntKind.u64.wrap at_) (b := 64) (by omega)
      refine ⟨((IntKind.u64.wrap at_).tmod 64).toNat, by omega, by omega, w64 (by omega)⟩
    refine RPut_at (r := x) hR hB b0 k1 rfl ?_
    simp -implicitDefEqProofs
    refine num14_ok ?_
    simp -implicitDefEqProofs [hl]
    refine RGet_at hR hB (by omega) g1 rfl ?_
    simp -implicitDefEqProofs [Rec.row, Ev.row, w1]
    refine RGet_at hR hB (by omega) g2 rfl ?_
    simp -implicitDefEqProofs [Rec.row, Ev.row, rec0, ev0, w2]
    refine RGet_at hR hB (by omega) g3 rfl ?_
    simp -implicitDefEqProofs [Rec.row, Ev.row, rec0, ev0, hk, hk1, hl, hk0]
    rw [bits_mask by_ 7 (by omega) 127 (by decide)]
    obtain ⟨d, hd, d1, d2⟩ : ∃ d, by_ % 2 ^ 7 = d ∧ 0 ≤ d ∧ d < 128 := ⟨_, rfl, by omega, by omega⟩
    rw [hd, w64 (n := 1 + d) (by omega), w8 (n := 1 + d) (by omega)]
    refine turn_go (by omega) (by omega) fun s2 n2 l2 => ?_
    simp -implicitDefEqProofs
    refine RGet_at hR hB (by omega) (hbad s2 n2 _ _) rfl ?_
    have hsx := shRec x x
    simp only [Rec.row, Ev.row] at hsx
    have l3 : s.tail ≠ s := by intro e; have := congrArg List.length e; simp at this; omega
    have hl3 : s.tail.length < 1000 := by simp; omega
    simp -implicitDefEqProofs [Rec.row, Ev.row, rec0, ev0, hl]
    refine joinP_go ⟨?_, ?_⟩
    · refine RGet_at hR hB hl3 (hbad _ l3 _ _) rfl ?_
      simp -implicitDefEqProofs [Rec.row, Ev.row, rec0, ev0, hl, hsx]
      repeat (refine num14_ok ?_; simp -implicitDefEqProofs)
      refine Len_at hR hB l6 rfl ?_
      simp -implicitDefEqProofs
    · refine RGet_at hR hB hl3 (hbad _ l3 _ _) rfl ?_
      simp -implicitDefEqProofs [Rec.row, Ev.row, rec0, ev0, hl, hsx]
      repeat (refine num14_ok ?_; simp -implicitDefEqProofs)
      refine Len_at hR hB l6 rfl ?_
      simp -implicitDefEqProofs
  · have k1 := recPut_bad (m := 9) (ts := []) hm
    refine RPut_at (r := x) hR hB b0 k1 rfl ?_
    simp -implicitDefEqProofs
    refine num14_ok ?_
    simp -implicitDefEqProofs
end
end Go.AI
