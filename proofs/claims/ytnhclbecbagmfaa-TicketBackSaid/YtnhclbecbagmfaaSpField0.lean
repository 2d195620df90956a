/- Numbers out of bytes, plainly. -/
import Derived.Test.YtnhclbecbagmfaaSpNums
set_option linter.all false
namespace Go.AI
def bAcc (l : Bs0) : Nat := l.foldl (fun x b => x * 256 + b.toNat) 0
theorem bAcc_snoc (l : Bs0) (b : UInt8) : bAcc (l ++ [b]) = bAcc l * 256 + b.toNat := by simp [bAcc, List.foldl_append]
theorem bAcc_lt : ∀ l : Bs0, bAcc l < 256 ^ l.length := by
  intro l
  have key : ∀ (l : Bs0) (a : Nat), l.foldl (fun x b => x * 256 + b.toNat) a < (a + 1) * 256 ^ l.length := by
    intro l
    induction l with
    | nil => intro a; simp
    | cons b r ih =>
      intro a
      have h1 := ih (a * 256 + b.toNat)
      have h2 : b.toNat < 256 := UInt8.toNat_lt b
      have h3 : (a * 256 + b.toNat + 1) * 256 ^ r.length ≤ (a * 256 + 256) * 256 ^ r.length := Nat.mul_le_mul_right _ (by omega)
      simp only [List.foldl_cons, List.length_cons, Nat.pow_succ]
      calc _ < _ := h1
        _ ≤ _ := h3
        _ = _ := by rw [show a * 256 + 256 = (a + 1) * 256 by omega, Nat.mul_assoc, Nat.mul_comm 256]
  have := key l 0
  simpa [bAcc] using this
/-- A number that stands at a place: it, where it ends, the error. -/
def gNum (s : Bs0) (at_ : Int) : Int × Int × Int :=
  if at_ < 0 ∨ (s.length : Int) < at_ then (0, 0, 100)
  else if at_ = s.length then (0, 0, 101)
  else
    let n := (s.getD at_.toNat 0).toNat
    if 4 < n then (0, 0, 100)
    else if s.length < at_.toNat + 1 + n then (0, 0, 101)
    else
      let x := bAcc ((s.drop (at_.toNat + 1)).take n)
      if nW x ≠ n ∨ 1073741823 < x then (0, 0, 100) else (x, at_ + 1 + n, 0)
theorem nW_head {l : Bs0} (h : l.length ≤ 4) : nW (bAcc l) = l.length ↔ ¬ (0 < l.length ∧ l.getD 0 0 = 0) := by
  have z : ∀ b : UInt8, b = 0 ↔ b.toNat = 0 := fun b => ⟨fun h => by rw [h]; rfl, fun h => UInt8.toNat_inj.1 (by rw [h]; rfl)⟩
  have lt : ∀ b : UInt8, b.toNat < 256 := fun b => UInt8.toNat_lt b
  match l, h with
  | [], _ => simp [bAcc, nW]
  | [a], _ => have := lt a; simp [bAcc, nW, z]; split <;> (try split) <;> omega
  | [a, b], _ => have := lt a; have := lt b; simp [bAcc, nW, z]; split <;> (try split) <;> (try split) <;> omega
  | [a, b, c], _ => have := lt a; have := lt b; have := lt c; simp [bAcc, nW, z]; split <;> (try split) <;> (try split) <;> (try split) <;> omega
  | [a, b, c, d], _ => have := lt a; have := lt b; have := lt c; have := lt d; simp [bAcc, nW, z]; split <;> (try split) <;> (try split) <;> (try split) <;> omega
  | _ :: _ :: _ :: _ :: _ :: _, h => simp at h
theorem bb_toNat (x : Int) : ((bb x).toNat : Int) = x % 256 := by
  unfold bb
  rw [UInt8.toNat_ofNat']
  omega
theorem bb_of {x : Int} {b : UInt8} (h : x % 256 = b.toNat) : bb x = b := by
  apply UInt8.toNat_inj.1
  have := bb_toNat x
  omega
/-- What was read stands there as it is written. -/
theorem gNum_enc {s : Bs0} {at_ x to : Int} (h : gNum s at_ = (x, to, 0)) : nMay x = true ∧ 0 ≤ at_ ∧ at_ < to ∧ to ≤ s.length ∧ (s.drop at_.toNat).take (to - at_).toNat = nE x := by
  unfold gNum at h
  split at h
  · simp at h
  rename_i h1
  split at h
  · simp at h
  rename_i h2
  have hlt : at_.toNat < s.length := by omega
  have hg : s.getD at_.toNat 0 = s[at_.toNat] := by simp [List.getD_eq_getElem?_getD, hlt]
  simp only [hg] at h
  split at h
  · simp at h
  rename_i h3
  split at h
  · simp at h
  rename_i h4
  split at h
  · simp at h
  rename_i h5
  obtain ⟨n, hn⟩ : ∃ n, (s[at_.toNat]).toNat = n := ⟨_, rfl⟩
  rw [hn] at h h3 h4 h5
  obtain ⟨l, hl⟩ : ∃ l, (s.drop (at_.toNat + 1)).take n = l := ⟨_, rfl⟩
  rw [hl] at h h5
  have hll : l.length = n := by rw [← hl]; simp; omega
  simp at h
  obtain ⟨rfl, rfl, -⟩ := h
  have hx : nMay (bAcc l : Int) = true := by simp [nMay]; omega
  refine ⟨hx, by omega, by omega, by omega, ?_⟩
  have hd : (s.drop at_.toNat).take (at_ + 1 + n - at_).toNat = s[at_.toNat] :: l := by
    rw [show (at_ + 1 + n - at_).toNat = n + 1 by omega, List.drop_eq_getElem_cons hlt, List.take_succ_cons, hl]
  rw [hd]
  have h6 : nW (bAcc l) = n := by
    have : ¬ (nW ↑(bAcc l) ≠ ↑n) := fun h => h5 (.inl h)
    simpa using this
  have lt : ∀ b : UInt8, b.toNat < 256 := fun b => UInt8.toNat_lt b
  have hb : s[at_.toNat] = UInt8.ofNat n := by rw [← hn]; simp
  rw [hb]
  clear hb hd hl hn h1 h2 hlt hg h4 h5 hx
  match l, hll with
  | [], hll =>
    simp at hll; subst hll; rfl
  | [a], hll =>
    have := lt a
    simp at hll; subst hll
    simp [bAcc, nW] at h6 ⊢
    unfold nE
    have : ¬ (a.toNat : Int) < 1 := by
      intro h; rw [if_pos h] at h6; omega
    rw [if_neg this, if_pos (by omega), bb_of (x := (a.toNat : Int)) (b := a) (by omega)]
  | [a, b], hll =>
    have := lt a; have := lt b
    simp at hll; subst hll
    simp [bAcc, nW] at h6 ⊢
    unfold nE
    have : ¬ ((a.toNat : Int) * 256 + b.toNat) < 256 := by
      intro h; split at h6
      · omega
      · first | omega | (rw [if_pos h] at h6; omega)
    rw [if_neg (by omega), if_neg this, if_pos (by omega), bb_of (b := a) (by omega), bb_of (b := b) (by omega)]
  | [a, b, c], hll =>
    have := lt a; have := lt b; have := lt c
    simp at hll; subst hll
    simp [bAcc, nW] at h6 ⊢
    unfold nE
    have : ¬ (((a.toNat : Int) * 256 + b.toNat) * 256 + c.toNat) < 65536 := by
      intro h; split at h6
      · omega
      · split at h6
        · omega
        · first | omega | (rw [if_pos h] at h6; omega)
    rw [if_neg (by omega), if_neg (by omega), if_neg this, if_pos (by omega), bb_of (b := a) (by omega), bb_of (b := b) (by omega), bb_of (b := c) (by omega)]
  | [a, b, c, d], hll =>
    have := lt a; have := lt b; have := lt c; have := lt d
    simp at hll; subst hll
    simp [bAcc, nW] at h6 ⊢
    unfold nE
    have : ¬ ((((a.toNat : Int) * 256 + b.toNat) * 256 + c.toNat) * 256 + d.toNat) < 16777216 := by
      intro h; split at h6
      · omega
      · split at h6
        · omega
        · split at h6
          · omega
          · first | omega | (rw [if_pos h] at h6; omega)
    rw [if_neg (by omega), if_neg (by omega), if_neg (by omega), if_neg this, bb_of (b := a) (by omega), bb_of (b := b) (by omega), bb_of (b := c) (by omega), bb_of (b := d) (by omega)]
  | _ :: _ :: _ :: _ :: _ :: _, hll => simp at hll; omega
theorem gNum_at {n : UInt8} {l : Bs0} (p r : Bs0) (h1 : l.length = n.toNat) (h2 : n.toNat ≤ 4) (h3 : nW (bAcc l) = n.toNat) (h4 : bAcc l ≤ 1073741823) :
    gNum (p ++ (n :: (l ++ r))) (p.length : Int) = ((bAcc l : Int), (p.length : Int) + 1 + n.toNat, (0 : Int)) := by
  unfold gNum
  rw [if_neg (by simp; omega), if_neg (by simp; omega)]
  have e1 : (p ++ (n :: (l ++ r))).getD (p.length : Int).toNat 0 = n := by simp [List.getD_eq_getElem?_getD]
  simp only [e1]
  rw [if_neg (by omega), if_neg (by simp; omega)]
  have e2 : ((p ++ (n :: (l ++ r))).drop ((p.length : Int).toNat + 1)).take n.toNat = l := by
    rw [Int.toNat_natCast, List.drop_append, ← h1]
    simp [List.drop_eq_nil_of_le (show p.length ≤ p.length + 1 by omega)]
  rw [e2, if_neg]
  rintro (h | h)
  · exact h h3
  · omega
/-- What is written is read. -/
theorem gNum_dec {x : Int} (hx : nMay x = true) (p r : Bs0) : gNum (p ++ (nE x ++ r)) (p.length : Int) = (x, (p.length : Int) + (nE x).length, 0) := by
  have hm : 0 ≤ x ∧ x ≤ 1073741823 := by simpa [nMay] using hx
  have t1 := bb_toNat x
  have t2 := bb_toNat (x / 256)
  have t3 := bb_toNat (x / 65536)
  have t4 := bb_toNat (x / 16777216)
  unfold nE
  by_cases c0 : x < 1
  · rw [if_pos c0]
    have := gNum_at (n := 0) (l := []) p r rfl (by decide) rfl (by decide)
    simp at this ⊢
    rw [this]
    simp [bAcc]; omega
  rw [if_neg c0]
  by_cases c1 : x < 256
  · rw [if_pos c1]
    have e : (bAcc [bb x] : Int) = x := by simp [bAcc]; omega
    have := gNum_at (n := 1) (l := [bb x]) p r rfl (by decide) (by rw [e]; unfold nW; rw [if_neg c0, if_pos c1]; rfl) (by omega)
    simp at this ⊢
    rw [this, e]
    simp; omega
  rw [if_neg c1]
  by_cases c2 : x < 65536
  · rw [if_pos c2]
    have e : (bAcc [bb (x / 256), bb x] : Int) = x := by simp [bAcc]; omega
    have := gNum_at (n := 2) (l := [bb (x / 256), bb x]) p r rfl (by decide) (by rw [e]; unfold nW; rw [if_neg c0, if_neg c1, if_pos c2]; rfl) (by omega)
    simp at this ⊢
    rw [this, e]
    simp; omega
  rw [if_neg c2]
  by_cases c3 : x < 16777216
  · rw [if_pos c3]
    have e : (bAcc [bb (x / 65536), bb (x / 256), bb x] : Int) = x := by simp [bAcc]; omega
    have := gNum_at (n := 3) (l := [bb (x / 65536), bb (x / 256), bb x]) p r rfl (by decide) (by rw [e]; unfold nW; rw [if_neg c0, if_neg c1, if_neg c2, if_pos c3]; rfl) (by omega)
    simp at this ⊢
    rw [this, e]
    simp; omega
  rw [if_neg c3]
  have e : (bAcc [bb (x / 16777216), bb (x / 65536), bb (x / 256), bb x] : Int) = x := by simp [bAcc]; omega
  have := gNum_at (n := 4) (l := [bb (x / 16777216), bb (x / 65536), bb (x / 256), bb x]) p r rfl (by decide) (by rw [e]; unfold nW; rw [if_neg c0, if_neg c1, if_neg c2, if_neg c3]; rfl) (by omega)
  simp at this ⊢
  rw [this, e]
  simp; omega
end Go.AI
