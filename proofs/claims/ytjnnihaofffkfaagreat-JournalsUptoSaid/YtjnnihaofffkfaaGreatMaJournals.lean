/- Plain laws of whole numbers and their bits. -/
import Derived.Test.YtjnnihaofffkfaaGreatNm
import Derived.IntWalk
import Derived.Test.YtjnnihaofffkfaaGreatFns
import Derived.Test.YtjnnihaofffkfaaGreatAiT
set_option linter.all false
namespace Go.AI
@[simp] theorem w64 {n : Int} (h : -9223372036854775808 ≤ n ∧ n ≤ 9223372036854775807) : IntKind.i64.wrap n = n := IntWalk.i64_in n h
@[simp] theorem w8 {n : Int} (h : 0 ≤ n ∧ n ≤ 255) : IntKind.u8.wrap n = n := IntWalk.u8_in n h
theorem w8m (n : Int) : IntKind.u8.wrap n = n % 256 := IntKind.wrap_u8 n
@[simp] theorem wu64 {n : Int} (h : 0 ≤ n ∧ n ≤ 18446744073709551615) : IntKind.u64.wrap n = n := IntWalk.u64_in n h
@[simp] theorem wuint {n : Int} (h : 0 ≤ n ∧ n ≤ 18446744073709551615) : IntKind.u64.wrap n = n := IntWalk.u64_in n h
theorem ofInt_nat (x : Nat) : BitVec.ofInt 64 (x : Int) = BitVec.ofNat 64 x := by
  apply BitVec.eq_of_toNat_eq; simp [BitVec.toNat_ofInt]
theorem bits_or (x y : Nat) (hx : x < 9223372036854775808) (hy : y < 9223372036854775808) : bits .i64 (· ||| ·) (x : Int) (y : Int) = ((x ||| y : Nat) : Int) := by
  unfold bits
  show IntKind.i64.wrap ((BitVec.ofInt 64 (x : Int) ||| BitVec.ofInt 64 (y : Int)).toNat : Int) = _
  rw [ofInt_nat, ofInt_nat, BitVec.toNat_or, BitVec.toNat_ofNat, BitVec.toNat_ofNat, Nat.mod_eq_of_lt (by omega), Nat.mod_eq_of_lt (by omega)]
  have : x ||| y < 2 ^ 63 := Nat.or_lt_two_pow (by omega) (by omega)
  exact w64 (by omega)
/-- A mask of low bits, of whatever number. -/
theorem bits_mask (x : Int) (n : Nat) (hn : n < 63) (m : Int) (hm : m = 2 ^ n - 1) : bits .i64 (· &&& ·) x m = x % 2 ^ n := by
  unfold bits
  show IntKind.i64.wrap ((BitVec.ofInt 64 x &&& BitVec.ofInt 64 m).toNat : Int) = _
  have hm2 : m = ((2 ^ n - 1 : Nat) : Int) := by
    have : 0 < 2 ^ n := Nat.two_pow_pos n
    rw [hm, Int.ofNat_sub (by omega)]; push_cast; rfl
  have hlt : 2 ^ n - 1 < 2 ^ 64 := by have := Nat.pow_lt_pow_right (a := 2) (by omega) (show n < 64 by omega); omega
  have hle : (2 : Int) ^ n ≤ 2 ^ 62 := by exact_mod_cast Nat.pow_le_pow_right (n := 2) (by omega) (show n ≤ 62 by omega)
  rw [hm2, ofInt_nat, BitVec.toNat_and, BitVec.toNat_ofNat, Nat.mod_eq_of_lt hlt, Nat.and_two_pow_sub_one_eq_mod, BitVec.toNat_ofInt]
  have hd : (2 : Int) ^ n ∣ ((2 ^ 64 : Nat) : Int) := by
    have := Int.ofNat_dvd.2 (Nat.pow_dvd_pow 2 (show n ≤ 64 by omega))
    rwa [Int.natCast_pow] at this
  have hpos : (0 : Int) < 2 ^ n := Int.pow_pos (by omega)
  have h1 : (((x % ((2 ^ 64 : Nat) : Int)).toNat % 2 ^ n : Nat) : Int) = x % 2 ^ n := by
    rw [Int.natCast_emod, Int.toNat_of_nonneg (Int.emod_nonneg _ (by omega)), Int.natCast_pow]
    exact Int.emod_emod_of_dvd x hd
  rw [h1]
  have h2 := Int.emod_nonneg x (show (2 : Int) ^ n ≠ 0 by omega)
  have h3 := Int.emod_lt_of_pos x hpos
  exact w64 (by omega)
theorem bits_and1 (x : Int) : bits .i64 (· &&& ·) x 1 = x % 2 := bits_mask x 1 (by omega) 1 (by omega)
end Go.AI

/- For use: what is cut off a heap; loops; lists of numbers handed over. -/
set_option linter.all false
namespace Go.AI
variable {A : Type} {P : Program} {R : Adts A}
mutual
theorem ren_low {m : Nat} {τ : Nat → Nat} (ht : ∀ k, k < m → τ k = k) : ∀ v : AVal, v.ix m = true → v.ren τ = v
  | .any, _ | .bool _, _ | .int _ _, _ | .str _, _ | .nilp, _ | .nils, _ | .odd _, _ | .nilm, _ | .nilf, _ | .nili, _ | .lst _ _ _ _ _, _ | .fp _ _ _, _ => by simp [AVal.ren]
  | .ptr b o, h | .sl b o _ _ _, h | .empt b o _, h | .map b, h => by simp [AVal.ix] at h; simp [AVal.ren, ht b h]
  | .fn f a c, h => by simp only [AVal.ix, Bool.and_eq_true] at h; simp [AVal.ren, rens_low ht a h.1, rens_low ht c h.2]
  | .iface t v, h => by simp only [AVal.ix] at h; simp [AVal.ren, ren_low ht v h]
  | .agg cs, h => by simp only [AVal.ix] at h; simp [AVal.ren, rens_low ht cs h]
  | .tup cs, h => by simp only [AVal.ix] at h; simp [AVal.ren, rens_low ht cs h]
theorem rens_low {m : Nat} {τ : Nat → Nat} (ht : ∀ k, k < m → τ k = k) : ∀ l : List AVal, ixs m l = true → rens τ l = l
  | [], _ => rfl
  | v :: r, h => by simp only [ixs, Bool.and_eq_true] at h; simp [rens, ren_low ht v h.1, rens_low ht r h.2]
end
/-- An object that names the first m places alone. -/
def AObj.low (R : Adts A) (m : Nat) (o : AObj A) : Prop := o.ix R m ∧ ∀ τ : Nat → Nat, (∀ k, k < m → τ k = k) → o.ren R τ = o
theorem low_cells {m : Nat} {e : TypeId} {cs : List AVal} (h : ixs m cs = true) : AObj.low R m (.cells e cs : AObj A) := ⟨h, fun τ ht => by simp [AObj.ren, rens_low ht cs h]⟩
/-- The first m objects alone are kept. -/
theorem Gives.cut (hR : R.Ok) {n m : Nat} {h : AHeap A} {vs : List AVal} {K : List AVal → AHeap A → Prop} (hn : n ≤ m) (hm : m ≤ h.length) (hx : ixs m vs = true) (ho : ∀ o ∈ h.take m, o.low R m) (hk : K vs (h.take m)) : Gives P R n h vs K := by
  have hl : (h.take m).length = m := by simp [Nat.min_eq_left hm]
  have hat : ∀ k, k < m → at_ (List.range m) h.length k = k := fun k hk => at_get (by simp [hk])
  refine Gives.keep hR (List.range m) (h2 := h.take m) (vs2 := vs) ⟨by simp [Nat.min_eq_left hm], List.nodup_range, fun k o hk => ?_, fun o ho' => ?_⟩ ?_ (by rw [hl]; exact hx) (fun k hk => by rw [List.getElem?_range (by omega)]) (Gives.done (by omega) hk)
  · have hkm : k < m := by
      have := (List.getElem?_eq_some_iff.1 hk).1
      rw [hl] at this; exact this
    refine ⟨k, by simp [hkm], ?_⟩
    rw [(ho o (List.mem_of_getElem? hk)).2 _ hat]
    rw [List.getElem?_take] at hk
    simpa [hkm] using hk
  · rw [hl]; exact (ho o ho').1
  · rw [rens_low hat vs hx]
/-- A loop, by an invariant with a measure. -/
theorem loopP_go {B : List AVal → AHeap A → (List AVal → AHeap A → Prop) → Prop} {x : List AVal} {h : AHeap A} (I : Nat → List AVal → AHeap A → Prop) (n : Nat) (h1 : Gives P R h.length h x (I n))
    (h2 : ∀ m y g, I m y g → B y g (fun y' g' => Gives P R h.length g' y' fun z k => ∃ m', m' < m ∧ I m' z k)) : loopP (Gives P R) B x h :=
  ⟨I, n, h1, fun m y g hi => ⟨_, h2 m y g hi, fun _ _ hj => hj⟩⟩
/-- A loop that is run round by round. -/
def unr (P : Program) (R : Adts A) (n : Nat) (B : List AVal → AHeap A → (List AVal → AHeap A → Prop) → Prop) : Nat → List AVal → AHeap A → Prop
  | 0, _, _ => False
  | m + 1, x, h => B x h fun y g => Gives P R n g y (unr P R n B m)
theorem loopP_unr (m : Nat) {B : List AVal → AHeap A → (List AVal → AHeap A → Prop) → Prop} {x : List AVal} {h : AHeap A} (hu : unr P R h.length B m x h) : loopP (Gives P R) B x h :=
  ⟨fun k y g => unr P R h.length B k y g, m, Gives.done (Nat.le_refl _) hu, fun k y g hk => match k, hk with
    | 0, hk => hk.elim
    | k + 1, hk => ⟨_, hk, fun _ _ hj => hj.mono fun _ _ _ hh => ⟨k, by omega, hh⟩⟩⟩
/-- A slice of whole numbers that is handed over. -/
def IsInts (a : AVal) (l : List Int) : Prop := (a = .nils ∧ l = []) ∨ ∃ b o cap, a = .lst b o l.length cap (l.map (.int .i64))
theorem IsInts.len {a : AVal} {l : List Int} (h : IsInts a l) (K : AVal → Prop) : lenP a K = K (.int .i64 l.length) := by
  rcases h with ⟨rfl, rfl⟩ | ⟨b, o, cap, rfl⟩ <;> simp
theorem IsInts.get {a : AVal} {l : List Int} (h : IsInts a l) {n : Int} (h0 : 0 ≤ n) (h1 : n < l.length) : ∃ b o cs, ∀ K, idxP 1 a (.int .i64 n) K = K (.fp b o (.int .i64 (l.getD n.toNat 0) :: cs)) := by
  rcases h with ⟨rfl, rfl⟩ | ⟨b, o, cap, rfl⟩
  · simp at h1; omega
  · refine ⟨b, o + n.toNat * 1, (l.map (.int .i64)).drop (n.toNat + 1), fun K => ?_⟩
    have h2 : n.toNat < l.length := by omega
    rw [idxP_l K 1 b o l.length cap _ .i64 n h0 h1, Nat.mul_one, List.drop_eq_getElem_cons (by simpa using h2)]
    simp [List.getD_eq_getElem?_getD, h2]
/-- A call that makes what it names. -/
theorem Tri.make (hR : R.Ok) {f : FuncId} {us : List AVal} (hx : ixs 0 us = true) {v0 : AVal} {h0 : AHeap A} (t : Tri P R f us [] fun v h => v = v0 ∧ h = h0) {h : AHeap A} {K : AVal → AHeap A → Prop}
    (hk : K (v0.ren (h.length + ·)) (h ++ h0.map (AObj.ren R (h.length + ·)))) : Tri P R f us h K := by
  have := Tri.frame hR (Sel.nil (R := R) h) (as2 := us) hx t
  rw [rens_ix0 _ _ hx] at this
  refine this.mono ?_
  rintro v H ⟨v1, h1, ⟨rfl, rfl⟩, _, rfl, rfl⟩
  have h2 : at_ [] h.length = (h.length + ·) := by funext k; simp [at_]
  rw [h2]
  simpa [splice, setAll, h2] using hk
/-- One cell is written. -/
theorem setO_one (h : AHeap A) (b o : Nat) (v : AVal) (e : TypeId) (cs : List AVal) (hv : v.scalar = true) (ho : o < cs.length) : setO h b o [v] (.cells e cs) = some (h.set b (.cells e (cs.set o v))) := by
  rw [setO_cells _ _ _ _ _ _ ⟨by simp; omega, by simp [hv]⟩]
  have h2 : over cs o [v] = cs.set o v := by rw [List.set_eq_take_append_cons_drop]; simp [over, ho]
  rw [h2]
mutual
theorem ren_agree {m : Nat} {τ τ' : Nat → Nat} (ht : ∀ k, k < m → τ k = τ' k) : ∀ v : AVal, v.ix m = true → v.ren τ = v.ren τ'
  | .any, _ | .bool _, _ | .int _ _, _ | .str _, _ | .nilp, _ | .nils, _ | .odd _, _ | .nilm, _ | .nilf, _ | .nili, _ | .lst _ _ _ _ _, _ | .fp _ _ _, _ => by simp [AVal.ren]
  | .ptr b o, h | .sl b o _ _ _, h | .empt b o _, h | .map b, h => by simp [AVal.ix] at h; simp [AVal.ren, ht b h]
  | .fn f a c, h => by simp only [AVal.ix, Bool.and_eq_true] at h; simp [AVal.ren, rens_agree ht a h.1, rens_agree ht c h.2]
  | .iface t v, h => by simp only [AVal.ix] at h; simp [AVal.ren, ren_agree ht v h]
  | .agg cs, h => by simp only [AVal.ix] at h; simp [AVal.ren, rens_agree ht cs h]
  | .tup cs, h => by simp only [AVal.ix] at h; simp [AVal.ren, rens_agree ht cs h]
theorem rens_agree {m : Nat} {τ τ' : Nat → Nat} (ht : ∀ k, k < m → τ k = τ' k) : ∀ l : List AVal, ixs m l = true → rens τ l = rens τ' l
  | [], _ => rfl
  | v :: r, h => by simp only [ixs, Bool.and_eq_true] at h; simp [rens, ren_agree ht v h.1, rens_agree ht r h.2]
end
mutual
theorem ix_mono {m n : Nat} (hmn : m ≤ n) : ∀ v : AVal, v.ix m = true → v.ix n = true
  | .any, _ | .bool _, _ | .int _ _, _ | .str _, _ | .nilp, _ | .nils, _ | .odd _, _ | .nilm, _ | .nilf, _ | .nili, _ | .lst _ _ _ _ _, _ | .fp _ _ _, _ => by simp [AVal.ix]
  | .ptr b o, h | .sl b o _ _ _, h | .empt b o _, h | .map b, h => by simp [AVal.ix] at h ⊢; omega
  | .fn f a c, h => by simp only [AVal.ix, Bool.and_eq_true] at h ⊢; exact ⟨ixs_mono hmn a h.1, ixs_mono hmn c h.2⟩
  | .iface t v, h => by simp only [AVal.ix] at h ⊢; exact ix_mono hmn v h
  | .agg cs, h => by simp only [AVal.ix] at h ⊢; exact ixs_mono hmn cs h
  | .tup cs, h => by simp only [AVal.ix] at h ⊢; exact ixs_mono hmn cs h
theorem ixs_mono {m n : Nat} (hmn : m ≤ n) : ∀ l : List AVal, ixs m l = true → ixs n l = true
  | [], _ => rfl
  | v :: r, h => by simp only [ixs, Bool.and_eq_true] at h ⊢; exact ⟨ix_mono hmn v h.1, ixs_mono hmn r h.2⟩
end
theorem AObj.ix_mono {m n : Nat} (hmn : m ≤ n) {o : AObj A} (h : o.ix R m) : o.ix R n := by
  cases o with
  | dead => trivial
  | cells e cs => exact ixs_mono hmn cs h
  | map es ck => exact fun e he => ⟨AI.ix_mono hmn _ (h e he).1, AI.ix_mono hmn _ (h e he).2⟩
  | adt a =>
    intro g hg
    obtain ⟨h1, h2⟩ := h g hg
    refine ⟨fun v hv => AI.ix_mono hmn v (h1 v hv), fun s hs => ?_⟩
    have := h2 s hs
    cases s with
    | dead => trivial
    | cells e cs => exact ixs_mono hmn cs this
    | map es ck => exact fun e he => ⟨AI.ix_mono hmn _ (this e he).1, AI.ix_mono hmn _ (this e he).2⟩
    | adt a => trivial
/-- The last object moves to the place behind the first ones. -/
theorem Gives.pick (hR : R.Ok) {n : Nat} (base mid : AHeap A) (o : AObj A) (vs vs2 : List AVal) {h : AHeap A} {K : List AVal → AHeap A → Prop} (he : h = base ++ (mid ++ [o])) (hn : n ≤ base.length) (hb : ∀ o ∈ base, o.low R base.length)
    (ho : o.ix R (base.length + 1) ∧ ∀ τ, o.ren R τ = o) (hv : vs = rens (fun k => if k = base.length then base.length + mid.length else k) vs2) (hx : ixs (base.length + 1) vs2 = true) (hk : K vs2 (base ++ [o])) : Gives P R n h vs K := by
  subst he
  have hl : (base ++ (mid ++ [o])).length = base.length + mid.length + 1 := by simp; omega
  have hat : ∀ k, k < base.length → at_ (List.range base.length ++ [base.length + mid.length]) (base ++ (mid ++ [o])).length k = k := fun k hk => at_get (by rw [List.getElem?_append_left (by simpa using hk)]; simp [hk])
  have hat2 : at_ (List.range base.length ++ [base.length + mid.length]) (base ++ (mid ++ [o])).length base.length = base.length + mid.length := at_get (by rw [List.getElem?_append_right (by simp)]; simp)
  refine Gives.keep hR (List.range base.length ++ [base.length + mid.length]) (h2 := base ++ [o]) (vs2 := vs2) ⟨by simp, ?_, fun k o' hk => ?_, fun o' ho' => ?_⟩ ?_ (by simpa using hx) (fun k hk => by rw [List.getElem?_append_left (by simp; omega), List.getElem?_range (by omega)]) (Gives.done (by simp; omega) hk)
  · rw [List.nodup_append]
    refine ⟨List.nodup_range, by simp, fun a ha b hb => ?_⟩
    simp at ha hb; omega
  · by_cases hkb : k < base.length
    · rw [List.getElem?_append_left hkb] at hk
      refine ⟨k, by rw [List.getElem?_append_left (by simpa using hkb)]; simp [hkb], ?_⟩
      rw [(hb o' (List.mem_of_getElem? hk)).2 _ hat, List.getElem?_append_left hkb, hk]
    · have hk2 : k < base.length + 1 := by have := (List.getElem?_eq_some_iff.1 hk).1; simpa using this
      obtain rfl : k = base.length := by omega
      simp at hk; subst hk
      refine ⟨base.length + mid.length, by simp, ?_⟩
      rw [ho.2, List.getElem?_append_right (by omega), List.getElem?_append_right (by omega)]
      simp
  · rcases List.mem_append.1 ho' with h1 | h1
    · have h2 := hb o' h1
      refine AObj.ix_mono (R := R) ?_ h2.1
      simp
    · simp at h1; subst h1; simpa using ho.1
  · rw [hv]
    refine rens_agree (m := base.length + 1) (fun k hk => ?_) vs2 hx
    by_cases hkb : k = base.length
    · subst hkb; rw [hat2, if_pos rfl]
    · rw [hat k (by omega), if_neg hkb]
end Go.AI

/- Numbers as bytes. -/
set_option linter.all false
namespace Go.AI
variable {A : Type} {R : Adts A}
abbrev Bs0 := List UInt8
/-- May it be a number? -/
def nMay (x : Int) : Bool := decide (0 ≤ x ∧ x ≤ 1073741823)
theorem field_NumMay_ok (x : Int) {h : AHeap A} {K : AVal → AHeap A → Prop} (hk : K (.bool (nMay x)) h) : Tri Pr R n_field_NumMay [.int .i64 x] h K := by
  apply c_field_NumMay
  unfold p_field_NumMay
  simp
  refine iteP_of (fun h1 => ?_) (fun h1 => ?_)
  · simp at h1
    rwa [show nMay x = decide (x ≤ 1073741823) by simp [nMay, h1]] at hk
  · simp at h1
    rwa [show nMay x = false by simp [nMay]; omega] at hk
theorem ref1_num_ok (x : Int) {h : AHeap A} {K : AVal → AHeap A → Prop} (hk : K (.bool (nMay x)) h) : Tri Pr R n_ref1_num [.int .i64 x] h K := by
  apply c_ref1_num
  unfold p_ref1_num
  simp
  refine iteP_of (fun h1 => ?_) (fun h1 => ?_)
  · simp at h1
    rwa [show nMay x = decide (x ≤ 1073741823) by simp [nMay, h1]] at hk
  · simp at h1
    rwa [show nMay x = false by simp [nMay]; omega] at hk
/-- How many bytes follow? -/
def nW (x : Int) : Int := if x < 1 then 0 else if x < 256 then 1 else if x < 65536 then 2 else if x < 16777216 then 3 else 4
theorem field_width_ok (hR : R.Ok) (x : Int) (h0 : 0 ≤ x) (h1 : x ≤ 4294967295) {h : AHeap A} {K : AVal → AHeap A → Prop} (hk : K (.int .i64 (nW x)) h) : Tri Pr R n_field_width [.int .i64 x] h K := by
  refine Tri.fn1 hR _ rfl rfl ?_ hk
  apply c_field_width
  unfold p_field_width
  refine loopP_go (fun m y g => ∃ k z : Int, y = [.int .i64 z, .int .i64 k] ∧ ((k = 0 ∧ z = x ∧ m = 5) ∨ (k = 1 ∧ z = x / 256 ∧ 1 ≤ x ∧ m = 4) ∨ (k = 2 ∧ z = x / 65536 ∧ 256 ≤ x ∧ m = 3) ∨ (k = 3 ∧ z = x / 16777216 ∧ 65536 ≤ x ∧ m = 2) ∨ (k = 4 ∧ z = x / 4294967296 ∧ 16777216 ≤ x ∧ m = 1))) 5 (Gives.done (by simp) ⟨0, x, rfl, .inl ⟨rfl, rfl, rfl⟩⟩) ?_
  rintro m y g ⟨k, z, rfl, hz⟩
  have e2 : z.fdiv (2 ^ min 8 IntKind.i64.bits) = z / 256 := Int.fdiv_eq_ediv_of_nonneg _ (by decide)
  rcases hz with ⟨rfl, rfl, rfl⟩ | ⟨rfl, rfl, h3, rfl⟩ | ⟨rfl, rfl, h3, rfl⟩ | ⟨rfl, rfl, h3, rfl⟩ | ⟨rfl, rfl, h3, rfl⟩
  · simp [e2]
    refine iteP_of (fun h2 => ?_) (fun h2 => ?_)
    · simp at h2
      exact Gives.done (by simp) ⟨4, by omega, 1, _, rfl, .inr (.inl ⟨rfl, rfl, by omega, rfl⟩)⟩
    · simp at h2
      exact Ans.of (by rw [nW, if_pos (by omega)])
  · simp [e2]
    refine iteP_of (fun h2 => ?_) (fun h2 => ?_)
    · simp at h2
      exact Gives.done (by simp) ⟨3, by omega, 2, _, rfl, .inr (.inr (.inl ⟨rfl, by omega, by omega, rfl⟩))⟩
    · simp at h2
      exact Ans.of (by rw [nW, if_neg (by omega), if_pos (by omega)])
  · simp [e2]
    refine iteP_of (fun h2 => ?_) (fun h2 => ?_)
    · simp at h2
      exact Gives.done (by simp) ⟨2, by omega, 3, _, rfl, .inr (.inr (.inr (.inl ⟨rfl, by omega, by omega, rfl⟩)))⟩
    · simp at h2
      exact Ans.of (by rw [nW, if_neg (by omega), if_neg (by omega), if_pos (by omega)])
  · simp [e2]
    refine iteP_of (fun h2 => ?_) (fun h2 => ?_)
    · simp at h2
      exact Gives.done (by simp) ⟨1, by omega, 4, _, rfl, .inr (.inr (.inr (.inr ⟨rfl, by omega, by omega, rfl⟩)))⟩
    · simp at h2
      exact Ans.of (by rw [nW, if_neg (by omega), if_neg (by omega), if_neg (by omega), if_pos (by omega)])
  · have h4 : ¬ 0 < x / 4294967296 := by omega
    simp [e2, h4]
    exact Ans.of (by rw [nW, if_neg (by omega), if_neg (by omega), if_neg (by omega), if_neg (by omega)])
/-- The bytes of a number. -/
def bb (x : Int) : UInt8 := UInt8.ofNat (x % 256).toNat
def nE (x : Int) : Bs0 :=
  if x < 1 then [0] else if x < 256 then [1, bb x] else if x < 65536 then [2, bb (x / 256), bb x] else if x < 16777216 then [3, bb (x / 65536), bb (x / 256), bb x] else [4, bb (x / 16777216), bb (x / 65536), bb (x / 256), bb x]
theorem shr24 (x : Int) : x.fdiv (2 ^ min 24 IntKind.i64.bits) = x / 16777216 := Int.fdiv_eq_ediv_of_nonneg _ (by decide)
theorem shr16 (x : Int) : x.fdiv (2 ^ min 16 IntKind.i64.bits) = x / 65536 := Int.fdiv_eq_ediv_of_nonneg _ (by decide)
theorem shr8 (x : Int) : x.fdiv (2 ^ min 8 IntKind.i64.bits) = x / 256 := Int.fdiv_eq_ediv_of_nonneg _ (by decide)
theorem field_Num_bad (hR : R.Ok) (x : Int) (h1 : nMay x = false) {h : AHeap A} {K : AVal → AHeap A → Prop} (hk : K (.tup [.str [], .int .i64 100]) h) : Tri Pr R n_field_Num [.int .i64 x] h K := by
  refine Tri.fn1 hR _ rfl rfl ?_ hk
  apply c_field_Num
  unfold p_field_Num
  refine field_NumMay_ok x ?_
  simp [h1]
  exact Ans.rfl' _
theorem field_Num_ok (hR : R.Ok) (x : Int) (h1 : nMay x = true) {h : AHeap A} {K : AVal → AHeap A → Prop} (hk : K (.tup [.str (nE x), .int .i64 0]) h) : Tri Pr R n_field_Num [.int .i64 x] h K := by
  refine Tri.fn1 hR _ rfl rfl ?_ hk
  apply c_field_Num
  unfold p_field_Num
  refine field_NumMay_ok x ?_
  simp [h1]
  have hm : 0 ≤ x ∧ x ≤ 1073741823 := by simpa [nMay] using h1
  refine field_width_ok hR x hm.1 (by omega) ?_
  simp only [nE]
  have hb : ∀ z : Int, byteOf (.int .u8 (z % 256)) = some (bb z) := fun z => rfl
  have hb0 : byteOf (.int .u8 0) = some 0 := rfl
  have hb1 : byteOf (.int .u8 1) = some 1 := rfl
  have hb2 : byteOf (.int .u8 2) = some 2 := rfl
  have hb3 : byteOf (.int .u8 3) = some 3 := rfl
  have hb4 : byteOf (.int .u8 4) = some 4 := rfl
  by_cases c0 : x < 1
  · simp [nW, c0]
    refine joinP_go (joinP_go (joinP_go (joinP_go ?_)))
    simp [b2sP, hb0]
    exact Ans.rfl' _
  by_cases c1 : x < 256
  · simp [nW, c0, c1]
    refine joinP_go (joinP_go (joinP_go (joinP_go ?_)))
    simp [shr8, shr16, shr24, w8m, appP, appV, srcOf, cellsAt, b2sP, hb, hb1]
    exact Ans.rfl' _
  by_cases c2 : x < 65536
  · simp [nW, c0, c1, c2]
    refine joinP_go (joinP_go (joinP_go (joinP_go ?_)))
    simp [shr8, shr16, shr24, w8m, appP, appV, srcOf, cellsAt, b2sP, hb, hb2]
    exact Ans.rfl' _
  by_cases c3 : x < 16777216
  · simp [nW, c0, c1, c2, c3]
    refine joinP_go (joinP_go (joinP_go (joinP_go ?_)))
    simp [shr8, shr16, shr24, w8m, appP, appV, srcOf, cellsAt, b2sP, hb, hb3]
    exact Ans.rfl' _
  · simp [nW, c0, c1, c2, c3]
    refine joinP_go (joinP_go (joinP_go (joinP_go ?_)))
    simp [shr8, shr16, shr24, w8m, appP, appV, srcOf, cellsAt, b2sP, hb, hb4]
    exact Ans.rfl' _
theorem iteP_both {c : Bool} {a : Prop} (h : a) : iteP (.bool c) a a := iteP_of (fun _ => h) (fun _ => h)
theorem ref1_Num_bad (hR : R.Ok) (x : Int) (h1 : nMay x = false) {h : AHeap A} {K : AVal → AHeap A → Prop} (hk : K (.tup [.str [], .int .i64 100]) h) : Tri Pr R n_ref1_Num [.int .i64 x] h K := by
  refine Tri.fn1 hR _ rfl rfl ?_ hk
  apply c_ref1_Num
  unfold p_ref1_Num
  refine ref1_num_ok x ?_
  simp [h1]
  exact Ans.rfl' _
theorem ref1_Num_ok (hR : R.Ok) (x : Int) (h1 : nMay x = true) {h : AHeap A} {K : AVal → AHeap A → Prop} (hk : K (.tup [.str (nE x), .int .i64 0]) h) : Tri Pr R n_ref1_Num [.int .i64 x] h K := by
  refine Tri.fn1 hR _ rfl rfl ?_ hk
  apply c_ref1_Num
  unfold p_ref1_Num
  refine ref1_num_ok x ?_
  simp [h1]
  have hm : 0 ≤ x ∧ x ≤ 1073741823 := by simpa [nMay] using h1
  have hb : ∀ z : Int, byteOf (.int .u8 (z % 256)) = some (bb z) := fun z => rfl
  have hb0 : byteOf (.int .u8 0) = some 0 := rfl
  have hb1 : byteOf (.int .u8 1) = some 1 := rfl
  have hb2 : byteOf (.int .u8 2) = some 2 := rfl
  have hb3 : byteOf (.int .u8 3) = some 3 := rfl
  have hb4 : byteOf (.int .u8 4) = some 4 := rfl
  by_cases c0 : x < 1
  · rw [nE]
    rw [if_pos c0]
    have t3 : x / 16777216 % 256 = 0 := by omega
    have t2 : x / 65536 % 256 = 0 := by omega
    have t1 : x / 256 % 256 = 0 := by omega
    have t0 : x % 256 = 0 := by omega
    refine loopP_unr 5 ?_
    rw [unr]
    simp [shr24, shr16, shr8, w8m, appP, appV, srcOf, cellsAt, b2sP, hb, hb0, hb1, hb2, hb3, hb4, t3, t2, t1, t0]
    refine joinP_go ?_
    simp [shr24, shr16, shr8, w8m, appP, appV, srcOf, cellsAt, b2sP, hb, hb0, hb1, hb2, hb3, hb4, t3, t2, t1, t0]
    refine Gives.done (Nat.zero_le _) ?_
    rw [unr]
    simp [shr24, shr16, shr8, w8m, appP, appV, srcOf, cellsAt, b2sP, hb, hb0, hb1, hb2, hb3, hb4, t3, t2, t1, t0]
    refine joinP_go ?_
    simp [shr24, shr16, shr8, w8m, appP, appV, srcOf, cellsAt, b2sP, hb, hb0, hb1, hb2, hb3, hb4, t3, t2, t1, t0]
    refine Gives.done (Nat.zero_le _) ?_
    rw [unr]
    simp [shr24, shr16, shr8, w8m, appP, appV, srcOf, cellsAt, b2sP, hb, hb0, hb1, hb2, hb3, hb4, t3, t2, t1, t0]
    refine joinP_go ?_
    simp [shr24, shr16, shr8, w8m, appP, appV, srcOf, cellsAt, b2sP, hb, hb0, hb1, hb2, hb3, hb4, t3, t2, t1, t0]
    refine Gives.done (Nat.zero_le _) ?_
    rw [unr]
    simp [shr24, shr16, shr8, w8m, appP, appV, srcOf, cellsAt, b2sP, hb, hb0, hb1, hb2, hb3, hb4, t3, t2, t1, t0]
    refine joinP_go ?_
    simp [shr24, shr16, shr8, w8m, appP, appV, srcOf, cellsAt, b2sP, hb, hb0, hb1, hb2, hb3, hb4, t3, t2, t1, t0]
    refine Gives.done (Nat.zero_le _) ?_
    rw [unr]
    simp [shr24, shr16, shr8, w8m, appP, appV, srcOf, cellsAt, b2sP, hb, hb0, hb1, hb2, hb3, hb4, t3, t2, t1, t0]
    exact Ans.rfl' _
  by_cases c1 : x < 256
  · rw [nE]
    rw [if_neg c0]
    rw [if_pos c1]
    have t3 : x / 16777216 % 256 = 0 := by omega
    have t2 : x / 65536 % 256 = 0 := by omega
    have t1 : x / 256 % 256 = 0 := by omega
    have t0 : (x % 256 != 0) = true := by simp; omega
    refine loopP_unr 5 ?_
    rw [unr]
    simp [shr24, shr16, shr8, w8m, appP, appV, srcOf, cellsAt, b2sP, hb, hb0, hb1, hb2, hb3, hb4, t3, t2, t1, t0]
    refine joinP_go ?_
    simp [shr24, shr16, shr8, w8m, appP, appV, srcOf, cellsAt, b2sP, hb, hb0, hb1, hb2, hb3, hb4, t3, t2, t1, t0]
    refine Gives.done (Nat.zero_le _) ?_
    rw [unr]
    simp [shr24, shr16, shr8, w8m, appP, appV, srcOf, cellsAt, b2sP, hb, hb0, hb1, hb2, hb3, hb4, t3, t2, t1, t0]
    refine joinP_go ?_
    simp [shr24, shr16, shr8, w8m, appP, appV, srcOf, cellsAt, b2sP, hb, hb0, hb1, hb2, hb3, hb4, t3, t2, t1, t0]
    refine Gives.done (Nat.zero_le _) ?_
    rw [unr]
    simp [shr24, shr16, shr8, w8m, appP, appV, srcOf, cellsAt, b2sP, hb, hb0, hb1, hb2, hb3, hb4, t3, t2, t1, t0]
    refine joinP_go ?_
    simp [shr24, shr16, shr8, w8m, appP, appV, srcOf, cellsAt, b2sP, hb, hb0, hb1, hb2, hb3, hb4, t3, t2, t1, t0]
    refine Gives.done (Nat.zero_le _) ?_
    rw [unr]
    simp [shr24, shr16, shr8, w8m, appP, appV, srcOf, cellsAt, b2sP, hb, hb0, hb1, hb2, hb3, hb4, t3, t2, t1, t0]
    refine joinP_go ?_
    simp [shr24, shr16, shr8, w8m, appP, appV, srcOf, cellsAt, b2sP, hb, hb0, hb1, hb2, hb3, hb4, t3, t2, t1, t0]
    refine Gives.done (Nat.zero_le _) ?_
    rw [unr]
    simp [shr24, shr16, shr8, w8m, appP, appV, srcOf, cellsAt, b2sP, hb, hb0, hb1, hb2, hb3, hb4, t3, t2, t1, t0]
    exact Ans.rfl' _
  by_cases c2 : x < 65536
  · rw [nE]
    rw [if_neg c0]
    rw [if_neg c1]
    rw [if_pos c2]
    have t3 : x / 16777216 % 256 = 0 := by omega
    have t2 : x / 65536 % 256 = 0 := by omega
    have t1 : (x / 256 % 256 != 0) = true := by simp; omega
    refine loopP_unr 5 ?_
    rw [unr]
    simp [shr24, shr16, shr8, w8m, appP, appV, srcOf, cellsAt, b2sP, hb, hb0, hb1, hb2, hb3, hb4, t3, t2, t1]
    refine joinP_go ?_
    simp [shr24, shr16, shr8, w8m, appP, appV, srcOf, cellsAt, b2sP, hb, hb0, hb1, hb2, hb3, hb4, t3, t2, t1]
    refine Gives.done (Nat.zero_le _) ?_
    rw [unr]
    simp [shr24, shr16, shr8, w8m, appP, appV, srcOf, cellsAt, b2sP, hb, hb0, hb1, hb2, hb3, hb4, t3, t2, t1]
    refine joinP_go ?_
    simp [shr24, shr16, shr8, w8m, appP, appV, srcOf, cellsAt, b2sP, hb, hb0, hb1, hb2, hb3, hb4, t3, t2, t1]
    refine Gives.done (Nat.zero_le _) ?_
    rw [unr]
    simp [shr24, shr16, shr8, w8m, appP, appV, srcOf, cellsAt, b2sP, hb, hb0, hb1, hb2, hb3, hb4, t3, t2, t1]
    refine joinP_go ?_
    simp [shr24, shr16, shr8, w8m, appP, appV, srcOf, cellsAt, b2sP, hb, hb0, hb1, hb2, hb3, hb4, t3, t2, t1]
    refine Gives.done (Nat.zero_le _) ?_
    rw [unr]
    simp [shr24, shr16, shr8, w8m, appP, appV, srcOf, cellsAt, b2sP, hb, hb0, hb1, hb2, hb3, hb4, t3, t2, t1]
    refine joinP_go ?_
    simp [shr24, shr16, shr8, w8m, appP, appV, srcOf, cellsAt, b2sP, hb, hb0, hb1, hb2, hb3, hb4, t3, t2, t1]
    refine iteP_both ?_
    refine Gives.done (Nat.zero_le _) ?_
    rw [unr]
    simp [shr24, shr16, shr8, w8m, appP, appV, srcOf, cellsAt, b2sP, hb, hb0, hb1, hb2, hb3, hb4, t3, t2, t1]
    exact Ans.rfl' _
  by_cases c3 : x < 16777216
  · rw [nE]
    rw [if_neg c0]
    rw [if_neg c1]
    rw [if_neg c2]
    rw [if_pos c3]
    have t3 : x / 16777216 % 256 = 0 := by omega
    have t2 : (x / 65536 % 256 != 0) = true := by simp; omega
    refine loopP_unr 5 ?_
    rw [unr]
    simp [shr24, shr16, shr8, w8m, appP, appV, srcOf, cellsAt, b2sP, hb, hb0, hb1, hb2, hb3, hb4, t3, t2]
    refine joinP_go ?_
    simp [shr24, shr16, shr8, w8m, appP, appV, srcOf, cellsAt, b2sP, hb, hb0, hb1, hb2, hb3, hb4, t3, t2]
    refine Gives.done (Nat.zero_le _) ?_
    rw [unr]
    simp [shr24, shr16, shr8, w8m, appP, appV, srcOf, cellsAt, b2sP, hb, hb0, hb1, hb2, hb3, hb4, t3, t2]
    refine joinP_go ?_
    simp [shr24, shr16, shr8, w8m, appP, appV, srcOf, cellsAt, b2sP, hb, hb0, hb1, hb2, hb3, hb4, t3, t2]
    refine Gives.done (Nat.zero_le _) ?_
    rw [unr]
    simp [shr24, shr16, shr8, w8m, appP, appV, srcOf, cellsAt, b2sP, hb, hb0, hb1, hb2, hb3, hb4, t3, t2]
    refine joinP_go ?_
    simp [shr24, shr16, shr8, w8m, appP, appV, srcOf, cellsAt, b2sP, hb, hb0, hb1, hb2, hb3, hb4, t3, t2]
    refine iteP_both ?_
    refine Gives.done (Nat.zero_le _) ?_
    rw [unr]
    simp [shr24, shr16, shr8, w8m, appP, appV, srcOf, cellsAt, b2sP, hb, hb0, hb1, hb2, hb3, hb4, t3, t2]
    refine joinP_go ?_
    simp [shr24, shr16, shr8, w8m, appP, appV, srcOf, cellsAt, b2sP, hb, hb0, hb1, hb2, hb3, hb4, t3, t2]
    refine iteP_both ?_
    refine Gives.done (Nat.zero_le _) ?_
    rw [unr]
    simp [shr24, shr16, shr8, w8m, appP, appV, srcOf, cellsAt, b2sP, hb, hb0, hb1, hb2, hb3, hb4, t3, t2]
    exact Ans.rfl' _
  · rw [nE]
    rw [if_neg c0]
    rw [if_neg c1]
    rw [if_neg c2]
    rw [if_neg c3]
    have t3 : (x / 16777216 % 256 != 0) = true := by simp; omega
    refine loopP_unr 5 ?_
    rw [unr]
    simp [shr24, shr16, shr8, w8m, appP, appV, srcOf, cellsAt, b2sP, hb, hb0, hb1, hb2, hb3, hb4, t3]
    refine joinP_go ?_
    simp [shr24, shr16, shr8, w8m, appP, appV, srcOf, cellsAt, b2sP, hb, hb0, hb1, hb2, hb3, hb4, t3]
    refine Gives.done (Nat.zero_le _) ?_
    rw [unr]
    simp [shr24, shr16, shr8, w8m, appP, appV, srcOf, cellsAt, b2sP, hb, hb0, hb1, hb2, hb3, hb4, t3]
    refine joinP_go ?_
    simp [shr24, shr16, shr8, w8m, appP, appV, srcOf, cellsAt, b2sP, hb, hb0, hb1, hb2, hb3, hb4, t3]
    refine iteP_both ?_
    refine Gives.done (Nat.zero_le _) ?_
    rw [unr]
    simp [shr24, shr16, shr8, w8m, appP, appV, srcOf, cellsAt, b2sP, hb, hb0, hb1, hb2, hb3, hb4, t3]
    refine joinP_go ?_
    simp [shr24, shr16, shr8, w8m, appP, appV, srcOf, cellsAt, b2sP, hb, hb0, hb1, hb2, hb3, hb4, t3]
    refine iteP_both ?_
    refine Gives.done (Nat.zero_le _) ?_
    rw [unr]
    simp [shr24, shr16, shr8, w8m, appP, appV, srcOf, cellsAt, b2sP, hb, hb0, hb1, hb2, hb3, hb4, t3]
    refine joinP_go ?_
    simp [shr24, shr16, shr8, w8m, appP, appV, srcOf, cellsAt, b2sP, hb, hb0, hb1, hb2, hb3, hb4, t3]
    refine iteP_both ?_
    refine Gives.done (Nat.zero_le _) ?_
    rw [unr]
    simp [shr24, shr16, shr8, w8m, appP, appV, srcOf, cellsAt, b2sP, hb, hb0, hb1, hb2, hb3, hb4, t3]
    exact Ans.rfl' _
end Go.AI

/- Numbers, one behind the other. -/
set_option linter.all false
namespace Go.AI
variable {A : Type} {R : Adts A}
def nS (x : Int) : Bs0 := if nMay x = true then nE x else []
theorem nE_len (x : Int) : (nE x).length ≤ 5 ∧ nE x ≠ [] := by
  unfold nE; split
  · simp
  · split
    · simp
    · split
      · simp
      · split <;> simp
theorem nS_len (x : Int) : (nS x).length ≤ 5 := by
  unfold nS; split
  · exact (nE_len x).1
  · simp
def nAll (l : List Int) : Bs0 := l.flatMap nS
theorem nAll_len : ∀ l : List Int, (nAll l).length ≤ 5 * l.length
  | [] => by simp [nAll]
  | x :: l => by have := nAll_len l; have := nS_len x; simp only [nAll, List.flatMap_cons, List.length_append, List.length_cons] at *; omega
theorem ref1_Num_any (hR : R.Ok) (x : Int) {h : AHeap A} {K : AVal → AHeap A → Prop} (hk : K (.tup [.str (nS x), .int .i64 (if nMay x = true then 0 else 100)]) h) : Tri Pr R n_ref1_Num [.int .i64 x] h K := by
  by_cases hx : nMay x = true
  · rw [nS, if_pos hx, if_pos hx] at hk; exact ref1_Num_ok hR x hx hk
  · rw [nS, if_neg hx, if_neg hx] at hk; exact ref1_Num_bad hR x (by simpa using hx) hk
theorem field_Num_any (hR : R.Ok) (x : Int) {h : AHeap A} {K : AVal → AHeap A → Prop} (hk : K (.tup [.str (nS x), .int .i64 (if nMay x = true then 0 else 100)]) h) : Tri Pr R n_field_Num [.int .i64 x] h K := by
  by_cases hx : nMay x = true
  · rw [nS, if_pos hx, if_pos hx] at hk; exact field_Num_ok hR x hx hk
  · rw [nS, if_neg hx, if_neg hx] at hk; exact field_Num_bad hR x (by simpa using hx) hk
theorem ref1_Nums_ok (hR : R.Ok) (l : List Int) (hl : l.length ≤ 1000) (ex : Bool) {t : TypeId} {h : AHeap A} {b : Nat} (hb : h[b]? = some (.cells t (l.map (.int .i64)))) {K : AVal → AHeap A → Prop} (hk : K (.str (nAll l)) h) :
    Tri Pr R n_ref1_Nums [.sl b 0 l.length l.length ex] h K := by
  have hren : ∀ τ, (AObj.cells t (l.map (.int .i64)) : AObj A).ren R τ = .cells t (l.map (.int .i64)) := fun τ => by
    simp only [AObj.ren]; rw [rens_ix0 τ _ (by simp [ixs_all, AVal.ix])]
  have hix : (AObj.cells t (l.map (.int .i64)) : AObj A).ix R 1 := by show ixs 1 _ = true; simp [ixs_all, AVal.ix]
  refine Tri.own hR (as2 := [.sl 0 0 l.length l.length ex]) (Q := fun v o => v = .str (nAll l) ∧ o = .cells t (l.map (.int .i64))) rfl hix ?_ hren ?_ hb (by simp [rens, AVal.ren]) ?_
  · rintro _ _ ⟨rfl, rfl⟩; exact ⟨rfl, hren⟩
  · apply c_ref1_Nums
    unfold p_ref1_Nums
    refine loopP_go (fun m y g => ∃ i : Nat, y = [.str (nAll (l.take i)), .int .i64 i] ∧ g = [.cells t (l.map (.int .i64))] ∧ i ≤ l.length ∧ m = l.length - i) l.length (Gives.done (by simp) ⟨0, by simp [nAll], rfl, by omega, by omega⟩) ?_
    rintro m y g ⟨i, rfl, rfl, hi, rfl⟩
    simp
    refine iteP_of (fun h1 => ?_) (fun h1 => ?_)
    · simp at h1
      have e1 := w64 (n := (i : Int) + 1) (by omega)
      have hlen := nAll_len (l.take i)
      have hlen2 := nS_len l[i]
      have htk : (l.take i).length = i := by simp; omega
      have hsp : nAll (l.take (i + 1)) = nAll (l.take i) ++ nS l[i] := by rw [← List.take_append_getElem h1]; simp only [nAll, List.flatMap_append]; simp
      simp [h1]
      refine ref1_Num_any hR _ ?_
      have hadd : (nAll (l.take i)).length + (nS l[i]).length < 9223372036854775808 := by omega
      simp [e1, hadd]
      exact Gives.done (by simp) ⟨l.length - (i + 1), by omega, i + 1, by rw [hsp]; simp, rfl, by omega, rfl⟩
    · simp at h1
      obtain rfl : i = l.length := by omega
      simp
  · rintro _ _ ⟨rfl, rfl⟩
    have : h.set b (.cells t (l.map (.int .i64))) = h := by
      obtain ⟨hlt, he⟩ := List.getElem?_eq_some_iff.1 hb
      rw [← he]; exact List.set_getElem_self hlt
    rw [this]; exact hk
end Go.AI

/- Numbers out of bytes, plainly. -/
set_option linter.all false
namespace Go.AI
def bAcc (l : Bs0) : Nat := l.foldl (fun x b => x * 256 + b.toNat) 0
theorem bAcc_snoc (l : Bs0) (b : UInt8) : bAcc (l ++ [b]) = bAcc l * 256 + b.toNat := by simp [bAcc, List.foldl_append]
theorem bAcc_lt : ∀ l : Bs0, bAcc l < 256 ^ l.length := by
  intro l
  have key : ∀ (l : Bs0) (a : Nat), l.foldl (fun x b => x * 256 + b.toNat) a < (a + 1) * 256 ^ l.length := by
    intro l
    induction l with
    | nil => intro a; simp
    | cons b r ih =>
      intro a
      have h1 := ih (a * 256 + b.toNat)
      have h2 : b.toNat < 256 := UInt8.toNat_lt b
      have h3 : (a * 256 + b.toNat + 1) * 256 ^ r.length ≤ (a * 256 + 256) * 256 ^ r.length := Nat.mul_le_mul_right _ (by omega)
      simp only [List.foldl_cons, List.length_cons, Nat.pow_succ]
      calc _ < _ := h1
        _ ≤ _ := h3
        _ = _ := by rw [show a * 256 + 256 = (a + 1) * 256 by omega, Nat.mul_assoc, Nat.mul_comm 256]
  have := key l 0
  simpa [bAcc] using this
/-- A number that stands at a place: it, where it ends, the error. -/
def gNum (s : Bs0) (at_ : Int) : Int × Int × Int :=
  if at_ < 0 ∨ (s.length : Int) < at_ then (0, 0, 100)
  else if at_ = s.length then (0, 0, 101)
  else
    let n := (s.getD at_.toNat 0).toNat
    if 4 < n then (0, 0, 100)
    else if s.length < at_.toNat + 1 + n then (0, 0, 101)
    else
      let x := bAcc ((s.drop (at_.toNat + 1)).take n)
      if nW x ≠ n ∨ 1073741823 < x then (0, 0, 100) else (x, at_ + 1 + n, 0)
theorem nW_head {l : Bs0} (h : l.length ≤ 4) : nW (bAcc l) = l.length ↔ ¬ (0 < l.length ∧ l.getD 0 0 = 0) := by
  have z : ∀ b : UInt8, b = 0 ↔ b.toNat = 0 := fun b => ⟨fun h => by rw [h]; rfl, fun h => UInt8.toNat_inj.1 (by rw [h]; rfl)⟩
  have lt : ∀ b : UInt8, b.toNat < 256 := fun b => UInt8.toNat_lt b
  match l, h with
  | [], _ => simp [bAcc, nW]
  | [a], _ => have := lt a; simp [bAcc, nW, z]; split <;> (try split) <;> omega
  | [a, b], _ => have := lt a; have := lt b; simp [bAcc, nW, z]; split <;> (try split) <;> (try split) <;> omega
  | [a, b, c], _ => have := lt a; have := lt b; have := lt c; simp [bAcc, nW, z]; split <;> (try split) <;> (try split) <;> (try split) <;> omega
  | [a, b, c, d], _ => have := lt a; have := lt b; have := lt c; have := lt d; simp [bAcc, nW, z]; split <;> (try split) <;> (try split) <;> (try split) <;> omega
  | _ :: _ :: _ :: _ :: _ :: _, h => simp at h
theorem bb_toNat (x : Int) : ((bb x).toNat : Int) = x % 256 := by
  unfold bb
  rw [UInt8.toNat_ofNat']
  omega
theorem bb_of {x : Int} {b : UInt8} (h : x % 256 = b.toNat) : bb x = b := by
  apply UInt8.toNat_inj.1
  have := bb_toNat x
  omega
/-- What was read stands there as it is written. -/
theorem gNum_enc {s : Bs0} {at_ x to : Int} (h : gNum s at_ = (x, to, 0)) : nMay x = true ∧ 0 ≤ at_ ∧ at_ < to ∧ to ≤ s.length ∧ (s.drop at_.toNat).take (to - at_).toNat = nE x := by
  unfold gNum at h
  split at h
  · simp at h
  rename_i h1
  split at h
  · simp at h
  rename_i h2
  have hlt : at_.toNat < s.length := by omega
  have hg : s.getD at_.toNat 0 = s[at_.toNat] := by simp [List.getD_eq_getElem?_getD, hlt]
  simp only [hg] at h
  split at h
  · simp at h
  rename_i h3
  split at h
  · simp at h
  rename_i h4
  split at h
  · simp at h
  rename_i h5
  obtain ⟨n, hn⟩ : ∃ n, (s[at_.toNat]).toNat = n := ⟨_, rfl⟩
  rw [hn] at h h3 h4 h5
  obtain ⟨l, hl⟩ : ∃ l, (s.drop (at_.toNat + 1)).take n = l := ⟨_, rfl⟩
  rw [hl] at h h5
  have hll : l.length = n := by rw [← hl]; simp; omega
  simp at h
  obtain ⟨rfl, rfl, -⟩ := h
  have hx : nMay (bAcc l : Int) = true := by simp [nMay]; omega
  refine ⟨hx, by omega, by omega, by omega, ?_⟩
  have hd : (s.drop at_.toNat).take (at_ + 1 + n - at_).toNat = s[at_.toNat] :: l := by
    rw [show (at_ + 1 + n - at_).toNat = n + 1 by omega, List.drop_eq_getElem_cons hlt, List.take_succ_cons, hl]
  rw [hd]
  have h6 : nW (bAcc l) = n := by
    have : ¬ (nW ↑(bAcc l) ≠ ↑n) := fun h => h5 (.inl h)
    simpa using this
  have lt : ∀ b : UInt8, b.toNat < 256 := fun b => UInt8.toNat_lt b
  have hb : s[at_.toNat] = UInt8.ofNat n := by rw [← hn]; simp
  rw [hb]
  clear hb hd hl hn h1 h2 hlt hg h4 h5 hx
  match l, hll with
  | [], hll =>
    simp at hll; subst hll; rfl
  | [a], hll =>
    have := lt a
    simp at hll; subst hll
    simp [bAcc, nW] at h6 ⊢
    unfold nE
    have : ¬ (a.toNat : Int) < 1 := by
      intro h; rw [if_pos h] at h6; omega
    rw [if_neg this, if_pos (by omega), bb_of (x := (a.toNat : Int)) (b := a) (by omega)]
  | [a, b], hll =>
    have := lt a; have := lt b
    simp at hll; subst hll
    simp [bAcc, nW] at h6 ⊢
    unfold nE
    have : ¬ ((a.toNat : Int) * 256 + b.toNat) < 256 := by
      intro h; split at h6
      · omega
      · first | omega | (rw [if_pos h] at h6; omega)
    rw [if_neg (by omega), if_neg this, if_pos (by omega), bb_of (b := a) (by omega), bb_of (b := b) (by omega)]
  | [a, b, c], hll =>
    have := lt a; have := lt b; have := lt c
    simp at hll; subst hll
    simp [bAcc, nW] at h6 ⊢
    unfold nE
    have : ¬ (((a.toNat : Int) * 256 + b.toNat) * 256 + c.toNat) < 65536 := by
      intro h; split at h6
      · omega
      · split at h6
        · omega
        · first | omega | (rw [if_pos h] at h6; omega)
    rw [if_neg (by omega), if_neg (by omega), if_neg this, if_pos (by omega), bb_of (b := a) (by omega), bb_of (b := b) (by omega), bb_of (b := c) (by omega)]
  | [a, b, c, d], hll =>
    have := lt a; have := lt b; have := lt c; have := lt d
    simp at hll; subst hll
    simp [bAcc, nW] at h6 ⊢
    unfold nE
    have : ¬ ((((a.toNat : Int) * 256 + b.toNat) * 256 + c.toNat) * 256 + d.toNat) < 16777216 := by
      intro h; split at h6
      · omega
      · split at h6
        · omega
        · split at h6
          · omega
          · first | omega | (rw [if_pos h] at h6; omega)
    rw [if_neg (by omega), if_neg (by omega), if_neg (by omega), if_neg this, bb_of (b := a) (by omega), bb_of (b := b) (by omega), bb_of (b := c) (by omega), bb_of (b := d) (by omega)]
  | _ :: _ :: _ :: _ :: _ :: _, hll => simp at hll; omega
end Go.AI

/- A book: its lists as one object; what its methods do. -/
set_option linter.all false
namespace Go.AI
variable {A : Type} {R : Adts A}
abbrev Bs := List UInt8
/-- A term's place. -/
def bFind (ts : List Bs) (s : Bs) : Option Nat := ts.idxOf? s
/-- A term is named: the terms behind it, the name, the error. -/
def bName (most : Int) (ts : List Bs) (s : Bs) : List Bs × Int × Int :=
  if s = [] ∨ 512 < s.length then (ts, 0, 200)
  else match bFind ts s with
    | some i => (ts, i, 0)
    | none => if most ≤ ts.length then (ts, 0, 201) else (ts ++ [s], ts.length, 0)
def bEnts : List Bs → Nat → List AEnt
  | [], _ => []
  | s :: r, i => ⟨.str s, .int .i64 i, i⟩ :: bEnts r (i + 1)
def bookG (m : Int) (ts : List Bs) : Grp A :=
  if ts = [] then { e := t_book_Book, cs := [.g (.int .i64 m), .g .nils, .mp 0], subs := [.map [] 0] }
  else { e := t_book_Book, cs := [.g (.int .i64 m), .sl 1 0 ts.length ts.length false, .mp 0], subs := [.map (bEnts ts 0) ts.length, .cells t_string (ts.map .str)] }
def rbookG (m : Int) (ts : List Bs) : Grp A :=
  if ts = [] then { e := t_bastionref1_Book, cs := [.g (.int .i64 m), .g .nils], subs := [] }
  else { e := t_bastionref1_Book, cs := [.g (.int .i64 m), .sl 0 0 ts.length ts.length false], subs := [.cells t_string (ts.map .str)] }
/-- The data types know books. -/
structure HasBook (R : Adts A) (mk : Int → List Bs → A) : Prop where
  lay : ∀ m ts g, R.lay (mk m ts) g ↔ g = bookG m ts
  ren : ∀ τ m ts, R.ren τ (mk m ts) = mk m ts
structure HasRBook (R : Adts A) (mk : Int → List Bs → A) : Prop where
  lay : ∀ m ts g, R.lay (mk m ts) g ↔ g = rbookG m ts
  ren : ∀ τ m ts, R.ren τ (mk m ts) = mk m ts
theorem bEnts_length : ∀ (ts : List Bs) (i : Nat), (bEnts ts i).length = ts.length
  | [], _ => rfl
  | s :: r, i => by simp [bEnts, bEnts_length r]
theorem bEnts_append : ∀ (ts us : List Bs) (i : Nat), bEnts (ts ++ us) i = bEnts ts i ++ bEnts us (i + ts.length)
  | [], us, i => by simp [bEnts]
  | s :: r, us, i => by simp [bEnts, bEnts_append r]; congr 1; omega
theorem findK_bEnts (s : Bs) : ∀ (ts : List Bs) (i j : Nat), findK true (.str s) (bEnts ts i) j = some ((bFind ts s).map fun k => (j + k, .int .i64 ((i + k : Nat) : Int)))
  | [], i, j => by simp [bEnts, findK, bFind]
  | t :: r, i, j => by
    simp only [bEnts, findK]
    have ih := findK_bEnts s r (i + 1) (j + 1)
    by_cases h : s = t
    · subst h; simp [sameKey, bFind, List.idxOf?, List.findIdx?_cons]
    · have h2 : (t == s) = false := by simp [Ne.symm h]
      have h3 : (s == t) = false := by simp [h]
      have h4 : bFind (t :: r) s = (bFind r s).map (· + 1) := by simp [bFind, List.idxOf?, List.findIdx?_cons, h2]
      simp only [sameKey, h3, ih, h4, Option.map_map]
      congr 2
      funext k
      simp only [Function.comp]
      rw [show j + 1 + k = j + (k + 1) by omega, show i + 1 + k = i + (k + 1) by omega]
/-- What holds of a book. -/
structure bOk (m : Int) (ts : List Bs) : Prop where
  most : 1 ≤ m ∧ m ≤ 65536
  len : (ts.length : Int) ≤ m
  short : ∀ t ∈ ts, t ≠ [] ∧ t.length ≤ 512
  nd : ts.Nodup
theorem bName_ok {m : Int} {ts : List Bs} {s : Bs} (h : bOk m ts) : bOk m (bName m ts s).1 := by
  unfold bName
  split
  · exact h
  · rename_i h1
    split
    · exact h
    · rename_i h2
      split
      · exact h
      · rename_i h3
        refine ⟨h.most, by simp; omega, fun t ht => ?_, ?_⟩
        · rcases List.mem_append.1 ht with h4 | h4
          · exact h.short t h4
          · simp at h4; subst h4; exact ⟨fun h => h1 (.inl h), by omega⟩
        · rw [List.nodup_append]
          refine ⟨h.nd, by simp, fun a ha b hb he => ?_⟩
          simp at hb; subst hb; subst he
          simp [bFind] at h2
          exact h2 ha
section book
variable {mk : Int → List Bs → A}
theorem book_ix (hB : HasBook R mk) (m : Int) (ts : List Bs) (n : Nat) : (AObj.adt (mk m ts)).ix R n := by
  intro g hg
  obtain rfl := (hB.lay _ _ _).1 hg
  unfold bookG
  have h1 : ixs n (ts.map .str) = true := by simp [ixs_all, AVal.ix]
  have h2 : ∀ (ts : List Bs) (i : Nat), ∀ e ∈ bEnts ts i, e.key.ix n = true ∧ e.val.ix n = true := by
    intro ts
    induction ts with
    | nil => intro i e he; cases he
    | cons t r ih => intro i e he; rcases List.mem_cons.1 he with rfl | he; exact ⟨rfl, rfl⟩; exact ih _ e he
  split
  · simp [AVal.ix]
  · simp [AVal.ix, h1]; exact h2 ts 0
theorem book_ren (hB : HasBook R mk) (m : Int) (ts : List Bs) (τ : Nat → Nat) : (AObj.adt (mk m ts)).ren R τ = .adt (mk m ts) := by simp [AObj.ren, hB.ren]
/-- A new book. -/
theorem book_New_ok (hR : R.Ok) (hB : HasBook R mk) (m : Int) {h : AHeap A} {K : AVal → AHeap A → Prop}
    (hk : if 1 ≤ m ∧ m ≤ 65536 then K (.tup [.ptr h.length 0, .int .i64 0]) (h ++ [.adt (mk m [])]) else K (.tup [.nilp, .int .i64 200]) h) : Tri Pr R n_book_New [.int .i64 m] h K := by
  by_cases hm : 1 ≤ m ∧ m ≤ 65536
  · rw [if_pos hm] at hk
    refine Tri.make hR rfl (v0 := .tup [.ptr 0 0, .int .i64 0]) (h0 := [.adt (mk m [])]) (Tri.post ?_) (by simpa [AVal.ren, rens, book_ren hB] using hk)
    apply c_book_New
    unfold p_book_New
    have h1 : ¬ m < 1 := by omega
    have h2 : ¬ 65536 < m := by omega
    simp [h1, h2, mkmP]
    refine Gives.shut 1 [0] (mk m []) (bookG m []) ((hB.lay _ _ _).2 rfl) rfl rfl (fun i s hs => ?_) (by simp) (by simp [bookG]) (by simp [bookG]) ?_
    · match i, hs with
      | 0, hs => simp [bookG] at hs; subst hs; exact ⟨rfl, rfl⟩
      | i + 1, hs => simp [bookG] at hs
    · refine Gives.pick hR [] [.dead] (.adt (mk m [])) _ [.tup [.ptr 0 0, .int .i64 0]] rfl (by simp) (by simp) ⟨book_ix hB _ _ _, book_ren hB _ _⟩ (by simp [rens, AVal.ren]) rfl ?_
      exact ⟨_, rfl, rfl, rfl⟩
  · rw [if_neg hm] at hk
    refine Tri.fn1 hR _ rfl rfl ?_ hk
    apply c_book_New
    unfold p_book_New
    simp
    refine iteP_of (fun h1 => iteP_of (fun h2 => Ans.rfl' _) (fun h2 => ?_)) (fun h1 => Ans.rfl' _)
    simp at h1 h2; omega
theorem bEnts_born (ts : List Bs) : ∀ (i : Nat), ∀ e ∈ bEnts ts i, e.born < i + ts.length := by
  induction ts with
  | nil => intro i e he; cases he
  | cons t r ih =>
    intro i e he
    rcases List.mem_cons.1 he with rfl | he
    · simp
    · have := ih (i + 1) e he; simp; omega
theorem bEnts_nf (ts : List Bs) : (bEnts ts 0).findIdx? (fun e => (e.born : Int) == (ts.length : Int)) = none := by
  rw [List.findIdx?_eq_none_iff]
  intro e he
  have := bEnts_born ts 0 e he
  simp; omega
theorem bEnts_put (ts : List Bs) (z v : AVal) (s : Bs) : (bEnts ts 0 ++ [({ key := .str s, val := z, born := ts.length } : AEnt)]).modify ts.length (fun e => { key := e.key, val := v, born := e.born }) = bEnts ts 0 ++ [⟨.str s, v, ts.length⟩] := by
  apply List.ext_getElem?
  intro k
  rw [List.getElem?_modify]
  have hl := bEnts_length ts 0
  by_cases h1 : k < ts.length
  · rw [List.getElem?_append_left (by omega), List.getElem?_append_left (by omega)]
    simp [show ts.length ≠ k by omega]
  · by_cases h2 : k = ts.length
    · subst h2
      rw [List.getElem?_append_right (by omega), List.getElem?_append_right (by omega)]
      simp [hl]
    · rw [List.getElem?_eq_none (by simp; omega), List.getElem?_eq_none (by simp; omega)]
      rfl
theorem bEnts_snoc (ts : List Bs) (s : Bs) : bEnts (ts ++ [s]) 0 = bEnts ts 0 ++ [⟨.str s, .int .i64 ts.length, ts.length⟩] := by
  rw [bEnts_append]; simp [bEnts]
theorem take1_set (h : AHeap A) (o : AObj A) (hl : 0 < h.length) : (h.set 0 o).take 1 = [o] := by
  cases h with
  | nil => simp at hl
  | cons a r => simp
/-- A book is told as one object again. -/
theorem book_shut0 (hR : R.Ok) (hB : HasBook R mk) {m : Int} {h : AHeap A} {v : AVal} {K : List AVal → AHeap A → Prop} (j0 : Nat) (h0 : h[0]? = some (.cells t_book_Book [.int .i64 m, .nils, .map j0])) (hm : h[j0]? = some (.map [] 0))
    (hd : 0 ≠ j0) (hv : v.ix 0 = true) (hk : K [v] [.adt (mk m [])]) : Gives Pr R 1 h [v] K := by
  have hl := (List.getElem?_eq_some_iff.1 h0).1
  refine Gives.shut 0 [j0] (mk m []) (bookG m []) ((hB.lay _ _ _).2 rfl) (by simpa [bookG, GC.on] using h0) rfl (fun i s hs => ?_) (by simp [hd]) (by simp [bookG]) (by simp [bookG]) ?_
  · match i, hs with
    | 0, hs => simp [bookG] at hs; subst hs; exact ⟨hm, rfl⟩
    | i + 1, hs => simp [bookG] at hs
  · have e := take1_set (kills h [j0]) (.adt (mk m [])) (by rw [kills_length]; exact hl)
    refine Gives.cut hR (m := 1) (by omega) (by simp [kills_length]; omega) (by simp [ixs, ix_mono (Nat.zero_le 1) v hv]) (by rw [e]; simp; exact ⟨book_ix hB _ _ _, fun τ _ => book_ren hB _ _ _⟩) (by rw [e]; exact hk)
theorem book_shut (hR : R.Ok) (hB : HasBook R mk) {m : Int} {ts : List Bs} (hne : ts ≠ []) {h : AHeap A} {v : AVal} {K : List AVal → AHeap A → Prop} (j0 j1 n : Nat) (hn : n = ts.length) (h0 : h[0]? = some (.cells t_book_Book [.int .i64 m, .sl j1 0 n n false, .map j0]))
    (hm : h[j0]? = some (.map (bEnts ts 0) n)) (hs : h[j1]? = some (.cells t_string (ts.map .str)))
    (hd : 0 ≠ j0 ∧ 0 ≠ j1 ∧ j0 ≠ j1) (hv : v.ix 0 = true) (hk : K [v] [.adt (mk m ts)]) : Gives Pr R 1 h [v] K := by
  subst hn
  have hl := (List.getElem?_eq_some_iff.1 h0).1
  refine Gives.shut 0 [j0, j1] (mk m ts) (bookG m ts) ((hB.lay _ _ _).2 rfl) (by simpa [bookG, GC.on, hne] using h0) (by simp [bookG, hne]) (fun i s hs' => ?_) (by simp [hd]) (by simp [bookG, hne]; omega) (by simp [bookG, hne]) ?_
  · match i, hs' with
    | 0, hs' => simp [bookG, hne] at hs'; subst hs'; exact ⟨hm, rfl⟩
    | 1, hs' => simp [bookG, hne] at hs'; subst hs'; exact ⟨hs, rfl⟩
    | i + 2, hs' => simp [bookG, hne] at hs'
  · have e := take1_set (kills h [j0, j1]) (.adt (mk m ts)) (by rw [kills_length]; exact hl)
    refine Gives.cut hR (m := 1) (by omega) (by simp [kills_length]; omega) (by simp [ixs, ix_mono (Nat.zero_le 1) v hv]) (by rw [e]; simp; exact ⟨book_ix hB _ _ _, fun τ _ => book_ren hB _ _ _⟩) (by rw [e]; exact hk)
/-- A term is named. -/
theorem book_Name_ok (hR : R.Ok) (hB : HasBook R mk) {m : Int} {ts : List Bs} (hok : bOk m ts) (s : Bs) {h : AHeap A} {b : Nat} (hb : h[b]? = some (.adt (mk m ts))) {K : AVal → AHeap A → Prop}
    (hk : K (.tup [.int .i64 (bName m ts s).2.1, .int .i64 (bName m ts s).2.2]) (h.set b (.adt (mk m (bName m ts s).1)))) : Tri Pr R n_book_Book_Name [.ptr b 0, .str s] h K := by
  refine Tri.own hR (as2 := [.ptr 0 0, .str s]) (Q := fun v o => v = .tup [.int .i64 (bName m ts s).2.1, .int .i64 (bName m ts s).2.2] ∧ o = .adt (mk m (bName m ts s).1)) rfl (book_ix hB _ _ _) ?_ (book_ren hB _ _) ?_ hb (by simp [rens, AVal.ren]) ?_
  · rintro _ _ ⟨rfl, rfl⟩; exact ⟨rfl, book_ren hB _ _⟩
  · refine Tri.post (Tri.pre (Gives.opened 0 rfl (by simp) fun g hg => ?_))
    obtain rfl := (hB.lay _ _ _).1 hg
    refine Gives.done (by simp) ?_
    apply c_book_Book_Name
    unfold p_book_Book_Name
    have hm := hok.most
    have hlen := hok.len
    obtain ⟨r, hr⟩ : ∃ r, bName m ts s = r := ⟨_, rfl⟩
    rw [hr]
    unfold bName at hr
    by_cases h0 : ts = []
    · subst h0
      have hf : bFind [] s = none := rfl
      have h5 : ¬ m ≤ 0 := by omega
      split at hr
      · rename_i h1
        subst hr
        simp [bookG, GC.at]
        refine iteP_of (fun h2 => iteP_of (fun h3 => ?_) (fun h3 => ?_)) (fun h2 => ?_)
        · exact book_shut0 hR hB 1 rfl rfl (by omega) rfl ⟨_, rfl, _, ⟨rfl, rfl⟩, rfl⟩
        · simp at h2 h3; rcases h1 with h1 | h1; exact (h2 h1).elim; omega
        · exact book_shut0 hR hB 1 rfl rfl (by omega) rfl ⟨_, rfl, _, ⟨rfl, rfl⟩, rfl⟩
      · rename_i h1
        have h2 : s.isEmpty = false := by simp; exact fun h => h1 (.inl h)
        have h3 : ¬ (512 : Int) < s.length := by omega
        simp [hf, h5] at hr
        subst hr
        simp [bookG, GC.at, h2, h3, lkP, keyOk, mapAt, findK, h5, appP, appV, srcOf, cellsAt, mentP, mentV, AVal.scalar, estP, estV]
        exact book_shut hR hB (ts := [s]) (by simp) 1 3 1 rfl rfl rfl rfl (by omega) rfl ⟨_, rfl, _, ⟨rfl, rfl⟩, rfl⟩
    · split at hr
      · rename_i h1
        subst hr
        simp [bookG, GC.at, h0]
        refine iteP_of (fun h2 => iteP_of (fun h3 => ?_) (fun h3 => ?_)) (fun h2 => ?_)
        · exact book_shut hR hB h0 1 2 _ rfl rfl rfl rfl (by omega) rfl ⟨_, rfl, _, ⟨rfl, rfl⟩, rfl⟩
        · simp at h2 h3; rcases h1 with h1 | h1; exact (h2 h1).elim; omega
        · exact book_shut hR hB h0 1 2 _ rfl rfl rfl rfl (by omega) rfl ⟨_, rfl, _, ⟨rfl, rfl⟩, rfl⟩
      · rename_i h1
        have h2 : s.isEmpty = false := by simp; exact fun h => h1 (.inl h)
        have h3 : ¬ (512 : Int) < s.length := by omega
        cases hf : bFind ts s with
        | some i =>
          simp [hf] at hr
          subst hr
          simp [bookG, GC.at, h0, h2, h3, lkP, keyOk, mapAt, findK_bEnts, hf]
          exact book_shut hR hB h0 1 2 _ rfl rfl rfl rfl (by omega) rfl ⟨_, rfl, _, ⟨rfl, rfl⟩, rfl⟩
        | none =>
          by_cases h4 : m ≤ ts.length
          · simp [hf, h4] at hr
            subst hr
            simp [bookG, GC.at, h0, h2, h3, lkP, keyOk, mapAt, findK_bEnts, hf, h4]
            exact book_shut hR hB h0 1 2 _ rfl rfl rfl rfl (by omega) rfl ⟨_, rfl, _, ⟨rfl, rfl⟩, rfl⟩
          · simp [hf, h4] at hr
            subst hr
            have h6 : ¬ ts.length + 1 ≤ ts.length := by omega
            have h7 : (2 * (ts.length + 1) + 1000) * 16 ≤ 140737488355328 := by omega
            simp [bookG, GC.at, h0, h2, h3, lkP, keyOk, mapAt, findK_bEnts, hf, h4, appP, appV, srcOf, cellsAt, h6, h7, mentP, mentV, AVal.scalar, estP, estV, bEnts_nf, bEnts_length, bEnts_put]
            refine book_shut hR hB (ts := ts ++ [s]) (by simp) 1 4 (ts.length + 1) (by simp) rfl ?_ ?_ (by omega) rfl ⟨_, rfl, _, ⟨rfl, rfl⟩, rfl⟩
            · simp [bEnts_snoc]
            · simp
              exact List.take_of_length_le (by simp)
  · rintro _ _ ⟨rfl, rfl⟩; exact hk
end book
end Go.AI

/- A book's other methods; the document's book. -/
set_option linter.all false
namespace Go.AI
variable {A : Type} {R : Adts A}
theorem set_same {h : AHeap A} {b : Nat} {o : AObj A} (hb : h[b]? = some o) : h.set b o = h := by
  obtain ⟨hlt, he⟩ := List.getElem?_eq_some_iff.1 hb
  rw [← he]; exact List.set_getElem_self hlt
section book
variable {mk : Int → List Bs → A}
/-- A call that looks into a book alone. -/
theorem book_look (hR : R.Ok) (hB : HasBook R mk) {m : Int} {ts : List Bs} {f : FuncId} {us : List AVal} (hus : us.all (AVal.ix 0) = true) {v : AVal} (hv : v.ix 0 = true)
    (t0 : ts = [] → Tri Pr R f (.ptr 0 0 :: us) [.cells t_book_Book [.int .i64 m, .nils, .map 1], .map [] 0] fun u g => u = v ∧ g = [.cells t_book_Book [.int .i64 m, .nils, .map 1], .map [] 0])
    (t1 : ts ≠ [] → Tri Pr R f (.ptr 0 0 :: us) [.cells t_book_Book [.int .i64 m, .sl 2 0 ts.length ts.length false, .map 1], .map (bEnts ts 0) ts.length, .cells t_string (ts.map .str)] fun u g => u = v ∧ g = [.cells t_book_Book [.int .i64 m, .sl 2 0 ts.length ts.length false, .map 1], .map (bEnts ts 0) ts.length, .cells t_string (ts.map .str)])
    {h : AHeap A} {b : Nat} (hb : h[b]? = some (.adt (mk m ts))) {K : AVal → AHeap A → Prop} (hk : K v h) : Tri Pr R f (.ptr b 0 :: us) h K := by
  have hus' : ixs 0 us = true := by rw [ixs_all]; exact hus
  refine Tri.own hR (as2 := .ptr 0 0 :: us) (Q := fun u o => u = v ∧ o = .adt (mk m ts)) ?_ (book_ix hB _ _ _) ?_ (book_ren hB _ _) ?_ hb ?_ ?_
  · simp [ixs, AVal.ix, ixs_mono (Nat.zero_le 1) us hus']
  · rintro _ _ ⟨rfl, rfl⟩; exact ⟨hv, book_ren hB _ _⟩
  · refine Tri.post (Tri.pre (Gives.opened 0 rfl (by simp) fun g hg => ?_))
    obtain rfl := (hB.lay _ _ _).1 hg
    refine Gives.done (by simp) ?_
    by_cases h0 : ts = []
    · subst h0
      simp [bookG, GC.at]
      refine (t0 rfl).mono ?_
      rintro _ _ ⟨rfl, rfl⟩
      exact book_shut0 hR hB 1 rfl rfl (by omega) hv ⟨_, rfl, _, ⟨rfl, rfl⟩, rfl⟩
    · simp [bookG, GC.at, h0]
      refine (t1 h0).mono ?_
      rintro _ _ ⟨rfl, rfl⟩
      exact book_shut hR hB h0 1 2 _ rfl rfl rfl rfl (by omega) hv ⟨_, rfl, _, ⟨rfl, rfl⟩, rfl⟩
  · simp only [rens, AVal.ren]
    rw [rens_ix0 _ _ hus']; simp
  · rintro _ _ ⟨rfl, rfl⟩; rw [set_same hb]; exact hk
theorem book_Find_ok (hR : R.Ok) (hB : HasBook R mk) {m : Int} {ts : List Bs} (s : Bs) {h : AHeap A} {b : Nat} (hb : h[b]? = some (.adt (mk m ts))) {K : AVal → AHeap A → Prop}
    (hk : K (.tup [.int .i64 ((bFind ts s).getD 0 : Nat), .bool (bFind ts s).isSome]) h) : Tri Pr R n_book_Book_Find [.ptr b 0, .str s] h K := by
  refine book_look hR hB rfl rfl (fun h0 => ?_) (fun h0 => ?_) hb hk
  · subst h0
    apply c_book_Book_Find
    unfold p_book_Book_Find
    simp [lkP, keyOk, mapAt, findK, bFind]
  · apply c_book_Book_Find
    unfold p_book_Book_Find
    cases hf : bFind ts s with
    | none => simp [lkP, keyOk, mapAt, findK_bEnts, hf]
    | some i => simp [lkP, keyOk, mapAt, findK_bEnts, hf]
theorem book_Len_ok (hR : R.Ok) (hB : HasBook R mk) {m : Int} {ts : List Bs} {h : AHeap A} {b : Nat} (hb : h[b]? = some (.adt (mk m ts))) {K : AVal → AHeap A → Prop}
    (hk : K (.int .i64 ts.length) h) : Tri Pr R n_book_Book_Len [.ptr b 0] h K := by
  refine book_look hR hB rfl rfl (fun h0 => ?_) (fun h0 => ?_) hb hk
  · subst h0
    apply c_book_Book_Len
    unfold p_book_Book_Len
    simp
  · apply c_book_Book_Len
    unfold p_book_Book_Len
    simp
/-- The term of a name. -/
def bTerm (ts : List Bs) (x : Int) : Bs × Int := if 0 ≤ x ∧ x < ts.length then (ts.getD x.toNat [], 0) else ([], 202)
theorem book_Term_ok (hR : R.Ok) (hB : HasBook R mk) {m : Int} {ts : List Bs} (x : Int) {h : AHeap A} {b : Nat} (hb : h[b]? = some (.adt (mk m ts))) {K : AVal → AHeap A → Prop}
    (hk : K (.tup [.str (bTerm ts x).1, .int .i64 (bTerm ts x).2]) h) : Tri Pr R n_book_Book_Term [.ptr b 0, .int .i64 x] h K := by
  refine book_look hR hB rfl rfl (fun h0 => ?_) (fun h0 => ?_) hb hk
  · subst h0
    apply c_book_Book_Term
    unfold p_book_Book_Term
    simp [bTerm]
    refine iteP_of (fun h1 => iteP_of (fun h2 => ?_) (fun h2 => ?_)) (fun h1 => ?_)
    · simp at h1 h2; simp [show ¬ (0 ≤ x ∧ x < 0) by omega]
    · simp at h1 h2; omega
    · simp at h1; simp [show ¬ (0 ≤ x ∧ x < 0) by omega]
  · apply c_book_Book_Term
    unfold p_book_Book_Term
    by_cases hx : 0 ≤ x ∧ x < ts.length
    · have h1 : ¬ x < 0 := by omega
      have h2 : ¬ (ts.length : Int) ≤ x := by omega
      have h3 : x.toNat < ts.length := by omega
      simp [bTerm, hx, h1, h2, h3]
    · simp [bTerm, hx]
      refine iteP_of (fun h1 => iteP_of (fun h2 => ?_) (fun h2 => ?_)) (fun h1 => ?_)
      · simp
      · simp at h1 h2; omega
      · simp
end book
end Go.AI

/- The document's book. -/
set_option linter.all false
namespace Go.AI
variable {A : Type} {R : Adts A}
section rbook
variable {mk : Int → List Bs → A}
theorem rbook_ix (hB : HasRBook R mk) (m : Int) (ts : List Bs) (n : Nat) : (AObj.adt (mk m ts)).ix R n := by
  intro g hg
  obtain rfl := (hB.lay _ _ _).1 hg
  unfold rbookG
  have h1 : ixs n (ts.map .str) = true := by simp [ixs_all, AVal.ix]
  split
  · simp [AVal.ix]
  · simp [AVal.ix, h1]
theorem rbook_ren (hB : HasRBook R mk) (m : Int) (ts : List Bs) (τ : Nat → Nat) : (AObj.adt (mk m ts)).ren R τ = .adt (mk m ts) := by simp [AObj.ren, hB.ren]
theorem rbook_shut0 (hR : R.Ok) (hB : HasRBook R mk) {m : Int} {h : AHeap A} {v : AVal} {K : List AVal → AHeap A → Prop} (h0 : h[0]? = some (.cells t_bastionref1_Book [.int .i64 m, .nils]))
    (hv : v.ix 0 = true) (hk : K [v] [.adt (mk m [])]) : Gives Pr R 1 h [v] K := by
  have hl := (List.getElem?_eq_some_iff.1 h0).1
  refine Gives.shut 0 [] (mk m []) (rbookG m []) ((hB.lay _ _ _).2 rfl) (by simpa [rbookG, GC.on] using h0) rfl (fun i s hs => by simp [rbookG] at hs) (by simp) (by simp [rbookG]) (by simp [rbookG]) ?_
  have e := take1_set (kills h []) (.adt (mk m [])) (by rw [kills_length]; exact hl)
  refine Gives.cut hR (m := 1) (by omega) (by simp [kills_length]; omega) (by simp [ixs, ix_mono (Nat.zero_le 1) v hv]) (by rw [e]; simp; exact ⟨rbook_ix hB _ _ _, fun τ _ => rbook_ren hB _ _ _⟩) (by rw [e]; exact hk)
theorem rbook_shut (hR : R.Ok) (hB : HasRBook R mk) {m : Int} {ts : List Bs} (hne : ts ≠ []) {h : AHeap A} {v : AVal} {K : List AVal → AHeap A → Prop} (j1 n : Nat) (hn : n = ts.length) (h0 : h[0]? = some (.cells t_bastionref1_Book [.int .i64 m, .sl j1 0 n n false]))
    (hs : h[j1]? = some (.cells t_string (ts.map .str))) (hd : 0 ≠ j1) (hv : v.ix 0 = true) (hk : K [v] [.adt (mk m ts)]) : Gives Pr R 1 h [v] K := by
  subst hn
  have hl := (List.getElem?_eq_some_iff.1 h0).1
  refine Gives.shut 0 [j1] (mk m ts) (rbookG m ts) ((hB.lay _ _ _).2 rfl) (by simpa [rbookG, GC.on, hne] using h0) (by simp [rbookG, hne]) (fun i s hs' => ?_) (by simp [hd]) (by simp [rbookG, hne]; omega) (by simp [rbookG, hne]) ?_
  · match i, hs' with
    | 0, hs' => simp [rbookG, hne] at hs'; subst hs'; exact ⟨hs, rfl⟩
    | i + 1, hs' => simp [rbookG, hne] at hs'
  · have e := take1_set (kills h [j1]) (.adt (mk m ts)) (by rw [kills_length]; exact hl)
    refine Gives.cut hR (m := 1) (by omega) (by simp [kills_length]; omega) (by simp [ixs, ix_mono (Nat.zero_le 1) v hv]) (by rw [e]; simp; exact ⟨rbook_ix hB _ _ _, fun τ _ => rbook_ren hB _ _ _⟩) (by rw [e]; exact hk)
/-- A new book. -/
theorem rbook_New_ok (hR : R.Ok) (hB : HasRBook R mk) (m : Int) {h : AHeap A} {K : AVal → AHeap A → Prop}
    (hk : if 1 ≤ m ∧ m ≤ 65536 then K (.tup [.ptr h.length 0, .int .i64 0]) (h ++ [.adt (mk m [])]) else K (.tup [.nilp, .int .i64 200]) h) : Tri Pr R n_ref1_NewBook [.int .i64 m] h K := by
  by_cases hm : 1 ≤ m ∧ m ≤ 65536
  · rw [if_pos hm] at hk
    refine Tri.make hR rfl (v0 := .tup [.ptr 0 0, .int .i64 0]) (h0 := [.adt (mk m [])]) (Tri.post ?_) (by simpa [AVal.ren, rens, rbook_ren hB] using hk)
    apply c_ref1_NewBook
    unfold p_ref1_NewBook
    have h1 : ¬ m < 1 := by omega
    have h2 : ¬ 65536 < m := by omega
    simp [h1, h2]
    refine Gives.shut 0 [] (mk m []) (rbookG m []) ((hB.lay _ _ _).2 rfl) rfl rfl (fun i s hs => by simp [rbookG] at hs) (by simp) (by simp [rbookG]) (by simp [rbookG]) ?_
    exact Gives.done (by simp) ⟨_, rfl, rfl, rfl⟩
  · rw [if_neg hm] at hk
    refine Tri.fn1 hR _ rfl rfl ?_ hk
    apply c_ref1_NewBook
    unfold p_ref1_NewBook
    simp
    refine iteP_of (fun h1 => iteP_of (fun h2 => Ans.rfl' _) (fun h2 => ?_)) (fun h1 => Ans.rfl' _)
    simp at h1 h2; omega
/-- A call over a book's two objects. -/
theorem rbook_call (hR : R.Ok) (hB : HasRBook R mk) {m : Int} {ts ts' : List Bs} {f : FuncId} {us : List AVal} (hus : us.all (AVal.ix 0) = true) {v : AVal} (hv : v.ix 0 = true)
    (t0 : ts = [] → Tri Pr R f (.ptr 0 0 :: us) [.cells t_bastionref1_Book [.int .i64 m, .nils]] fun u g => Gives Pr R 1 g [u] fun vs g => vs = [v] ∧ g = [.adt (mk m ts')])
    (t1 : ts ≠ [] → Tri Pr R f (.ptr 0 0 :: us) [.cells t_bastionref1_Book [.int .i64 m, .sl 1 0 ts.length ts.length false], .cells t_string (ts.map .str)] fun u g => Gives Pr R 1 g [u] fun vs g => vs = [v] ∧ g = [.adt (mk m ts')])
    {h : AHeap A} {b : Nat} (hb : h[b]? = some (.adt (mk m ts))) {K : AVal → AHeap A → Prop} (hk : K v (h.set b (.adt (mk m ts')))) : Tri Pr R f (.ptr b 0 :: us) h K := by
  have hus' : ixs 0 us = true := by rw [ixs_all]; exact hus
  refine Tri.own hR (as2 := .ptr 0 0 :: us) (Q := fun u o => u = v ∧ o = .adt (mk m ts')) ?_ (rbook_ix hB _ _ _) ?_ (rbook_ren hB _ _) ?_ hb ?_ ?_
  · simp [ixs, AVal.ix, ixs_mono (Nat.zero_le 1) us hus']
  · rintro _ _ ⟨rfl, rfl⟩; exact ⟨hv, rbook_ren hB _ _⟩
  · refine Tri.post (Tri.pre (Gives.opened 0 rfl (by simp) fun g hg => ?_))
    obtain rfl := (hB.lay _ _ _).1 hg
    refine Gives.done (by simp) ?_
    have fin : ∀ u g, Gives Pr R 1 g [u] (fun vs g => vs = [v] ∧ g = [.adt (mk m ts')]) → Gives Pr R 1 g [u] fun vs h2 => ∃ v_1, vs = [v_1] ∧ ∃ o', (v_1 = v ∧ o' = .adt (mk m ts')) ∧ h2 = [o'] := fun u g hg => hg.mono fun vs h _ ⟨h1, h2⟩ => ⟨v, h1, _, ⟨rfl, rfl⟩, h2⟩
    by_cases h0 : ts = []
    · subst h0
      simp [rbookG, GC.at]
      exact (t0 rfl).mono fun u g hg => by simpa using fin u g hg
    · simp [rbookG, GC.at, h0]
      exact (t1 h0).mono fun u g hg => by simpa using fin u g hg
  · simp only [rens, AVal.ren]
    rw [rens_ix0 _ _ hus']; simp
  · rintro _ _ ⟨rfl, rfl⟩; exact hk
theorem rbook_same (hR : R.Ok) (hB : HasRBook R mk) {m : Int} {ts : List Bs} {f : FuncId} {us : List AVal} (hus : us.all (AVal.ix 0) = true) {v : AVal} (hv : v.ix 0 = true)
    (t0 : ts = [] → Tri Pr R f (.ptr 0 0 :: us) [.cells t_bastionref1_Book [.int .i64 m, .nils]] fun u g => u = v ∧ g = [.cells t_bastionref1_Book [.int .i64 m, .nils]])
    (t1 : ts ≠ [] → Tri Pr R f (.ptr 0 0 :: us) [.cells t_bastionref1_Book [.int .i64 m, .sl 1 0 ts.length ts.length false], .cells t_string (ts.map .str)] fun u g => u = v ∧ g = [.cells t_bastionref1_Book [.int .i64 m, .sl 1 0 ts.length ts.length false], .cells t_string (ts.map .str)])
    {h : AHeap A} {b : Nat} (hb : h[b]? = some (.adt (mk m ts))) {K : AVal → AHeap A → Prop} (hk : K v h) : Tri Pr R f (.ptr b 0 :: us) h K := by
  refine rbook_call hR hB (ts' := ts) hus hv (fun h0 => (t0 h0).mono ?_) (fun h0 => (t1 h0).mono ?_) hb (by rw [set_same hb]; exact hk)
  · subst h0
    rintro _ _ ⟨rfl, rfl⟩
    exact rbook_shut0 hR hB rfl hv ⟨rfl, rfl⟩
  · rintro _ _ ⟨rfl, rfl⟩
    exact rbook_shut hR hB h0 1 _ rfl rfl rfl (by omega) hv ⟨rfl, rfl⟩
theorem bFind_take (ts : List Bs) (s : Bs) (i : Nat) (h : ∀ j : Nat, j < i → ts[j]? ≠ some s) (hi : ts[i]? = some s) : bFind ts s = some i := by
  obtain ⟨hlt, he⟩ := List.getElem?_eq_some_iff.1 hi
  simp only [bFind, List.idxOf?]
  rw [List.findIdx?_eq_some_iff_getElem]
  refine ⟨hlt, by simp [he], fun j hj => ?_⟩
  have := h j hj
  rw [List.getElem?_eq_getElem (by omega)] at this
  simpa using this
theorem bFind_none (ts : List Bs) (s : Bs) (h : ∀ j : Nat, ts[j]? ≠ some s) : bFind ts s = none := by
  simp only [bFind, List.idxOf?, List.findIdx?_eq_none_iff]
  intro x hx
  obtain ⟨j, hj⟩ := List.mem_iff_getElem?.1 hx
  simp only [beq_eq_false_iff_ne]
  rintro rfl; exact h j hj
theorem rbook_Find_ok (hR : R.Ok) (hB : HasRBook R mk) {m : Int} {ts : List Bs} (hok : bOk m ts) (s : Bs) {h : AHeap A} {b : Nat} (hb : h[b]? = some (.adt (mk m ts))) {K : AVal → AHeap A → Prop}
    (hk : K (.tup [.int .i64 ((bFind ts s).getD 0 : Nat), .bool (bFind ts s).isSome]) h) : Tri Pr R n_ref1_Book_Find [.ptr b 0, .str s] h K := by
  have hlen := hok.len
  have hmost := hok.most
  refine rbook_same hR hB rfl rfl (fun h0 => ?_) (fun h0 => ?_) hb hk
  · subst h0
    apply c_ref1_Book_Find
    unfold p_ref1_Book_Find
    refine loopP_unr 1 ?_
    simp [unr, bFind]
  · apply c_ref1_Book_Find
    unfold p_ref1_Book_Find
    refine loopP_go (fun k y g => ∃ i : Nat, y = [.int .i64 i] ∧ g = [.cells t_bastionref1_Book [.int .i64 m, .sl 1 0 ts.length ts.length false], .cells t_string (ts.map .str)] ∧ i ≤ ts.length ∧ k = ts.length - i ∧ ∀ j : Nat, j < i → ts[j]? ≠ some s) ts.length
      (Gives.done (by simp) ⟨0, rfl, rfl, by omega, by omega, by omega⟩) ?_
    rintro k y g ⟨i, rfl, rfl, hi, rfl, hp⟩
    simp
    refine iteP_of (fun h1 => ?_) (fun h1 => ?_)
    · simp at h1
      have e1 := w64 (n := (i : Int) + 1) (by omega)
      simp [h1, e1]
      refine iteP_of (fun h2 => ?_) (fun h2 => ?_)
      · simp at h2
        rw [bFind_take ts s i hp (by rw [List.getElem?_eq_getElem h1, h2])]
        simp
      · simp at h2
        refine Gives.done (by simp) ⟨ts.length - (i + 1), by omega, i + 1, by simp, rfl, by omega, rfl, fun j hj => ?_⟩
        by_cases hji : j = i
        · subst hji; rw [List.getElem?_eq_getElem h1]; simpa using h2
        · exact hp j (by omega)
    · simp at h1
      rw [bFind_none ts s fun j => ?_]
      · simp
      · by_cases hj : j < i
        · exact hp j hj
        · rw [List.getElem?_eq_none (by omega)]; simp
end rbook
end Go.AI

/- The document's book names a term. -/
set_option linter.all false
namespace Go.AI
variable {A : Type} {R : Adts A}
section rbook
variable {mk : Int → List Bs → A}
theorem rbook_Name_ok (hR : R.Ok) (hB : HasRBook R mk) {m : Int} {ts : List Bs} (hok : bOk m ts) (s : Bs) {h : AHeap A} {b : Nat} (hb : h[b]? = some (.adt (mk m ts))) {K : AVal → AHeap A → Prop}
    (hk : K (.tup [.int .i64 (bName m ts s).2.1, .int .i64 (bName m ts s).2.2]) (h.set b (.adt (mk m (bName m ts s).1)))) : Tri Pr R n_ref1_Book_Name [.ptr b 0, .str s] h K := by
  refine Tri.own hR (as2 := [.ptr 0 0, .str s]) (Q := fun v o => v = .tup [.int .i64 (bName m ts s).2.1, .int .i64 (bName m ts s).2.2] ∧ o = .adt (mk m (bName m ts s).1)) rfl (rbook_ix hB _ _ _) ?_ (rbook_ren hB _ _) ?_ hb (by simp [rens, AVal.ren]) ?_
  · rintro _ _ ⟨rfl, rfl⟩; exact ⟨rfl, rbook_ren hB _ _⟩
  · refine Tri.post ?_
    apply c_ref1_Book_Name
    unfold p_ref1_Book_Name
    have hm := hok.most
    have hlen := hok.len
    obtain ⟨r, hr⟩ : ∃ r, bName m ts s = r := ⟨_, rfl⟩
    rw [hr]
    unfold bName at hr
    split at hr
    · rename_i h1
      subst hr
      simp
      refine iteP_of (fun h2 => iteP_of (fun h3 => ?_) (fun h3 => ?_)) (fun h2 => ?_)
      · exact Gives.done (by simp) ⟨_, rfl, _, ⟨rfl, rfl⟩, rfl⟩
      · simp at h2 h3; rcases h1 with h1 | h1; subst h1; simp at h2; omega
      · exact Gives.done (by simp) ⟨_, rfl, _, ⟨rfl, rfl⟩, rfl⟩
    · rename_i h1
      have h2 : ¬ (s.length : Int) < 1 := by
        have : s.length ≠ 0 := fun h => h1 (.inl (List.length_eq_zero_iff.1 h))
        omega
      have h3 : ¬ (512 : Int) < s.length := by omega
      simp [h2, h3]
      refine Tri.post (rbook_Find_ok hR hB hok s rfl (Gives.opened 0 rfl (by simp) fun g hg => ?_))
      obtain rfl := (hB.lay _ _ _).1 hg
      refine Gives.done (by simp) ⟨_, rfl, ?_⟩
      cases hf : bFind ts s with
      | some i =>
        have hne : ts ≠ [] := by rintro rfl; simp [bFind] at hf
        simp [hf] at hr
        subst hr
        simp [rbookG, GC.at, hne]
        exact rbook_shut hR hB hne 1 _ rfl rfl rfl (by omega) rfl ⟨_, rfl, _, ⟨rfl, rfl⟩, rfl⟩
      | none =>
        by_cases h0 : ts = []
        · subst h0
          have h5 : ¬ m ≤ 0 := by omega
          simp [hf, h5] at hr
          subst hr
          simp [rbookG, GC.at, h5, appP, appV, srcOf, cellsAt]
          exact rbook_shut hR hB (ts := [s]) (by simp) 2 1 rfl rfl rfl (by omega) rfl ⟨_, rfl, _, ⟨rfl, rfl⟩, rfl⟩
        · by_cases h4 : m ≤ ts.length
          · simp [hf, h4] at hr
            subst hr
            simp [rbookG, GC.at, h0, h4]
            exact rbook_shut hR hB h0 1 _ rfl rfl rfl (by omega) rfl ⟨_, rfl, _, ⟨rfl, rfl⟩, rfl⟩
          · simp [hf, h4] at hr
            subst hr
            have h6 : ¬ ts.length + 1 ≤ ts.length := by omega
            have h7 : (2 * (ts.length + 1) + 1000) * 16 ≤ 140737488355328 := by omega
            have e1 := w64 (n := (ts.length : Int)) (by omega)
            simp [rbookG, GC.at, h0, h4, appP, appV, srcOf, cellsAt, h6, h7, e1]
            trace_state
            refine rbook_shut hR hB (ts := ts ++ [s]) (by simp) 3 (ts.length + 1) (by simp) rfl ?_ (by omega) rfl ⟨_, rfl, _, ⟨rfl, rfl⟩, rfl⟩
            simp
            exact List.take_of_length_le (by simp)
  · rintro _ _ ⟨rfl, rfl⟩; exact hk
end rbook
end Go.AI

/- Atoms; keys of epochs. -/
set_option linter.all false
namespace Go.AI
variable {A : Type} {R : Adts A}
/-- A term is made: the terms behind it, the name, the error. -/
def cMade (m : Int) (ts : List Bs) (s : Bs) : List Bs × Int × Int := if (bName m ts s).2.2 = 0 then bName m ts s else ((bName m ts s).1, 0, 300)
theorem cMade_ok {m : Int} {ts : List Bs} {s : Bs} (h : bOk m ts) : bOk m (cMade m ts s).1 := by
  unfold cMade; split <;> exact bName_ok h
section craft
variable {mk : Int → List Bs → A}
theorem craft_named_ok (hR : R.Ok) (hB : HasBook R mk) {m : Int} {ts : List Bs} (hok : bOk m ts) (s : Bs) {h : AHeap A} {b : Nat} (hb : h[b]? = some (.adt (mk m ts))) {K : AVal → AHeap A → Prop}
    (hk : K (.tup [.int .i64 (cMade m ts s).2.1, .int .i64 (cMade m ts s).2.2]) (h.set b (.adt (mk m (cMade m ts s).1)))) : Tri Pr R n_craft_named [.ptr b 0, .str s, .bool true] h K := by
  apply c_craft_named
  unfold p_craft_named
  simp
  refine book_Name_ok hR hB hok s hb ?_
  simp only [cMade] at hk
  by_cases h1 : (bName m ts s).2.2 = 0
  · simp only [h1, if_true] at hk
    simp [h1]; exact hk
  · simp only [h1, if_false] at hk
    simp
    exact iteP_of (fun _ => hk) (fun h2 => by simp [h1] at h2)
/-- What is within an epoch's key. -/
def eTerm (x : Int) : Bs := [101, 112, 111, 99, 104] ++ nS x
def rKey (m : Int) (ts : List Bs) (x : Int) : List Bs × Int × Int :=
  if nMay x = true then (if (cMade m ts (65 :: eTerm x)).2.2 = 0 then cMade m ts (65 :: eTerm x) else ((cMade m ts (65 :: eTerm x)).1, 0, 1400)) else (ts, 0, 1400)
end craft
section ref
variable {mk : Int → List Bs → A}
theorem ref1_made_ok (hR : R.Ok) (hB : HasRBook R mk) {m : Int} {ts : List Bs} (hok : bOk m ts) (s : Bs) {h : AHeap A} {b : Nat} (hb : h[b]? = some (.adt (mk m ts))) {K : AVal → AHeap A → Prop}
    (hk : K (.tup [.int .i64 (cMade m ts s).2.1, .int .i64 (cMade m ts s).2.2]) (h.set b (.adt (mk m (cMade m ts s).1)))) : Tri Pr R n_ref1_Book_made [.ptr b 0, .str s] h K := by
  apply c_ref1_Book_made
  unfold p_ref1_Book_made
  refine rbook_Name_ok hR hB hok s hb ?_
  simp only [cMade] at hk
  by_cases h1 : (bName m ts s).2.2 = 0
  · simp only [h1, if_true] at hk
    simp [h1]; exact hk
  · simp only [h1, if_false] at hk
    simp
    exact iteP_of (fun _ => hk) (fun h2 => by simp [h1] at h2)
end ref
def rLive (e now keep : Int) : Bool := nMay e && nMay now && nMay keep && decide (e ≤ now) && decide (now - e ≤ keep)
end Go.AI

/- The statements over keys of epochs. -/
set_option linter.all false
namespace Go.AI
variable {A : Type} {R : Adts A}
theorem num14_ok {v : AVal} {h : AHeap A} {K : AVal → AHeap A → Prop} (hk : K v h) : Tri Pr R n_law0_Num [v] h K := by
  apply c_law0_Num
  unfold p_law0_Num
  exact hk
theorem bOk_nil {m : Int} (h : 1 ≤ m ∧ m ≤ 65536) : bOk m [] := ⟨h, by simp; omega, by simp, by simp⟩
section
variable {bk rbk : Int → List Bs → A}
end
end Go.AI

/- RingForms. -/
set_option linter.all false
namespace Go.AI
variable {A : Type} {R : Adts A}
section
variable {bk rbk : Int → List Bs → A}
end
end Go.AI

/- Events, plainly. -/
set_option linter.all false
namespace Go.AI
/-- An event. -/
structure Ev where
  kind : Int
  user : Int
  session : Int
  address : Int
  a : Int
  b : Int
  c : Int
  tick : Int
deriving DecidableEq
def Ev.row (e : Ev) : List AVal := [.int .i64 e.kind, .int .i64 e.user, .int .i64 e.session, .int .i64 e.address, .int .i64 e.a, .int .i64 e.b, .int .i64 e.c, .int .i64 e.tick]
def ev0 : Ev := ⟨0, 0, 0, 0, 0, 0, 0, 0⟩
/-- The parts that a kind names. -/
def evParts (e : Ev) : List Int :=
  if e.kind = 0 then [e.tick] else if e.kind = 1 then [e.user, e.a, e.b, e.c] else if e.kind = 2 then [e.user, e.tick] else if e.kind = 3 then [e.user, e.a] else if e.kind = 4 then [e.user]
  else if e.kind = 5 then [e.session, e.user, e.address, e.tick] else if e.kind = 6 then [e.session, e.a, e.b, e.tick] else if e.kind = 7 then [e.user] else if e.kind = 9 then [e.session] else []
/-- An event of these parts. -/
def evOf (k : Int) (l : List Int) : Ev :=
  let z := l.getD 0 0
  let y := l.getD 1 0
  let x := l.getD 2 0
  let w := l.getD 3 0
  if k = 0 then { ev0 with kind := k, tick := z } else if k = 1 then { ev0 with kind := k, user := z, a := y, b := x, c := w } else if k = 2 then { ev0 with kind := k, user := z, tick := y }
  else if k = 3 then { ev0 with kind := k, user := z, a := y } else if k = 4 then { ev0 with kind := k, user := z } else if k = 5 then { ev0 with kind := k, session := z, user := y, address := x, tick := w }
  else if k = 6 then { ev0 with kind := k, session := z, a := y, b := x, tick := w } else if k = 7 then { ev0 with kind := k, user := z } else if k = 9 then { ev0 with kind := k, session := z } else { ev0 with kind := k }
def evCount (k : Int) : Nat := if k = 0 ∨ k = 4 ∨ k = 7 ∨ k = 9 then 1 else if k = 2 ∨ k = 3 then 2 else if k = 1 ∨ k = 5 ∨ k = 6 then 4 else 0
def evPlain (e : Ev) : Ev := evOf e.kind (evParts e)
/-- May an event be? -/
def evMay (e : Ev) : Bool :=
  decide (0 ≤ e.kind ∧ e.kind ≤ 9) && !(decide (e.kind = 6) && decide (4 < e.b)) && (evParts e).all nMay && decide (e.user < 8) && decide (e.address < 16) && decide (e.tick ≤ 1048575) && decide (e.c ≤ 1048576) && decide (e = evPlain e)
def evPut (e : Ev) : Bs0 := nAll (e.kind :: evParts e)
/-- So many numbers, one behind the other. -/
def rNums (s : Bs0) : Nat → Int → Option (List Int × Int)
  | 0, t => some ([], t)
  | n + 1, t => if (gNum s t).2.2 = 0 then (rNums s n (gNum s t).2.1).map fun r => ((gNum s t).1 :: r.1, r.2) else none
def evGet (s : Bs0) : Option Ev :=
  match rNums s 1 0 with
  | some ([k], t) => match rNums s (evCount k) t with
    | some (l, u) => if u = s.length ∧ evMay (evOf k l) = true then some (evOf k l) else none
    | none => none
  | _ => none
theorem evParts_count {e : Ev} (h : 0 ≤ e.kind ∧ e.kind ≤ 9) : (evParts e).length = evCount e.kind := by
  obtain ⟨k, u, s, ad, a, b, c, t⟩ := e
  simp only at h
  have : k = 0 ∨ k = 1 ∨ k = 2 ∨ k = 3 ∨ k = 4 ∨ k = 5 ∨ k = 6 ∨ k = 7 ∨ k = 8 ∨ k = 9 := by omega
  rcases this with rfl | rfl | rfl | rfl | rfl | rfl | rfl | rfl | rfl | rfl <;> rfl
theorem evParts_of {k : Int} {l : List Int} (h : l.length = evCount k) : evParts (evOf k l) = l := by
  unfold evCount at h
  by_cases h0 : k = 0 ∨ k = 4 ∨ k = 7 ∨ k = 9
  · rw [if_pos h0] at h
    match l, h with
    | [z], _ => rcases h0 with rfl | rfl | rfl | rfl <;> rfl
  · rw [if_neg h0] at h
    by_cases h1 : k = 2 ∨ k = 3
    · rw [if_pos h1] at h
      match l, h with
      | [z, y], _ => rcases h1 with rfl | rfl <;> rfl
    · rw [if_neg h1] at h
      by_cases h2 : k = 1 ∨ k = 5 ∨ k = 6
      · rw [if_pos h2] at h
        match l, h with
        | [z, y, x, w], _ => rcases h2 with rfl | rfl | rfl <;> rfl
      · rw [if_neg h2] at h
        have := List.length_eq_zero_iff.1 h; subst this
        simp only [not_or] at h0 h1 h2
        simp [evOf, evParts, h0, h1, h2]
theorem nAll_cons (x : Int) (l : List Int) : nAll (x :: l) = nS x ++ nAll l := by simp [nAll]
/-- What was read stands there as it is written. -/
theorem rNums_enc {s : Bs0} : ∀ {n : Nat} {t : Int} {l : List Int} {u : Int}, rNums s n t = some (l, u) → 0 ≤ t → l.length = n ∧ (∀ x ∈ l, nMay x = true) ∧ t ≤ u ∧ (s.drop t.toNat).take (u - t).toNat = nAll l ∧ (0 < n → u ≤ s.length)
  | 0, t, l, u, h, ht => by
    simp [rNums] at h
    obtain ⟨rfl, rfl⟩ := h
    simp [nAll]
  | n + 1, t, l, u, h, ht => by
    rw [rNums] at h
    split at h
    · rename_i h0
      obtain ⟨x, t1, e, hg⟩ : ∃ x t1 e, gNum s t = (x, t1, e) := ⟨_, _, _, rfl⟩
      rw [hg] at h h0
      simp only at h h0
      subst h0
      obtain ⟨hx, q1, q2, q3, q4⟩ := gNum_enc hg
      cases hr : rNums s n t1 with
      | none => rw [hr] at h; simp at h
      | some r =>
        obtain ⟨l', u'⟩ := r
        rw [hr] at h
        simp at h
        obtain ⟨rfl, rfl⟩ := h
        obtain ⟨a1, a2, a3, a4, a5⟩ := rNums_enc hr (by omega)
        refine ⟨by simp [a1], fun y hy => ?_, by omega, ?_, fun _ => ?_⟩
        · rcases List.mem_cons.1 hy with rfl | hy
          · exact hx
          · exact a2 y hy
        · have es : nS x = nE x := by simp [nS, hx]
          rw [nAll_cons, es, ← q4, ← a4]
          have e1 : (u' - t).toNat = (t1 - t).toNat + (u' - t1).toNat := by omega
          have e2 : s.drop t1.toNat = (s.drop t.toNat).drop (t1 - t).toNat := by rw [List.drop_drop]; congr 1; omega
          rw [e1, e2, List.take_add]
        · by_cases hn : 0 < n
          · exact a5 hn
          · have : n = 0 := by omega
            subst this
            simp [rNums] at hr
            omega
    · simp at h
end Go.AI

/- Crafts, plainly: hashes, tags, seals; codes by time. -/
set_option linter.all false
namespace Go.AI
/-- A term with a key ahead is made. -/
def cKey (m : Int) (ts : List Bs) (k : UInt8) (key : Int) (s : Bs) : List Bs × Int × Int := if nMay key = true then cMade m ts (k :: (nS key ++ s)) else (ts, 0, 300)
/-- Is a tag the name of a term? -/
def cIs (ts : List Bs) (s : Bs) (tag : Int) : Bool := (bFind ts s).isSome && (((bFind ts s).getD 0 : Nat) : Int) == tag
def cIsMac (ts : List Bs) (key : Int) (s : Bs) (tag : Int) : Bool := nMay key && cIs ts (77 :: (nS key ++ s)) tag
/-- What is within a seal of a key. -/
def cOpen (ts : List Bs) (key tag : Int) : Bs × Int :=
  if nMay key = true ∧ (bTerm ts tag).2 = 0 ∧ (83 :: nS key).length ≤ (bTerm ts tag).1.length ∧ (bTerm ts tag).1.take (83 :: nS key).length = 83 :: nS key then ((bTerm ts tag).1.drop (83 :: nS key).length, 0) else ([], 301)
end Go.AI

/- Crafts. -/
set_option linter.all false
namespace Go.AI
variable {A : Type} {R : Adts A}
theorem rbook_own (hR : R.Ok) {mk : Int → List Bs → A} (hB : HasRBook R mk) {m : Int} {ts ts' : List Bs} {f : FuncId} {us : List AVal} (hus : us.all (AVal.ix 0) = true) {v : AVal} (hv : v.ix 0 = true)
    (t : Tri Pr R f (.ptr 0 0 :: us) [.adt (mk m ts)] fun u g => u = v ∧ ∃ r, g = .adt (mk m ts') :: r)
    {h : AHeap A} {b : Nat} (hb : h[b]? = some (.adt (mk m ts))) {K : AVal → AHeap A → Prop} (hk : K v (h.set b (.adt (mk m ts')))) : Tri Pr R f (.ptr b 0 :: us) h K := by
  have hus' : ixs 0 us = true := by rw [ixs_all]; exact hus
  refine Tri.own hR (as2 := .ptr 0 0 :: us) (Q := fun u o => u = v ∧ o = .adt (mk m ts')) ?_ (rbook_ix hB _ _ _) ?_ (rbook_ren hB _ _) ?_ hb ?_ ?_
  · simp [ixs, AVal.ix, ixs_mono (Nat.zero_le 1) us hus']
  · rintro _ _ ⟨rfl, rfl⟩; exact ⟨hv, rbook_ren hB _ _⟩
  · refine Tri.post (t.mono ?_)
    rintro _ _ ⟨rfl, r, rfl⟩
    exact Gives.cut hR (m := 1) (by simp) (by simp) (by simp [ixs, ix_mono (Nat.zero_le 1) _ hv]) (by simp; exact ⟨rbook_ix hB _ _ _, fun τ _ => rbook_ren hB _ _ _⟩) ⟨_, rfl, _, ⟨rfl, rfl⟩, rfl⟩
  · simp only [rens, AVal.ren]
    rw [rens_ix0 _ _ hus']; simp
  · rintro _ _ ⟨rfl, rfl⟩; exact hk
section craft
variable {mk : Int → List Bs → A}
theorem craft_Hash_ok (hR : R.Ok) (hB : HasBook R mk) {m : Int} {ts : List Bs} (hok : bOk m ts) (s : Bs) (hs : s.length < 9000000000000000000) {h : AHeap A} {b : Nat} (hb : h[b]? = some (.adt (mk m ts))) {K : AVal → AHeap A → Prop}
    (hk : K (.tup [.int .i64 (cMade m ts (72 :: s)).2.1, .int .i64 (cMade m ts (72 :: s)).2.2]) (h.set b (.adt (mk m (cMade m ts (72 :: s)).1)))) : Tri Pr R n_craft_Hash [.ptr b 0, .str s] h K := by
  apply c_craft_Hash
  unfold p_craft_Hash
  have h1 : 1 + s.length < 9223372036854775808 := by omega
  simp -implicitDefEqProofs [h1]
  refine craft_named_ok hR hB hok _ hb ?_
  simpa using hk
theorem craft_is_ok (hR : R.Ok) (hB : HasBook R mk) {m : Int} {ts : List Bs} (s : Bs) (tag : Int) {h : AHeap A} {b : Nat} (hb : h[b]? = some (.adt (mk m ts))) {K : AVal → AHeap A → Prop}
    (hk : K (.bool (cIs ts s tag)) h) : Tri Pr R n_craft_is [.ptr b 0, .str s, .int .i64 tag] h K := by
  apply c_craft_is
  unfold p_craft_is
  refine book_Find_ok hR hB s hb ?_
  cases hf : bFind ts s with
  | none => simp [cIs, hf] at hk; simpa using hk
  | some i => simp [cIs, hf] at hk; simpa using hk
theorem craft_IsHash_ok (hR : R.Ok) (hB : HasBook R mk) {m : Int} {ts : List Bs} (s : Bs) (hs : s.length < 9000000000000000000) (tag : Int) {h : AHeap A} {b : Nat} (hb : h[b]? = some (.adt (mk m ts))) {K : AVal → AHeap A → Prop}
    (hk : K (.bool (cIs ts (72 :: s) tag)) h) : Tri Pr R n_craft_IsHash [.ptr b 0, .str s, .int .i64 tag] h K := by
  apply c_craft_IsHash
  unfold p_craft_IsHash
  have h1 : 1 + s.length < 9223372036854775808 := by omega
  simp -implicitDefEqProofs [h1]
  exact craft_is_ok hR hB _ _ hb hk
end craft
section ref
variable {mk : Int → List Bs → A}
theorem ref1_Hash_ok (hR : R.Ok) (hB : HasRBook R mk) {m : Int} {ts : List Bs} (hok : bOk m ts) (s : Bs) (hs : s.length < 9000000000000000000) {h : AHeap A} {b : Nat} (hb : h[b]? = some (.adt (mk m ts))) {K : AVal → AHeap A → Prop}
    (hk : K (.tup [.int .i64 (cMade m ts (72 :: s)).2.1, .int .i64 (cMade m ts (72 :: s)).2.2]) (h.set b (.adt (mk m (cMade m ts (72 :: s)).1)))) : Tri Pr R n_ref1_Hash [.ptr b 0, .str s] h K := by
  apply c_ref1_Hash
  unfold p_ref1_Hash
  have h1 : 1 + s.length < 9223372036854775808 := by omega
  simp -implicitDefEqProofs [h1]
  refine ref1_made_ok hR hB hok _ hb ?_
  simpa using hk
theorem nAll_one (key : Int) : nAll [key] = nS key := by simp [nAll]
theorem ref1_IsHash_ok (hR : R.Ok) (hB : HasRBook R mk) {m : Int} {ts : List Bs} (hok : bOk m ts) (s : Bs) (hs : s.length < 9000000000000000000) (tag : Int) {h : AHeap A} {b : Nat} (hb : h[b]? = some (.adt (mk m ts))) {K : AVal → AHeap A → Prop}
    (hk : K (.bool (cIs ts (72 :: s) tag)) h) : Tri Pr R n_ref1_IsHash [.ptr b 0, .str s, .int .i64 tag] h K := by
  apply c_ref1_IsHash
  unfold p_ref1_IsHash
  have h1 : 1 + s.length < 9223372036854775808 := by omega
  simp -implicitDefEqProofs [h1]
  refine rbook_Find_ok hR hB hok _ hb ?_
  cases hf : bFind ts (72 :: s) with
  | none => simp [cIs, hf] at hk; simpa using hk
  | some i => simp [cIs, hf] at hk; simpa using hk
end ref
end Go.AI

/- Lists that are handed over, opened. -/
set_option linter.all false
namespace Go.AI
variable {P : Program}
end Go.AI

/- Crafts, told by equations; texts that are handed over. -/
set_option linter.all false
namespace Go.AI
variable {A : Type} {R : Adts A}
/-- A slice of texts that is handed over. -/
def IsStrs (a : AVal) (l : List Bs) : Prop := (a = .nils ∧ l = []) ∨ ∃ b o cap, a = .lst b o l.length cap (l.map .str)
theorem IsStrs.len {a : AVal} {l : List Bs} (h : IsStrs a l) (K : AVal → Prop) : lenP a K = K (.int .i64 l.length) := by
  rcases h with ⟨rfl, rfl⟩ | ⟨b, o, cap, rfl⟩ <;> simp
theorem IsStrs.ix {a : AVal} {l : List Bs} (h : IsStrs a l) {n : Nat} : a.ix n = true := by
  rcases h with ⟨rfl, rfl⟩ | ⟨b, o, cap, rfl⟩
  · rfl
  · simp [AVal.ix, ixs_all]
theorem IsStrs.get {a : AVal} {l : List Bs} (h : IsStrs a l) {n : Nat} (h1 : n < l.length) : ∃ b o cs, ∀ K, idxP 1 a (.int .i64 n) K = K (.fp b o (.str l[n] :: cs)) := by
  rcases h with ⟨rfl, rfl⟩ | ⟨b, o, cap, rfl⟩
  · simp at h1
  · refine ⟨b, o + n * 1, (l.map .str).drop (n + 1), fun K => ?_⟩
    rw [idxP_l K 1 b o l.length cap _ .i64 n (by omega) (by omega), Nat.mul_one, List.drop_eq_getElem_cons (by simpa using h1)]
    simp
/-- The terms behind the first names. -/
def bNames (m : Int) (l : List Bs) (i : Nat) : List Bs := (l.take i).foldl (fun ts s => (bName m ts s).1) []
def SameI (bk : Int → List Bs → A) (m : Int) (ts : List Bs) (k : Nat) (y : List AVal) (g : AHeap A) : Prop :=
  ∃ i : Nat, y = [.int .i64 i] ∧ g = [.adt (bk m ts), .cells t_bastionref1_Book [.int .i64 m, .sl 2 0 ts.length ts.length false], .cells t_string (ts.map .str)] ∧ i ≤ ts.length ∧ k = ts.length - i
theorem book_low {mk : Int → List Bs → A} (hB : HasBook R mk) (m : Int) (ts : List Bs) {n : Nat} : AObj.low R n (.adt (mk m ts)) := ⟨book_ix hB _ _ _, fun τ _ => book_ren hB _ _ _⟩
theorem rbook_low {mk : Int → List Bs → A} (hB : HasRBook R mk) (m : Int) (ts : List Bs) {n : Nat} : AObj.low R n (.adt (mk m ts)) := ⟨rbook_ix hB _ _ _, fun τ _ => rbook_ren hB _ _ _⟩
theorem rbook_shutA (hR : R.Ok) {mk : Int → List Bs → A} (hB : HasRBook R mk) {m : Int} {o : AObj A} (ho : o.low R 2) {v : AVal} (hv : v.ix 0 = true) {K : List AVal → AHeap A → Prop} (hk : K [v] [o, .adt (mk m [])]) :
    Gives Pr R 2 [o, .cells t_bastionref1_Book [.int .i64 m, .nils]] [v] K := by
  refine Gives.shut 1 [] (mk m []) (rbookG m []) ((hB.lay _ _ _).2 rfl) (by simp [rbookG, GC.on]) rfl (fun i s hs => by simp [rbookG] at hs) (by simp) (by simp [rbookG]) (by simp [rbookG]) ?_
  refine Gives.cut hR (m := 2) (by omega) (by simp [kills_length]) (by simp [ixs, ix_mono (Nat.zero_le 2) v hv]) (by simp [kills]; exact ⟨ho, rbook_low hB _ _⟩) hk
theorem rbook_shutB (hR : R.Ok) {mk : Int → List Bs → A} (hB : HasRBook R mk) {m : Int} {ts : List Bs} (hne : ts ≠ []) {o : AObj A} (ho : o.low R 2) {v : AVal} (hv : v.ix 0 = true) {K : List AVal → AHeap A → Prop} (hk : K [v] [o, .adt (mk m ts)]) :
    Gives Pr R 2 [o, .cells t_bastionref1_Book [.int .i64 m, .sl 2 0 ts.length ts.length false], .cells t_string (ts.map .str)] [v] K := by
  refine Gives.shut 1 [2] (mk m ts) (rbookG m ts) ((hB.lay _ _ _).2 rfl) (by simp [rbookG, GC.on, hne]) (by simp [rbookG, hne]) (fun i s hs' => ?_) (by simp) (by simp [rbookG, hne]; omega) (by simp [rbookG, hne]) ?_
  · match i, hs' with
    | 0, hs' => simp [rbookG, hne] at hs'; subst hs'; exact ⟨rfl, rfl⟩
    | i + 1, hs' => simp [rbookG, hne] at hs'
  refine Gives.cut hR (m := 2) (by omega) (by simp [kills_length]) (by simp [ixs, ix_mono (Nat.zero_le 2) v hv]) (by simp [kills]; exact ⟨ho, rbook_low hB _ _⟩) hk
def TwinI (q : Nat) (bk rbk : Int → List Bs → A) (m : Int) (l : List Bs) (k : Nat) (y : List AVal) (g : AHeap A) : Prop :=
  ∃ i : Nat, y = [.int .i64 i] ∧ g = [.adt (bk m (bNames m l i)), .adt (rbk m (bNames m l i))] ∧ i ≤ l.length ∧ i ≤ q ∧ k = q - i
section
variable {mk : Int → List Bs → A}
end
end Go.AI

/- Twins of books, the statements of layer 3. -/
set_option linter.all false
namespace Go.AI
variable {A : Type} {R : Adts A}
section
variable {bk rbk : Int → List Bs → A}
end
end Go.AI

/- Crafts: what every program answers that is one; any book, keys, texts, tags. -/
set_option linter.all false
namespace Go.AI
variable {A : Type} {R : Adts A}
section
variable {bk rbk : Int → List Bs → A}
end
end Go.AI

/- CraftForms, CraftUnlike. -/
set_option linter.all false
namespace Go.AI
variable {A : Type} {R : Adts A}
def zCells (n : Nat) : List AVal := (List.replicate n [AVal.int .u8 0]).flatten
theorem zCells_eq (n : Nat) : zCells n = List.replicate n (.int .u8 0) := by
  unfold zCells
  induction n with
  | zero => rfl
  | succ n ih => rw [List.replicate_succ, List.flatten_cons, ih]; rfl
theorem zCells_bytes : ∀ n : Nat, (List.replicate n (AVal.int .u8 0)).mapM byteOf = some (List.replicate n 0)
  | 0 => rfl
  | n + 1 => by
    rw [List.replicate_succ, List.mapM_cons, zCells_bytes n]; rfl
/-- So many zeros as a text. -/
theorem mkz_ok {t : TypeId} {n : Int} (hn : 0 ≤ n ∧ n ≤ 140737488355328) {h : AHeap A} {K : AVal → AHeap A → Prop} (hk : K (.str (List.replicate n.toNat 0)) (h ++ [.cells t (zCells n.toNat)])) :
    mkslP t 1 1 [.int .u8 0] (.int .i64 n) (.int .i64 n) h fun v h => b2sP v h fun u => K u h := by
  unfold mkslP
  dsimp only
  rw [if_pos ⟨hn.1, by omega, by omega, by omega, rfl⟩]
  unfold b2sP
  dsimp only
  have e : cellsAt (h ++ [.cells t (List.replicate n.toNat [AVal.int .u8 0]).flatten]) h.length = some (zCells n.toNat) := by simp [cellsAt, AObj.read, zCells]
  simp only [e]
  rw [zCells_eq, if_pos (by simp)]
  simp only [List.drop_zero]
  rw [List.take_of_length_le (by simp), zCells_bytes]
  exact hk
def ErrJ (v : Int) (o : AHeap A) (vs : List AVal) (g : AHeap A) : Prop := vs = [.int .i64 v] ∧ g = o
section
variable {bk rbk : Int → List Bs → A}
end
end Go.AI

/- CraftUnlike. -/
set_option linter.all false
namespace Go.AI
variable {A : Type} {R : Adts A}
section
variable {bk rbk : Int → List Bs → A}
end
end Go.AI

/- CraftSeals. -/
set_option linter.all false
namespace Go.AI
variable {A : Type} {R : Adts A}
/-- Names that were told, behind one object. -/
def TRow (o : AObj A) (tags : List Int) (x : AVal) (g : AHeap A) : Prop :=
  (tags = [] ∧ x = .nils ∧ g = [o]) ∨ (tags ≠ [] ∧ x = .sl 1 0 tags.length tags.length false ∧ g = [o, .cells t_int (tags.map (.int .i64))])
section
variable {bk rbk : Int → List Bs → A}
def SealsI (bk : Int → List Bs → A) (keys : List Int) (texts : List Bs) (n : Nat) (m : Nat) (y : List AVal) (g : AHeap A) : Prop :=
  ∃ (j : Nat) (ts : List Bs) (tags : List Int) (x : AVal), y = [x, .int .i64 j] ∧ TRow (.adt (bk 999 ts)) tags x g ∧ bOk 999 ts ∧ ts.length ≤ j ∧ tags.length = j ∧
    (∀ i, i < j → bTerm ts (tags.getD i 0) = (83 :: (nS (keys.getD i 0 % 16) ++ texts.getD i []), 0)) ∧ j ≤ n ∧ m = n - j
def SealsO (h : AHeap A) (n : Nat) (m : Nat) (y : List AVal) (g : AHeap A) : Prop := ∃ j : Nat, y = [.int .i64 j] ∧ g = h ∧ j ≤ n ∧ m = n - j
end
end Go.AI

/- Codes by time. -/
set_option linter.all false
namespace Go.AI
variable {A : Type} {R : Adts A}
def tMay (x : Int) : Bool := decide (0 ≤ x ∧ x ≤ 1048575)
/-- A tick's step. -/
def tStep (x : Int) : Int := if 0 ≤ x ∧ x ≤ 1048575 then x / 30 + 1 else 0
def cTerm (x : Int) : Bs := 99 :: 111 :: 100 :: 101 :: nS x
/-- A step's code. -/
def tCode (m : Int) (ts : List Bs) (secret step : Int) : List Bs × Int × Int :=
  if 1 ≤ step ∧ step ≤ 1048575 then (if (cKey m ts 77 secret (cTerm step)).2.2 = 0 then cKey m ts 77 secret (cTerm step) else ((cKey m ts 77 secret (cTerm step)).1, 0, 1200)) else (ts, 0, 1200)
/-- The least step that is right. -/
def tTry (f : Int → Bool) (last e : Int) : Nat → Int → Int × Bool
  | 0, _ => (0, false)
  | n + 1, s => if last < s ∧ f s = true then (s, true) else tTry f last e n (s + 1)
def tAccept (f : Int → Bool) (last tick : Int) : Int × Bool :=
  if tStep tick = 0 then (0, false) else tTry f last (tStep tick + 1) (tStep tick + 2 - max 1 (tStep tick - 1)).toNat (max 1 (tStep tick - 1))
section
variable {mk : Int → List Bs → A}
end
end Go.AI

/- The boot's sectors, plainly. -/
set_option linter.all false
namespace Go.AI
def pad (s : Bs) : Bs := s ++ List.replicate (64 - s.length) 0
theorem pad_len {s : Bs} (h : s.length ≤ 64) : (pad s).length = 64 := by simp [pad]; omega
def supT (boot : Int) : Bs := 72 :: 115 :: 117 :: 112 :: 101 :: 114 :: nS boot
def bootMay (x : Int) : Bool := decide (1 ≤ x ∧ x ≤ 1023)
theorem bootMay_num {x : Int} (h : bootMay x = true) : nMay x = true := by
  have : 1 ≤ x ∧ x ≤ 1023 := by simpa [bootMay] using h
  simp [nMay]; omega
/-- A boot is written: the terms behind it, the sector, the error. -/
def sPut (m : Int) (ts : List Bs) (boot : Int) : List Bs × Bs × Int :=
  if bootMay boot = true then (if (cMade m ts (supT boot)).2.2 = 0 then ((cMade m ts (supT boot)).1, pad (nS boot ++ nS (cMade m ts (supT boot)).2.1), 0) else ((cMade m ts (supT boot)).1, [], 1000)) else (ts, [], 1000)
theorem sPut_ok {m : Int} {ts : List Bs} {boot : Int} (h : bOk m ts) : bOk m (sPut m ts boot).1 := by
  unfold sPut; split
  · split <;> exact cMade_ok h
  · exact h
/-- A boot is read. -/
def sGet (ts : List Bs) (s : Bs) : Int × Int :=
  if (gNum s 0).2.2 ≠ 0 then (0, 1000)
  else if (gNum s (gNum s 0).2.1).2.2 ≠ 0 then (0, 1000)
  else if s.length ≠ 64 ∨ bootMay (gNum s 0).1 = false ∨ cIs ts (supT (gNum s 0).1) (gNum s (gNum s 0).2.1).1 = false ∨ s.drop (gNum s (gNum s 0).2.1).2.1.toNat ≠ List.replicate (64 - (gNum s (gNum s 0).2.1).2.1.toNat) 0 then (0, 1000)
  else ((gNum s 0).1, 0)
def sPick (ts : List Bs) (one two : Bs) : Int × Int × Int :=
  if (sGet ts one).2 ≠ 0 ∧ (sGet ts two).2 ≠ 0 then (0, 0, 1001)
  else if (sGet ts one).2 = 0 ∧ (sGet ts two).1 ≤ (sGet ts one).1 then ((sGet ts one).1, 1, 0)
  else ((sGet ts two).1, 0, 0)
theorem sGet_err (ts : List Bs) (s : Bs) : ((sGet ts s).2 = 0 ∨ (sGet ts s).2 = 1000) ∧ ((sGet ts s).2 ≠ 0 → (sGet ts s).1 = 0) ∧ ((sGet ts s).2 = 0 → 1 ≤ (sGet ts s).1 ∧ (sGet ts s).1 ≤ 1023) := by
  unfold sGet
  split
  · simp
  · split
    · simp
    · split
      · simp
      · rename_i h
        have h2 : ¬ bootMay (gNum s 0).1 = false := fun h3 => h (.inr (.inl h3))
        have : 1 ≤ (gNum s 0).1 ∧ (gNum s 0).1 ≤ 1023 := by simpa [bootMay] using h2
        simp; exact this
end Go.AI

/- Records, plainly. -/
set_option linter.all false
namespace Go.AI
theorem evOf_kind (k : Int) (l : List Int) : (evOf k l).kind = k := by
  unfold evOf
  dsimp only
  split <;> (try rfl)
  split <;> (try rfl)
  split <;> (try rfl)
  split <;> (try rfl)
  split <;> (try rfl)
  split <;> (try rfl)
  split <;> (try rfl)
  split <;> (try rfl)
  split <;> rfl
theorem evMay_kind {e : Ev} (h : evMay e = true) : 0 ≤ e.kind ∧ e.kind ≤ 9 := by
  unfold evMay at h
  simp only [Bool.and_eq_true] at h
  simpa using h.1.1.1.1.1.1.1
theorem evMay_parts {e : Ev} (h : evMay e = true) : ∀ x ∈ evParts e, nMay x = true := by
  unfold evMay at h
  simp only [Bool.and_eq_true] at h
  simpa using h.1.1.1.1.1.2
theorem evMay_plain {e : Ev} (h : evMay e = true) : e = evPlain e := by
  unfold evMay at h
  simp only [Bool.and_eq_true] at h
  simpa using h.2
theorem evCount_le (k : Int) : evCount k ≤ 4 := by unfold evCount; split <;> (try split) <;> (try split) <;> omega
theorem evPut_len {e : Ev} (h : evMay e = true) : (evPut e).length ≤ 25 := by
  have h1 := nAll_len (e.kind :: evParts e)
  have h2 := evParts_count (evMay_kind h)
  have h3 := evCount_le e.kind
  unfold evPut
  simp only [List.length_cons] at h1
  omega
/-- An event that is read is what is written. -/
theorem evGet_enc {s : Bs0} {e : Ev} (h : evGet s = some e) : s = evPut e ∧ evMay e = true := by
  unfold evGet at h
  split at h
  · rename_i k t hk
    split at h
    · rename_i l u hl
      split at h
      · rename_i hu
        obtain ⟨hu1, hu2⟩ := hu
        simp at h; subst h
        obtain ⟨a1, a2, a3, a4, a5⟩ := rNums_enc hk (by omega)
        have a5' := a5 (by omega)
        obtain ⟨b1, b2, b3, b4, b5⟩ := rNums_enc hl (by omega)
        refine ⟨?_, hu2⟩
        unfold evPut
        rw [evOf_kind, evParts_of b1]
        have e0 : nAll (k :: l) = nAll [k] ++ nAll l := by simp [nAll]
        rw [e0, ← a4, ← b4]
        simp only [Int.toNat_zero, List.drop_zero, Int.sub_zero]
        have e1 : (u - t).toNat = (s.drop t.toNat).length := by rw [List.length_drop]; omega
        rw [e1, List.take_length, List.take_append_drop]
      · simp at h
    · simp at h
  · simp at h
/-- A text that stands at a place. -/
def gText (s : Bs0) (t : Int) : Bs0 × Int × Int :=
  if (gNum s t).2.2 ≠ 0 then ([], 0, (gNum s t).2.2)
  else if 65536 < (gNum s t).1 then ([], 0, 100)
  else if (s.length : Int) - (gNum s t).2.1 < (gNum s t).1 then ([], 0, 101)
  else ((s.drop (gNum s t).2.1.toNat).take (gNum s t).1.toNat, (gNum s t).2.1 + (gNum s t).1, 0)
theorem gText_enc {s x : Bs0} {t u : Int} (h : gText s t = (x, u, 0)) : nMay (x.length : Int) = true ∧ 0 ≤ t ∧ t < u ∧ u ≤ s.length ∧ (s.drop t.toNat).take (u - t).toNat = nS x.length ++ x := by
  unfold gText at h
  obtain ⟨n, t1, e, hg⟩ : ∃ x t1 e, gNum s t = (x, t1, e) := ⟨_, _, _, rfl⟩
  rw [hg] at h
  dsimp only at h
  split at h
  · simp at h; rename_i h1; exact absurd h.2.2 h1
  · rename_i h0
    split at h
    · simp at h
    · split at h
      · simp at h
      · rename_i h1 h2
        have h0' : e = 0 := by omega
        subst h0'
        obtain ⟨hn, q1, q2, q3, q4⟩ := gNum_enc hg
        have hn2 : 0 ≤ n ∧ n ≤ 1073741823 := by simpa [nMay] using hn
        simp at h
        obtain ⟨hx, rfl⟩ := h
        have hl : (x.length : Int) = n := by rw [← hx]; simp; omega
        rw [hl]
        refine ⟨hn, q1, by omega, by omega, ?_⟩
        have es : nS n = nE n := by simp [nS, hn]
        rw [es, ← q4, ← hx]
        have e1 : (t1 + n - t).toNat = (t1 - t).toNat + n.toNat := by omega
        have e2 : s.drop t1.toNat = (s.drop t.toNat).drop (t1 - t).toNat := by rw [List.drop_drop]; congr 1; omega
        rw [e1, e2, List.take_add]
/-- A record. -/
structure Rec where
  seq : Int
  boot : Int
  prev : Int
  ev : Ev
deriving DecidableEq
def Rec.row (r : Rec) : List AVal := .int .i64 r.seq :: .int .i64 r.boot :: .int .i64 r.prev :: r.ev.row
def rec0 : Rec := ⟨0, 0, 0, ev0⟩
def recBody (r : Rec) : Bs0 := nAll [r.seq, r.boot, r.prev] ++ (nS (evPut r.ev).length ++ evPut r.ev)
def recMay (r : Rec) : Bool := evMay r.ev && decide (1 ≤ r.seq) && nMay r.seq && decide (1 ≤ r.boot) && nMay r.boot && nMay r.prev && decide ((evPut r.ev).length ≤ 44)
def recT (r : Rec) : Bs0 := 72 :: 114 :: 101 :: 99 :: 111 :: 114 :: 100 :: recBody r
theorem recMay_all {r : Rec} (h : recMay r = true) : evMay r.ev = true ∧ 1 ≤ r.seq ∧ nMay r.seq = true ∧ 1 ≤ r.boot ∧ nMay r.boot = true ∧ nMay r.prev = true ∧ (evPut r.ev).length ≤ 44 := by
  simp [recMay] at h
  obtain ⟨⟨⟨⟨⟨⟨a, b⟩, c⟩, d⟩, e⟩, f⟩, g⟩ := h
  exact ⟨a, b, c, d, e, f, g⟩
theorem recBody_len {r : Rec} (h : recMay r = true) : (recBody r).length ≤ 60 := by
  obtain ⟨a, _⟩ := recMay_all h
  have h1 := evPut_len a
  have h2 := nAll_len [r.seq, r.boot, r.prev]
  have h3 := nS_len ((evPut r.ev).length : Int)
  simp only [recBody, List.length_append, List.length_cons, List.length_nil] at h2 ⊢
  omega
/-- A record is written: the terms behind it, the sector, the name, the error. -/
def recPut (m : Int) (ts : List Bs0) (r : Rec) : List Bs0 × Bs0 × Int × Int :=
  if recMay r = true then
    (if (cMade m ts (recT r)).2.2 = 0 then (if (recBody r ++ nS (cMade m ts (recT r)).2.1).length ≤ 64 then ((cMade m ts (recT r)).1, pad (recBody r ++ nS (cMade m ts (recT r)).2.1), (cMade m ts (recT r)).2.1, 0) else ((cMade m ts (recT r)).1, [], 0, 900))
     else ((cMade m ts (recT r)).1, [], 0, 900))
  else (ts, [], 0, 900)
theorem recPut_ok {m : Int} {ts : List Bs0} {r : Rec} (h : bOk m ts) : bOk m (recPut m ts r).1 := by
  unfold recPut; split
  · split
    · split <;> exact cMade_ok h
    · exact cMade_ok h
  · exact h
/-- A record is read. -/
def recRead (ts : List Bs0) (s : Bs0) : Option (Rec × Int) :=
  match rNums s 3 0 with
  | some ([q, b, p], t) =>
    if (gText s t).2.2 ≠ 0 then none
    else match evGet (gText s t).1 with
      | some e =>
        if (gNum s (gText s t).2.1).2.2 ≠ 0 then none
        else if s.length ≠ 64 ∨ recMay ⟨q, b, p, e⟩ = false ∨ cIs ts (recT ⟨q, b, p, e⟩) (gNum s (gText s t).2.1).1 = false ∨ s.drop (gNum s (gText s t).2.1).2.1.toNat ≠ List.replicate (64 - (gNum s (gText s t).2.1).2.1.toNat) 0 then none
        else some (⟨q, b, p, e⟩, (gNum s (gText s t).2.1).1)
      | none => none
  | _ => none
def recGet (ts : List Bs0) (s : Bs0) (seq prev : Int) : Rec × Int × Int :=
  match recRead ts s with
  | none => (rec0, 0, 900)
  | some (r, n) => if r.seq ≠ seq ∨ r.prev ≠ prev then (rec0, 0, 901) else (r, n, 0)
end Go.AI

/- A disk: its lists as one object. -/
set_option linter.all false
namespace Go.AI
variable {A : Type} {R : Adts A}
/-- Writes that wait: sector, bytes. -/
abbrev Ws := List (Int × Bs)
def wCells (ws : Ws) : List AVal := ws.flatMap fun w => [.int .i64 w.1, .str w.2]
/-- The program's disk: kept sectors, writes that wait, is it down. -/
def diskG (kept : List Bs) (ws : Ws) (down : Bool) : Grp A :=
  if ws = [] then { e := t_disk_Disk, cs := [.sl 0 0 kept.length kept.length true, .g .nils, .g (.bool down)], subs := [.cells t_string (kept.map .str)] }
  else { e := t_disk_Disk, cs := [.sl 0 0 kept.length kept.length true, .sl 1 0 ws.length ws.length false, .g (.bool down)], subs := [.cells t_string (kept.map .str), .cells t_disk_write (wCells ws)] }
structure HasDisk (R : Adts A) (mk : List Bs → Ws → Bool → A) : Prop where
  lay : ∀ k w d g, R.lay (mk k w d) g ↔ g = diskG k w d
  ren : ∀ τ k w d, R.ren τ (mk k w d) = mk k w d
/-- The document's disk. -/
def rdiskG (kept : List Bs) (ws : Ws) (down : Bool) : Grp A :=
  if ws = [] then { e := t_bastionref1_Disk, cs := [.sl 0 0 kept.length kept.length false, .g .nils, .g (.bool down)], subs := [.cells t_string (kept.map .str)] }
  else { e := t_bastionref1_Disk, cs := [.sl 0 0 kept.length kept.length false, .sl 1 0 ws.length ws.length false, .g (.bool down)], subs := [.cells t_string (kept.map .str), .cells t_bastionref1_write (wCells ws)] }
structure HasRDisk (R : Adts A) (mk : List Bs → Ws → Bool → A) : Prop where
  lay : ∀ k w d g, R.lay (mk k w d) g ↔ g = rdiskG k w d
  ren : ∀ τ k w d, R.ren τ (mk k w d) = mk k w d
/-- What holds of a disk. -/
structure dOk (kept : List Bs) (ws : Ws) : Prop where
  size : 1 ≤ kept.length ∧ kept.length ≤ 256
  full : ∀ s ∈ kept, s.length = 64
  wait : ∀ w ∈ ws, 0 ≤ w.1 ∧ w.1 < kept.length ∧ w.2.length = 64
/-- What the methods do, plainly: the disk behind it, the answer. -/
def dWrite (kept : List Bs) (ws : Ws) (down : Bool) (x : Int) (s : Bs) : Ws × Int :=
  if down then (ws, 801) else if x < 0 ∨ (kept.length : Int) ≤ x ∨ s.length ≠ 64 then (ws, 800) else (ws ++ [(x, s)], 0)
def dPut (kept : List Bs) (ws : Ws) : List Bs := ws.foldl (fun k w => k.set w.1.toNat w.2) kept
def dRead (kept : List Bs) (ws : Ws) (down : Bool) (x : Int) : Bs × Int :=
  if down then ([], 801) else if x < 0 ∨ (kept.length : Int) ≤ x then ([], 800) else ((dPut kept ws).getD x.toNat [], 0)
theorem wCells_ix (n : Nat) : ∀ ws : Ws, ixs n (wCells ws) = true
  | [] => rfl
  | w :: r => by simp only [wCells, List.flatMap_cons]; simpa [ixs, AVal.ix, wCells] using wCells_ix n r
theorem wCells_len : ∀ ws : Ws, (wCells ws).length = 2 * ws.length
  | [] => rfl
  | w :: r => by have := wCells_len r; simp [wCells] at this ⊢; omega
theorem strs_ix (n : Nat) (l : List Bs) : ixs n (l.map .str) = true := by simp [ixs_all, AVal.ix]
/-- An object of a data type is told as one again. -/
theorem adt_shut (hR : R.Ok) {a : A} {g : Grp A} (hl : R.lay a g) (hix : (AObj.adt a).ix R 1) (hren : ∀ τ, (AObj.adt a).ren R τ = .adt a) {h : AHeap A} {v : AVal} {K : List AVal → AHeap A → Prop} (js : List Nat)
    (h0 : h[0]? = some (.cells g.e (g.cs.map (GC.on js)))) (hj : js.length = g.subs.length) (hs : ∀ (i : Nat) (s : AObj A), g.subs[i]? = some s → h[js.getD i 0]? = some s ∧ s.bas = true) (hnd : (0 :: js).Nodup)
    (hi1 : ∀ i o len cap ex, GC.sl i o len cap ex ∈ g.cs → i < g.subs.length) (hi2 : ∀ i, GC.mp i ∈ g.cs → i < g.subs.length) (hv : v.ix 0 = true) (hk : K [v] [.adt a]) : Gives Pr R 1 h [v] K := by
  have hlt := (List.getElem?_eq_some_iff.1 h0).1
  refine Gives.shut 0 js a g hl h0 hj hs hnd hi1 hi2 ?_
  have e := take1_set (kills h js) (.adt a) (by rw [kills_length]; exact hlt)
  exact Gives.cut hR (m := 1) (by omega) (by simp [kills_length]; omega) (by simp [ixs, ix_mono (Nat.zero_le 1) v hv]) (by rw [e]; simp; exact ⟨hix, fun τ _ => hren τ⟩) (by rw [e]; exact hk)
section disk
variable {mk : List Bs → Ws → Bool → A}
theorem disk_ix (hB : HasDisk R mk) (k : List Bs) (w : Ws) (d : Bool) (n : Nat) : (AObj.adt (mk k w d)).ix R n := by
  intro g hg
  obtain rfl := (hB.lay _ _ _ _).1 hg
  unfold diskG
  split <;> simp [AVal.ix, strs_ix, wCells_ix]
theorem disk_ren (hB : HasDisk R mk) (k : List Bs) (w : Ws) (d : Bool) (τ : Nat → Nat) : (AObj.adt (mk k w d)).ren R τ = .adt (mk k w d) := by simp [AObj.ren, hB.ren]
theorem disk_shut0 (hR : R.Ok) (hB : HasDisk R mk) {k : List Bs} {d : Bool} {h : AHeap A} {v : AVal} {K : List AVal → AHeap A → Prop} (j0 n : Nat) (hn : n = k.length) (h0 : h[0]? = some (.cells t_disk_Disk [.sl j0 0 n n true, .nils, .bool d]))
    (hs : h[j0]? = some (.cells t_string (k.map .str))) (hd : 0 ≠ j0) (hv : v.ix 0 = true) (hk : K [v] [.adt (mk k [] d)]) : Gives Pr R 1 h [v] K := by
  subst hn
  refine adt_shut hR ((hB.lay _ _ _ _).2 rfl) (disk_ix hB _ _ _ _) (disk_ren hB _ _ _) [j0] (by simpa [diskG, GC.on] using h0) rfl (fun i s hs' => ?_) (by simp [hd]) (by simp [diskG]; omega) (by simp [diskG]) hv hk
  match i, hs' with
  | 0, hs' => simp [diskG] at hs'; subst hs'; exact ⟨hs, rfl⟩
  | i + 1, hs' => simp [diskG] at hs'
theorem disk_shut (hR : R.Ok) (hB : HasDisk R mk) {k : List Bs} {w : Ws} (hne : w ≠ []) {d : Bool} {h : AHeap A} {v : AVal} {K : List AVal → AHeap A → Prop} (j0 j1 n m : Nat) (hn : n = k.length) (hm : m = w.length)
    (h0 : h[0]? = some (.cells t_disk_Disk [.sl j0 0 n n true, .sl j1 0 m m false, .bool d])) (hs : h[j0]? = some (.cells t_string (k.map .str))) (hw : h[j1]? = some (.cells t_disk_write (wCells w)))
    (hd : 0 ≠ j0 ∧ 0 ≠ j1 ∧ j0 ≠ j1) (hv : v.ix 0 = true) (hk : K [v] [.adt (mk k w d)]) : Gives Pr R 1 h [v] K := by
  subst hn hm
  refine adt_shut hR ((hB.lay _ _ _ _).2 rfl) (disk_ix hB _ _ _ _) (disk_ren hB _ _ _) [j0, j1] (by simpa [diskG, GC.on, hne] using h0) (by simp [diskG, hne]) (fun i s hs' => ?_) (by simp [hd]) (by simp [diskG, hne]; omega) (by simp [diskG, hne]) hv hk
  match i, hs' with
  | 0, hs' => simp [diskG, hne] at hs'; subst hs'; exact ⟨hs, rfl⟩
  | 1, hs' => simp [diskG, hne] at hs'; subst hs'; exact ⟨hw, rfl⟩
  | i + 2, hs' => simp [diskG, hne] at hs'
theorem there_cells {h : AHeap A} {b j o n cap : Nat} {ex : Bool} {t : TypeId} {w d : AVal} (hb : h[b]? = some (.cells t [.sl j o n cap ex, w, d])) (x : Int) {K : AVal → AHeap A → Prop} (hk : K (.bool (decide (0 ≤ x) && decide (x < n))) h) :
    Tri Pr R n_disk_Disk_there [.ptr b 0, .int .i64 x] h K := by
  apply c_disk_Disk_there
  unfold p_disk_Disk_there
  simp [cellsAt, hb, AObj.read]
  refine iteP_of (fun h1 => ?_) (fun h1 => ?_)
  · rw [h1] at hk; simpa using hk
  · rw [h1] at hk; simpa using hk
theorem disk_Write_ok (hR : R.Ok) (hB : HasDisk R mk) {k : List Bs} {w : Ws} {d : Bool} (hok : dOk k w) (hw : w.length ≤ 1000) (x : Int) (s : Bs) {h : AHeap A} {b : Nat} (hb : h[b]? = some (.adt (mk k w d))) {K : AVal → AHeap A → Prop}
    (hk : K (.int .i64 (dWrite k w d x s).2) (h.set b (.adt (mk k (dWrite k w d x s).1 d)))) : Tri Pr R n_disk_Disk_Write [.ptr b 0, .int .i64 x, .str s] h K := by
  refine Tri.own hR (as2 := [.ptr 0 0, .int .i64 x, .str s]) (Q := fun v o => v = .int .i64 (dWrite k w d x s).2 ∧ o = .adt (mk k (dWrite k w d x s).1 d)) rfl (disk_ix hB _ _ _ _) ?_ (disk_ren hB _ _ _) ?_ hb (by simp [rens, AVal.ren]) ?_
  · rintro _ _ ⟨rfl, rfl⟩; exact ⟨rfl, disk_ren hB _ _ _⟩
  · refine Tri.post (Tri.pre (Gives.opened 0 rfl (by simp) fun g hg => ?_))
    obtain rfl := (hB.lay _ _ _ _).1 hg
    refine Gives.done (by simp) ?_
    apply c_disk_Disk_Write
    unfold p_disk_Disk_Write
    obtain ⟨r, hr⟩ : ∃ r, dWrite k w d x s = r := ⟨_, rfl⟩
    rw [hr]
    unfold dWrite at hr
    by_cases h0 : w = []
    · subst h0
      have fin : ∀ (v : Int), Gives Pr R 1 [.cells t_disk_Disk [.sl 1 0 k.length k.length true, .nils, .bool d], .cells t_string (k.map .str)] [.int .i64 v] fun vs h2 => ∃ u, vs = [u] ∧ ∃ o', (u = .int .i64 v ∧ o' = .adt (mk k [] d)) ∧ h2 = [o'] := fun v =>
        disk_shut0 hR hB 1 _ rfl rfl rfl (by omega) rfl ⟨_, rfl, _, ⟨rfl, rfl⟩, rfl⟩
      cases d with
      | true =>
        simp at hr; subst hr
        simp [diskG, GC.at]
        exact fin _
      | false =>
        simp at hr
        simp [diskG, GC.at]
        refine there_cells rfl x ?_
        by_cases hx : x < 0 ∨ (k.length : Int) ≤ x
        · rw [if_pos (by omega)] at hr; subst hr
          have h1 : (decide (0 ≤ x) && decide (x < k.length)) = false := by simp; omega
          simp [h1]
          exact fin _
        · have h1 : (decide (0 ≤ x) && decide (x < k.length)) = true := by simp; omega
          by_cases hs : s.length = 64
          · rw [if_neg (by omega)] at hr; subst hr
            simp [h1, hs, appP, appV, srcOf, cellsAt]
            exact disk_shut hR hB (w := [(x, s)]) (by simp) 1 3 _ 1 rfl rfl rfl rfl rfl (by omega) rfl ⟨_, rfl, _, ⟨rfl, rfl⟩, rfl⟩
          · rw [if_pos (by omega)] at hr; subst hr
            have h2 : ((s.length : Int) != 64) = true := by simp; omega
            simp [h1, h2]
            exact fin _
    · have fin : ∀ (v : Int), Gives Pr R 1 [.cells t_disk_Disk [.sl 1 0 k.length k.length true, .sl 2 0 w.length w.length false, .bool d], .cells t_string (k.map .str), .cells t_disk_write (wCells w)] [.int .i64 v] fun vs h2 => ∃ u, vs = [u] ∧ ∃ o', (u = .int .i64 v ∧ o' = .adt (mk k w d)) ∧ h2 = [o'] := fun v =>
        disk_shut hR hB h0 1 2 _ _ rfl rfl rfl rfl rfl (by omega) rfl ⟨_, rfl, _, ⟨rfl, rfl⟩, rfl⟩
      cases d with
      | true =>
        simp at hr; subst hr
        simp [diskG, GC.at, h0]
        exact fin _
      | false =>
        simp at hr
        simp [diskG, GC.at, h0]
        refine there_cells rfl x ?_
        by_cases hx : x < 0 ∨ (k.length : Int) ≤ x
        · rw [if_pos (by omega)] at hr; subst hr
          have h1 : (decide (0 ≤ x) && decide (x < k.length)) = false := by simp; omega
          simp [h1]
          exact fin _
        · have h1 : (decide (0 ≤ x) && decide (x < k.length)) = true := by simp; omega
          by_cases hs : s.length = 64
          · rw [if_neg (by omega)] at hr; subst hr
            have hl := wCells_len w
            have h6 : ¬ w.length + 1 ≤ w.length := by omega
            have h7 : (2 * (w.length + 1) + 1000) * 24 ≤ 140737488355328 := by omega
            have h8 : w.length * 2 ≤ (wCells w).length := by omega
            have h9 : w.length * 2 = (wCells w).length := by omega
            simp [h1, hs, appP, appV, srcOf, cellsAt, h6, h7, h8, h9]
            refine disk_shut hR hB (w := w ++ [(x, s)]) (by simp) 1 4 _ (w.length + 1) rfl (by simp) rfl rfl ?_ (by omega) rfl ⟨_, rfl, _, ⟨rfl, rfl⟩, rfl⟩
            simp [wCells]
          · rw [if_pos (by omega)] at hr; subst hr
            have h2 : ((s.length : Int) != 64) = true := by simp; omega
            simp [h1, h2]
            exact fin _
  · rintro _ _ ⟨rfl, rfl⟩; exact hk
theorem wCells_at : ∀ (w : Ws) (i : Nat) (h : i < w.length), ((wCells w).drop (i * 2)).take 2 = [.int .i64 w[i].1, .str w[i].2]
  | [], i, h => by simp at h
  | a :: r, 0, h => by simp [wCells]
  | a :: r, i + 1, h => by
    have := wCells_at r i (by simpa using h)
    rw [show (i + 1) * 2 = 2 + i * 2 by omega]
    simp only [wCells, List.flatMap_cons] at this ⊢
    rw [← List.drop_drop]
    simpa using this
theorem dPut_len (k : List Bs) : ∀ w : Ws, (dPut k w).length = k.length := by
  intro w
  unfold dPut
  induction w generalizing k with
  | nil => rfl
  | cons a r ih => simp [List.foldl_cons, ih]
theorem dPut_snoc (k : List Bs) (w : Ws) (a : Int × Bs) : dPut k (w ++ [a]) = (dPut k w).set a.1.toNat a.2 := by simp [dPut, List.foldl_append]
theorem dPut_full {k : List Bs} {w : Ws} (h : dOk k w) : ∀ s ∈ dPut k w, s.length = 64 := by
  have key : ∀ (w : Ws) (k : List Bs), (∀ s ∈ k, s.length = 64) → (∀ a ∈ w, a.2.length = 64) → ∀ s ∈ dPut k w, s.length = 64 := by
    intro w
    induction w with
    | nil => intro k hk _; exact hk
    | cons a r ih =>
      intro k hk hw
      refine ih _ (fun s hs => ?_) (fun b hb => hw b (by simp [hb]))
      rcases List.mem_or_eq_of_mem_set hs with h | h
      · exact hk s h
      · rw [h]; exact hw a (by simp)
  exact key w k h.full fun a ha => (h.wait a ha).2.2
theorem disk_Flush_ok (hR : R.Ok) (hB : HasDisk R mk) {k : List Bs} {w : Ws} {d : Bool} (hok : dOk k w) (hw : w.length ≤ 1000) {h : AHeap A} {b : Nat} (hb : h[b]? = some (.adt (mk k w d))) {K : AVal → AHeap A → Prop}
    (hk : if d = true then K (.int .i64 801) h else K (.int .i64 0) (h.set b (.adt (mk (dPut k w) [] d)))) : Tri Pr R n_disk_Disk_Flush [.ptr b 0] h K := by
  refine Tri.own hR (as2 := [.ptr 0 0]) (Q := fun v o => if d = true then v = .int .i64 801 ∧ o = .adt (mk k w d) else v = .int .i64 0 ∧ o = .adt (mk (dPut k w) [] d)) rfl (disk_ix hB _ _ _ _) ?_ (disk_ren hB _ _ _) ?_ hb (by simp [rens, AVal.ren]) ?_
  · intro v o hq; split at hq <;> (obtain ⟨rfl, rfl⟩ := hq; exact ⟨rfl, disk_ren hB _ _ _⟩)
  · refine Tri.post (Tri.pre (Gives.opened 0 rfl (by simp) fun g hg => ?_))
    obtain rfl := (hB.lay _ _ _ _).1 hg
    refine Gives.done (by simp) ?_
    apply c_disk_Disk_Flush
    unfold p_disk_Disk_Flush
    by_cases h0 : w = []
    · subst h0
      cases d with
      | true =>
        simp [diskG, GC.at]
        exact disk_shut0 hR hB 1 _ rfl rfl rfl (by omega) rfl ⟨_, rfl, _, ⟨rfl, rfl⟩, rfl⟩
      | false =>
        simp [diskG, GC.at]
        refine loopP_unr 1 ?_
        rw [unr]
        simp
        exact disk_shut0 hR hB 1 _ rfl rfl rfl (by omega) rfl ⟨_, rfl, _, ⟨rfl, rfl⟩, rfl⟩
    · cases d with
      | true =>
        simp [diskG, GC.at, h0]
        exact disk_shut hR hB h0 1 2 _ _ rfl rfl rfl rfl rfl (by omega) rfl ⟨_, rfl, _, ⟨rfl, rfl⟩, rfl⟩
      | false =>
        simp [diskG, GC.at, h0]
        refine loopP_go (fun m y g => ∃ i : Nat, y = [.int .i64 i] ∧ g = [.cells t_disk_Disk [.sl 1 0 k.length k.length true, .sl 2 0 w.length w.length false, .bool false], .cells t_string ((dPut k (w.take i)).map .str), .cells t_disk_write (wCells w)] ∧ i ≤ w.length ∧ m = w.length - i) w.length
          (Gives.done (by simp) ⟨0, by simp, by simp [dPut], by omega, by omega⟩) ?_
        rintro m y g ⟨i, rfl, rfl, hi, rfl⟩
        simp
        refine iteP_of (fun h1 => ?_) (fun h1 => ?_)
        · simp at h1
          have e1 := w64 (n := (i : Int) + 1) (by omega)
          have hwc := wCells_at w i h1
          have hwl := wCells_len w
          have hle : i * 2 + 2 ≤ (wCells w).length := by omega
          obtain ⟨q0, q1, q2⟩ := hok.wait w[i] (List.getElem_mem h1)
          have hdl := dPut_len k (w.take i)
          have hso := fun g : AHeap A => setO_one g 1 w[i].1.toNat (.str w[i].2) t_string ((dPut k (w.take i)).map .str) rfl (by simp [hdl]; omega)
          have hsp : dPut k (w.take (i + 1)) = (dPut k (w.take i)).set w[i].1.toNat w[i].2 := by rw [← List.take_append_getElem h1, dPut_snoc]
          simp [h1, hwc, hle, q0, q1, hso, e1]
          refine Gives.cut hR (m := 3) (by omega) (by simp) rfl (by simp; exact ⟨low_cells rfl, low_cells (by rw [← List.map_set]; exact strs_ix _ _), low_cells (wCells_ix _ _)⟩) ?_
          exact ⟨w.length - (i + 1), by omega, i + 1, by simp, by rw [hsp]; simp, by omega, rfl⟩
        · simp at h1
          obtain rfl : i = w.length := by omega
          simp
          exact disk_shut0 hR hB 1 _ (dPut_len k w).symm rfl rfl (by omega) rfl ⟨_, rfl, _, ⟨rfl, rfl⟩, rfl⟩
  · intro v o hq
    cases d with
    | true => simp at hq hk; obtain ⟨rfl, rfl⟩ := hq; rw [set_same hb]; exact hk
    | false => simp at hq hk; obtain ⟨rfl, rfl⟩ := hq; exact hk
theorem disk_Read_ok (hR : R.Ok) (hB : HasDisk R mk) {k : List Bs} {w : Ws} {d : Bool} (hok : dOk k w) (hw : w.length ≤ 1000) (x : Int) {h : AHeap A} {b : Nat} (hb : h[b]? = some (.adt (mk k w d))) {K : AVal → AHeap A → Prop}
    (hk : K (.tup [.str (dRead k w d x).1, .int .i64 (dRead k w d x).2]) h) : Tri Pr R n_disk_Disk_Read [.ptr b 0, .int .i64 x] h K := by
  refine Tri.own hR (as2 := [.ptr 0 0, .int .i64 x]) (Q := fun v o => v = .tup [.str (dRead k w d x).1, .int .i64 (dRead k w d x).2] ∧ o = .adt (mk k w d)) rfl (disk_ix hB _ _ _ _) ?_ (disk_ren hB _ _ _) ?_ hb (by simp [rens, AVal.ren]) ?_
  · rintro _ _ ⟨rfl, rfl⟩; exact ⟨rfl, disk_ren hB _ _ _⟩
  · refine Tri.post (Tri.pre (Gives.opened 0 rfl (by simp) fun g hg => ?_))
    obtain rfl := (hB.lay _ _ _ _).1 hg
    refine Gives.done (by simp) ?_
    apply c_disk_Disk_Read
    unfold p_disk_Disk_Read
    obtain ⟨r, hr⟩ : ∃ r, dRead k w d x = r := ⟨_, rfl⟩
    rw [hr]
    unfold dRead at hr
    by_cases h0 : w = []
    · subst h0
      have fin : ∀ (s : Bs) (v : Int), Gives Pr R 1 [.cells t_disk_Disk [.sl 1 0 k.length k.length true, .nils, .bool d], .cells t_string (k.map .str)] [.tup [.str s, .int .i64 v]] fun vs h2 => ∃ u, vs = [u] ∧ ∃ o', (u = .tup [.str s, .int .i64 v] ∧ o' = .adt (mk k [] d)) ∧ h2 = [o'] := fun s v =>
        disk_shut0 hR hB 1 _ rfl rfl rfl (by omega) rfl ⟨_, rfl, _, ⟨rfl, rfl⟩, rfl⟩
      cases d with
      | true =>
        simp at hr; subst hr
        simp [diskG, GC.at]
        exact fin _ _
      | false =>
        simp at hr
        simp [diskG, GC.at]
        refine there_cells rfl x ?_
        by_cases hx : x < 0 ∨ (k.length : Int) ≤ x
        · rw [if_pos hx] at hr; subst hr
          have h1 : (decide (0 ≤ x) && decide (x < k.length)) = false := by simp; omega
          simp [h1]
          exact fin _ _
        · rw [if_neg hx] at hr; subst hr
          have h1 : (decide (0 ≤ x) && decide (x < k.length)) = true := by simp; omega
          have h2 : 0 ≤ x := by omega
          have h3 : x < k.length := by omega
          have h4 : x.toNat < k.length := by omega
          simp [h1, h2, h3, h4]
          refine loopP_unr 1 ?_
          rw [unr]
          simp [dPut, h4]
          exact fin _ _
    · have fin : ∀ (s : Bs) (v : Int), Gives Pr R 1 [.cells t_disk_Disk [.sl 1 0 k.length k.length true, .sl 2 0 w.length w.length false, .bool d], .cells t_string (k.map .str), .cells t_disk_write (wCells w)] [.tup [.str s, .int .i64 v]] fun vs h2 => ∃ u, vs = [u] ∧ ∃ o', (u = .tup [.str s, .int .i64 v] ∧ o' = .adt (mk k w d)) ∧ h2 = [o'] := fun s v =>
        disk_shut hR hB h0 1 2 _ _ rfl rfl rfl rfl rfl (by omega) rfl ⟨_, rfl, _, ⟨rfl, rfl⟩, rfl⟩
      cases d with
      | true =>
        simp at hr; subst hr
        simp [diskG, GC.at, h0]
        exact fin _ _
      | false =>
        simp at hr
        simp [diskG, GC.at, h0]
        refine there_cells rfl x ?_
        by_cases hx : x < 0 ∨ (k.length : Int) ≤ x
        · rw [if_pos hx] at hr; subst hr
          have h1 : (decide (0 ≤ x) && decide (x < k.length)) = false := by simp; omega
          simp [h1]
          exact fin _ _
        · rw [if_neg hx] at hr; subst hr
          have h1 : (decide (0 ≤ x) && decide (x < k.length)) = true := by simp; omega
          have h2 : 0 ≤ x := by omega
          have h3 : x < k.length := by omega
          have h4 : x.toNat < k.length := by omega
          simp [h1, h2, h3, h4]
          refine loopP_go (fun m y g => ∃ i : Nat, y = [.str ((dPut k (w.take i)).getD x.toNat []), .int .i64 i] ∧ g = [.cells t_disk_Disk [.sl 1 0 k.length k.length true, .sl 2 0 w.length w.length false, .bool false], .cells t_string (k.map .str), .cells t_disk_write (wCells w)] ∧ i ≤ w.length ∧ m = w.length - i) w.length
            (Gives.done (by simp) ⟨0, by simp [dPut, h4], rfl, by omega, by omega⟩) ?_
          rintro m y g ⟨i, rfl, rfl, hi, rfl⟩
          simp
          refine iteP_of (fun h5 => ?_) (fun h5 => ?_)
          · simp at h5
            have e1 := w64 (n := (i : Int) + 1) (by omega)
            have hwc := wCells_at w i h5
            have hwl := wCells_len w
            have hle : i * 2 + 2 ≤ (wCells w).length := by omega
            obtain ⟨q0, q1, q2⟩ := hok.wait w[i] (List.getElem_mem h5)
            have hdl := dPut_len k (w.take i)
            have hsp : dPut k (w.take (i + 1)) = (dPut k (w.take i)).set w[i].1.toNat w[i].2 := by rw [← List.take_append_getElem h5, dPut_snoc]
            refine joinP_go ?_
            simp [h5, hwc, hle, e1]
            refine iteP_of (fun h6 => ?_) (fun h6 => ?_)
            · simp at h6
              refine Gives.cut hR (m := 3) (by omega) (by simp) rfl (by simp; exact ⟨low_cells rfl, low_cells (strs_ix _ _), low_cells (wCells_ix _ _)⟩) ?_
              refine ⟨w.length - (i + 1), by omega, i + 1, ?_, rfl, by omega, rfl⟩
              rw [hsp, ← h6]
              simp [List.getD_eq_getElem?_getD, List.getElem?_set, hdl, show w[i].1.toNat < k.length by omega]
            · simp at h6
              refine Gives.cut hR (m := 3) (by omega) (by simp) rfl (by simp; exact ⟨low_cells rfl, low_cells (strs_ix _ _), low_cells (wCells_ix _ _)⟩) ?_
              refine ⟨w.length - (i + 1), by omega, i + 1, ?_, rfl, by omega, rfl⟩
              rw [hsp]
              simp [List.getD_eq_getElem?_getD, List.getElem?_set, show ¬ w[i].1.toNat = x.toNat by omega]
          · simp at h5
            obtain rfl : i = w.length := by omega
            simp
            simpa using fin _ _
  · rintro _ _ ⟨rfl, rfl⟩; rw [set_same hb]; exact hk
theorem disk_Restart_ok (hR : R.Ok) (hB : HasDisk R mk) {k : List Bs} {w : Ws} {d : Bool} {h : AHeap A} {b : Nat} (hb : h[b]? = some (.adt (mk k w d))) {K : AVal → AHeap A → Prop}
    (hk : K (.int .i64 (if d = true then 0 else 800)) (h.set b (.adt (mk k w false)))) : Tri Pr R n_disk_Disk_Restart [.ptr b 0] h K := by
  refine Tri.own hR (as2 := [.ptr 0 0]) (Q := fun v o => v = .int .i64 (if d = true then 0 else 800) ∧ o = .adt (mk k w false)) rfl (disk_ix hB _ _ _ _) ?_ (disk_ren hB _ _ _) ?_ hb (by simp [rens, AVal.ren]) ?_
  · rintro _ _ ⟨rfl, rfl⟩; exact ⟨rfl, disk_ren hB _ _ _⟩
  · refine Tri.post (Tri.pre (Gives.opened 0 rfl (by simp) fun g hg => ?_))
    obtain rfl := (hB.lay _ _ _ _).1 hg
    refine Gives.done (by simp) ?_
    apply c_disk_Disk_Restart
    unfold p_disk_Disk_Restart
    by_cases h0 : w = []
    · subst h0
      cases d <;> simp [diskG, GC.at]
      · exact disk_shut0 hR hB 1 _ rfl rfl rfl (by omega) rfl ⟨_, rfl, _, ⟨rfl, rfl⟩, rfl⟩
      · exact disk_shut0 hR hB 1 _ rfl rfl rfl (by omega) rfl ⟨_, rfl, _, ⟨rfl, rfl⟩, rfl⟩
    · cases d <;> simp [diskG, GC.at, h0]
      · exact disk_shut hR hB h0 1 2 _ _ rfl rfl rfl rfl rfl (by omega) rfl ⟨_, rfl, _, ⟨rfl, rfl⟩, rfl⟩
      · exact disk_shut hR hB h0 1 2 _ _ rfl rfl rfl rfl rfl (by omega) rfl ⟨_, rfl, _, ⟨rfl, rfl⟩, rfl⟩
  · rintro _ _ ⟨rfl, rfl⟩; exact hk
/-- A crash: whether a write was lost already, the sectors behind it. -/
def dLose (mask torn : Int) : Nat → List Bs → Bool → Ws → List Bs
  | _, k, _, [] => k
  | i, k, whole, a :: r =>
    if i < 30 ∧ mask / 2 ^ i % 2 = 1 then dLose mask torn (i + 1) (k.set a.1.toNat a.2) whole r
    else if whole = true then dLose mask torn (i + 1) (k.set a.1.toNat (a.2.take (min torn.toNat 64) ++ (k.getD a.1.toNat []).drop (min torn.toNat 64))) false r
    else dLose mask torn (i + 1) k whole r
end disk
end Go.AI
