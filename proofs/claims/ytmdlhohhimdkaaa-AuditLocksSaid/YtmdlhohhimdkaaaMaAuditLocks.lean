/- Plain laws of whole numbers and their bits. -/
import Derived.Test.YtmdlhohhimdkaaaNm
import Derived.IntWalk
import Derived.Test.YtmdlhohhimdkaaaFns
import Derived.Test.YtmdlhohhimdkaaaAiT
set_option linter.all false
namespace Go.AI
@[simp] theorem w64 {n : Int} (h : -9223372036854775808 ≤ n ∧ n ≤ 9223372036854775807) : IntKind.i64.wrap n = n := IntWalk.i64_in n h
@[simp] theorem w8 {n : Int} (h : 0 ≤ n ∧ n ≤ 255) : IntKind.u8.wrap n = n := IntWalk.u8_in n h
theorem w8m (n : Int) : IntKind.u8.wrap n = n % 256 := IntKind.wrap_u8 n
@[simp] theorem wu64 {n : Int} (h : 0 ≤ n ∧ n ≤ 18446744073709551615) : IntKind.u64.wrap n = n := IntWalk.u64_in n h
@[simp] theorem wuint {n : Int} (h : 0 ≤ n ∧ n ≤ 18446744073709551615) : IntKind.u64.wrap n = n := IntWalk.u64_in n h
theorem ofInt_nat (x : Nat) : BitVec.ofInt 64 (x : Int) = BitVec.ofNat 64 x := by
  apply BitVec.eq_of_toNat_eq; simp [BitVec.toNat_ofInt]
theorem bits_and (x y : Nat) (hx : x < 9223372036854775808) (hy : y < 9223372036854775808) : bits .i64 (· &&& ·) (x : Int) (y : Int) = ((x &&& y : Nat) : Int) := by
  unfold bits
  show IntKind.i64.wrap ((BitVec.ofInt 64 (x : Int) &&& BitVec.ofInt 64 (y : Int)).toNat : Int) = _
  rw [ofInt_nat, ofInt_nat, BitVec.toNat_and, BitVec.toNat_ofNat, BitVec.toNat_ofNat, Nat.mod_eq_of_lt (by omega), Nat.mod_eq_of_lt (by omega)]
  have : x &&& y ≤ x := Nat.and_le_left
  exact w64 (by omega)
theorem bits_or (x y : Nat) (hx : x < 9223372036854775808) (hy : y < 9223372036854775808) : bits .i64 (· ||| ·) (x : Int) (y : Int) = ((x ||| y : Nat) : Int) := by
  unfold bits
  show IntKind.i64.wrap ((BitVec.ofInt 64 (x : Int) ||| BitVec.ofInt 64 (y : Int)).toNat : Int) = _
  rw [ofInt_nat, ofInt_nat, BitVec.toNat_or, BitVec.toNat_ofNat, BitVec.toNat_ofNat, Nat.mod_eq_of_lt (by omega), Nat.mod_eq_of_lt (by omega)]
  have : x ||| y < 2 ^ 63 := Nat.or_lt_two_pow (by omega) (by omega)
  exact w64 (by omega)
theorem bits_xor (x y : Nat) (hx : x < 9223372036854775808) (hy : y < 9223372036854775808) : bits .i64 (· ^^^ ·) (x : Int) (y : Int) = ((x ^^^ y : Nat) : Int) := by
  unfold bits
  show IntKind.i64.wrap ((BitVec.ofInt 64 (x : Int) ^^^ BitVec.ofInt 64 (y : Int)).toNat : Int) = _
  rw [ofInt_nat, ofInt_nat, BitVec.toNat_xor, BitVec.toNat_ofNat, BitVec.toNat_ofNat, Nat.mod_eq_of_lt (by omega), Nat.mod_eq_of_lt (by omega)]
  have : x ^^^ y < 2 ^ 63 := Nat.xor_lt_two_pow (by omega) (by omega)
  exact w64 (by omega)
/-- A mask of low bits, of whatever number. -/
theorem bits_mask (x : Int) (n : Nat) (hn : n < 63) (m : Int) (hm : m = 2 ^ n - 1) : bits .i64 (· &&& ·) x m = x % 2 ^ n := by
  unfold bits
  show IntKind.i64.wrap ((BitVec.ofInt 64 x &&& BitVec.ofInt 64 m).toNat : Int) = _
  have hm2 : m = ((2 ^ n - 1 : Nat) : Int) := by
    have : 0 < 2 ^ n := Nat.two_pow_pos n
    rw [hm, Int.ofNat_sub (by omega)]; push_cast; rfl
  have hlt : 2 ^ n - 1 < 2 ^ 64 := by have := Nat.pow_lt_pow_right (a := 2) (by omega) (show n < 64 by omega); omega
  have hle : (2 : Int) ^ n ≤ 2 ^ 62 := by exact_mod_cast Nat.pow_le_pow_right (n := 2) (by omega) (show n ≤ 62 by omega)
  rw [hm2, ofInt_nat, BitVec.toNat_and, BitVec.toNat_ofNat, Nat.mod_eq_of_lt hlt, Nat.and_two_pow_sub_one_eq_mod, BitVec.toNat_ofInt]
  have hd : (2 : Int) ^ n ∣ ((2 ^ 64 : Nat) : Int) := by
    have := Int.ofNat_dvd.2 (Nat.pow_dvd_pow 2 (show n ≤ 64 by omega))
    rwa [Int.natCast_pow] at this
  have hpos : (0 : Int) < 2 ^ n := Int.pow_pos (by omega)
  have h1 : (((x % ((2 ^ 64 : Nat) : Int)).toNat % 2 ^ n : Nat) : Int) = x % 2 ^ n := by
    rw [Int.natCast_emod, Int.toNat_of_nonneg (Int.emod_nonneg _ (by omega)), Int.natCast_pow]
    exact Int.emod_emod_of_dvd x hd
  rw [h1]
  have h2 := Int.emod_nonneg x (show (2 : Int) ^ n ≠ 0 by omega)
  have h3 := Int.emod_lt_of_pos x hpos
  exact w64 (by omega)
theorem bits_and1 (x : Int) : bits .i64 (· &&& ·) x 1 = x % 2 := bits_mask x 1 (by omega) 1 (by omega)
theorem pow2_le {k n : Nat} (h : k ≤ n) : (2 : Int) ^ k ≤ 2 ^ n := by exact_mod_cast Nat.pow_le_pow_right (n := 2) (by omega) h
theorem pow2_pos (k : Nat) : (0 : Int) < 2 ^ k := Int.pow_pos (by omega)
theorem pow2_cast (k : Nat) : ((2 ^ k : Nat) : Int) = (2 : Int) ^ k := Int.natCast_pow 2 k
end Go.AI

/- For use: what is cut off a heap; loops; lists of numbers handed over. -/
set_option linter.all false
namespace Go.AI
variable {A : Type} {P : Program} {R : Adts A}
mutual
theorem ren_low {m : Nat} {τ : Nat → Nat} (ht : ∀ k, k < m → τ k = k) : ∀ v : AVal, v.ix m = true → v.ren τ = v
  | .any, _ | .bool _, _ | .int _ _, _ | .str _, _ | .nilp, _ | .nils, _ | .odd _, _ | .raw _, _ | .nilm, _ | .nilf, _ | .nili, _ | .lst _ _ _ _ _, _ | .fp _ _ _, _ => by simp [AVal.ren]
  | .ptr b o, h | .sl b o _ _ _, h | .empt b o _, h | .map b, h => by simp [AVal.ix] at h; simp [AVal.ren, ht b h]
  | .fn f a c, h => by simp only [AVal.ix, Bool.and_eq_true] at h; simp [AVal.ren, rens_low ht a h.1, rens_low ht c h.2]
  | .iface t v, h => by simp only [AVal.ix] at h; simp [AVal.ren, ren_low ht v h]
  | .agg cs, h => by simp only [AVal.ix] at h; simp [AVal.ren, rens_low ht cs h]
  | .tup cs, h => by simp only [AVal.ix] at h; simp [AVal.ren, rens_low ht cs h]
theorem rens_low {m : Nat} {τ : Nat → Nat} (ht : ∀ k, k < m → τ k = k) : ∀ l : List AVal, ixs m l = true → rens τ l = l
  | [], _ => rfl
  | v :: r, h => by simp only [ixs, Bool.and_eq_true] at h; simp [rens, ren_low ht v h.1, rens_low ht r h.2]
end
/-- An object that names the first m places alone. -/
def AObj.low (R : Adts A) (m : Nat) (o : AObj A) : Prop := o.ix R m ∧ ∀ τ : Nat → Nat, (∀ k, k < m → τ k = k) → o.ren R τ = o
theorem low_cells {m : Nat} {e : TypeId} {cs : List AVal} (h : ixs m cs = true) : AObj.low R m (.cells e cs : AObj A) := ⟨h, fun τ ht => by simp [AObj.ren, rens_low ht cs h]⟩
theorem low_dead {m : Nat} : AObj.low R m (.dead : AObj A) := ⟨trivial, fun _ _ => rfl⟩
theorem low_map {m : Nat} {es : List AEnt} {ck : Nat} (h : ∀ e ∈ es, e.key.ix m = true ∧ e.val.ix m = true) : AObj.low R m (.map es ck : AObj A) := ⟨h, fun τ ht => by
  have : es.map (AEnt.ren τ) = es := by
    conv => rhs; rw [← List.map_id es]
    refine List.map_congr_left fun e he => ?_
    obtain ⟨h1, h2⟩ := h e he
    simp [AEnt.ren, ren_low ht _ h1, ren_low ht _ h2]
  simp [AObj.ren, this]⟩
/-- The first m objects alone are kept. -/
theorem Gives.cut (hR : R.Ok) {n m : Nat} {h : AHeap A} {vs : List AVal} {K : List AVal → AHeap A → Prop} (hn : n ≤ m) (hm : m ≤ h.length) (hx : ixs m vs = true) (ho : ∀ o ∈ h.take m, o.low R m) (hk : K vs (h.take m)) : Gives P R n h vs K := by
  have hl : (h.take m).length = m := by simp [Nat.min_eq_left hm]
  have hat : ∀ k, k < m → at_ (List.range m) h.length k = k := fun k hk => at_get (by simp [hk])
  refine Gives.keep hR (List.range m) (h2 := h.take m) (vs2 := vs) ⟨by simp [Nat.min_eq_left hm], List.nodup_range, fun k o hk => ?_, fun o ho' => ?_⟩ ?_ (by rw [hl]; exact hx) (fun k hk => by rw [List.getElem?_range (by omega)]) (Gives.done (by omega) hk)
  · have hkm : k < m := by
      have := (List.getElem?_eq_some_iff.1 hk).1
      rw [hl] at this; exact this
    refine ⟨k, by simp [hkm], ?_⟩
    rw [(ho o (List.mem_of_getElem? hk)).2 _ hat]
    rw [List.getElem?_take] at hk
    simpa [hkm] using hk
  · rw [hl]; exact (ho o ho').1
  · rw [rens_low hat vs hx]
/-- A loop, by an invariant with a measure. -/
theorem loopP_go {B : List AVal → AHeap A → (List AVal → AHeap A → Prop) → Prop} {x : List AVal} {h : AHeap A} (I : Nat → List AVal → AHeap A → Prop) (n : Nat) (h1 : Gives P R h.length h x (I n))
    (h2 : ∀ m y g, I m y g → B y g (fun y' g' => Gives P R h.length g' y' fun z k => ∃ m', m' < m ∧ I m' z k)) : loopP (Gives P R) B x h :=
  ⟨I, n, h1, fun m y g hi => ⟨_, h2 m y g hi, fun _ _ hj => hj⟩⟩
/-- A loop that is run round by round. -/
def unr (P : Program) (R : Adts A) (n : Nat) (B : List AVal → AHeap A → (List AVal → AHeap A → Prop) → Prop) : Nat → List AVal → AHeap A → Prop
  | 0, _, _ => False
  | m + 1, x, h => B x h fun y g => Gives P R n g y (unr P R n B m)
theorem loopP_unr (m : Nat) {B : List AVal → AHeap A → (List AVal → AHeap A → Prop) → Prop} {x : List AVal} {h : AHeap A} (hu : unr P R h.length B m x h) : loopP (Gives P R) B x h :=
  ⟨fun k y g => unr P R h.length B k y g, m, Gives.done (Nat.le_refl _) hu, fun k y g hk => match k, hk with
    | 0, hk => hk.elim
    | k + 1, hk => ⟨_, hk, fun _ _ hj => hj.mono fun _ _ _ hh => ⟨k, by omega, hh⟩⟩⟩
/-- A slice of whole numbers that is handed over. -/
def IsInts (a : AVal) (l : List Int) : Prop := (a = .nils ∧ l = []) ∨ ∃ b o cap, a = .lst b o l.length cap (l.map (.int .i64))
theorem IsInts.len {a : AVal} {l : List Int} (h : IsInts a l) (K : AVal → Prop) : lenP a K = K (.int .i64 l.length) := by
  rcases h with ⟨rfl, rfl⟩ | ⟨b, o, cap, rfl⟩ <;> simp
theorem IsInts.get {a : AVal} {l : List Int} (h : IsInts a l) {n : Int} (h0 : 0 ≤ n) (h1 : n < l.length) : ∃ b o cs, ∀ K, idxP 1 a (.int .i64 n) K = K (.fp b o (.int .i64 (l.getD n.toNat 0) :: cs)) := by
  rcases h with ⟨rfl, rfl⟩ | ⟨b, o, cap, rfl⟩
  · simp at h1; omega
  · refine ⟨b, o + n.toNat * 1, (l.map (.int .i64)).drop (n.toNat + 1), fun K => ?_⟩
    have h2 : n.toNat < l.length := by omega
    rw [idxP_l K 1 b o l.length cap _ .i64 n h0 h1, Nat.mul_one, List.drop_eq_getElem_cons (by simpa using h2)]
    simp [List.getD_eq_getElem?_getD, h2]
/-- A call that makes what it names. -/
theorem Tri.make (hR : R.Ok) {f : FuncId} {us : List AVal} (hx : ixs 0 us = true) {v0 : AVal} {h0 : AHeap A} (t : Tri P R f us [] fun v h => v = v0 ∧ h = h0) {h : AHeap A} {K : AVal → AHeap A → Prop}
    (hk : K (v0.ren (h.length + ·)) (h ++ h0.map (AObj.ren R (h.length + ·)))) : Tri P R f us h K := by
  have := Tri.frame hR (Sel.nil (R := R) h) (as2 := us) hx t
  rw [rens_ix0 _ _ hx] at this
  refine this.mono ?_
  rintro v H ⟨v1, h1, ⟨rfl, rfl⟩, _, rfl, rfl⟩
  have h2 : at_ [] h.length = (h.length + ·) := by funext k; simp [at_]
  rw [h2]
  simpa [splice, setAll, h2] using hk
/-- One cell is written. -/
theorem setO_one (h : AHeap A) (b o : Nat) (v : AVal) (e : TypeId) (cs : List AVal) (hv : v.scalar = true) (ho : o < cs.length) : setO h b o [v] (.cells e cs) = some (h.set b (.cells e (cs.set o v))) := by
  rw [setO_cells _ _ _ _ _ _ ⟨by simp; omega, by simp [hv]⟩]
  have h2 : over cs o [v] = cs.set o v := by rw [List.set_eq_take_append_cons_drop]; simp [over, ho]
  rw [h2]
mutual
theorem ren_agree {m : Nat} {τ τ' : Nat → Nat} (ht : ∀ k, k < m → τ k = τ' k) : ∀ v : AVal, v.ix m = true → v.ren τ = v.ren τ'
  | .any, _ | .bool _, _ | .int _ _, _ | .str _, _ | .nilp, _ | .nils, _ | .odd _, _ | .raw _, _ | .nilm, _ | .nilf, _ | .nili, _ | .lst _ _ _ _ _, _ | .fp _ _ _, _ => by simp [AVal.ren]
  | .ptr b o, h | .sl b o _ _ _, h | .empt b o _, h | .map b, h => by simp [AVal.ix] at h; simp [AVal.ren, ht b h]
  | .fn f a c, h => by simp only [AVal.ix, Bool.and_eq_true] at h; simp [AVal.ren, rens_agree ht a h.1, rens_agree ht c h.2]
  | .iface t v, h => by simp only [AVal.ix] at h; simp [AVal.ren, ren_agree ht v h]
  | .agg cs, h => by simp only [AVal.ix] at h; simp [AVal.ren, rens_agree ht cs h]
  | .tup cs, h => by simp only [AVal.ix] at h; simp [AVal.ren, rens_agree ht cs h]
theorem rens_agree {m : Nat} {τ τ' : Nat → Nat} (ht : ∀ k, k < m → τ k = τ' k) : ∀ l : List AVal, ixs m l = true → rens τ l = rens τ' l
  | [], _ => rfl
  | v :: r, h => by simp only [ixs, Bool.and_eq_true] at h; simp [rens, ren_agree ht v h.1, rens_agree ht r h.2]
end
mutual
theorem ix_mono {m n : Nat} (hmn : m ≤ n) : ∀ v : AVal, v.ix m = true → v.ix n = true
  | .any, _ | .bool _, _ | .int _ _, _ | .str _, _ | .nilp, _ | .nils, _ | .odd _, _ | .raw _, _ | .nilm, _ | .nilf, _ | .nili, _ | .lst _ _ _ _ _, _ | .fp _ _ _, _ => by simp [AVal.ix]
  | .ptr b o, h | .sl b o _ _ _, h | .empt b o _, h | .map b, h => by simp [AVal.ix] at h ⊢; omega
  | .fn f a c, h => by simp only [AVal.ix, Bool.and_eq_true] at h ⊢; exact ⟨ixs_mono hmn a h.1, ixs_mono hmn c h.2⟩
  | .iface t v, h => by simp only [AVal.ix] at h ⊢; exact ix_mono hmn v h
  | .agg cs, h => by simp only [AVal.ix] at h ⊢; exact ixs_mono hmn cs h
  | .tup cs, h => by simp only [AVal.ix] at h ⊢; exact ixs_mono hmn cs h
theorem ixs_mono {m n : Nat} (hmn : m ≤ n) : ∀ l : List AVal, ixs m l = true → ixs n l = true
  | [], _ => rfl
  | v :: r, h => by simp only [ixs, Bool.and_eq_true] at h ⊢; exact ⟨ix_mono hmn v h.1, ixs_mono hmn r h.2⟩
end
theorem AObj.ix_mono {m n : Nat} (hmn : m ≤ n) {o : AObj A} (h : o.ix R m) : o.ix R n := by
  cases o with
  | dead => trivial
  | cells e cs => exact ixs_mono hmn cs h
  | map es ck => exact fun e he => ⟨AI.ix_mono hmn _ (h e he).1, AI.ix_mono hmn _ (h e he).2⟩
  | adt a =>
    intro g hg
    obtain ⟨h1, h2⟩ := h g hg
    refine ⟨fun v hv => AI.ix_mono hmn v (h1 v hv), fun s hs => ?_⟩
    have := h2 s hs
    cases s with
    | dead => trivial
    | cells e cs => exact ixs_mono hmn cs this
    | map es ck => exact fun e he => ⟨AI.ix_mono hmn _ (this e he).1, AI.ix_mono hmn _ (this e he).2⟩
    | adt a => trivial
/-- The last object moves to the place behind the first ones. -/
theorem Gives.pick (hR : R.Ok) {n : Nat} (base mid : AHeap A) (o : AObj A) (vs vs2 : List AVal) {h : AHeap A} {K : List AVal → AHeap A → Prop} (he : h = base ++ (mid ++ [o])) (hn : n ≤ base.length) (hb : ∀ o ∈ base, o.low R base.length)
    (ho : o.ix R (base.length + 1) ∧ ∀ τ, o.ren R τ = o) (hv : vs = rens (fun k => if k = base.length then base.length + mid.length else k) vs2) (hx : ixs (base.length + 1) vs2 = true) (hk : K vs2 (base ++ [o])) : Gives P R n h vs K := by
  subst he
  have hl : (base ++ (mid ++ [o])).length = base.length + mid.length + 1 := by simp; omega
  have hat : ∀ k, k < base.length → at_ (List.range base.length ++ [base.length + mid.length]) (base ++ (mid ++ [o])).length k = k := fun k hk => at_get (by rw [List.getElem?_append_left (by simpa using hk)]; simp [hk])
  have hat2 : at_ (List.range base.length ++ [base.length + mid.length]) (base ++ (mid ++ [o])).length base.length = base.length + mid.length := at_get (by rw [List.getElem?_append_right (by simp)]; simp)
  refine Gives.keep hR (List.range base.length ++ [base.length + mid.length]) (h2 := base ++ [o]) (vs2 := vs2) ⟨by simp, ?_, fun k o' hk => ?_, fun o' ho' => ?_⟩ ?_ (by simpa using hx) (fun k hk => by rw [List.getElem?_append_left (by simp; omega), List.getElem?_range (by omega)]) (Gives.done (by simp; omega) hk)
  · rw [List.nodup_append]
    refine ⟨List.nodup_range, by simp, fun a ha b hb => ?_⟩
    simp at ha hb; omega
  · by_cases hkb : k < base.length
    · rw [List.getElem?_append_left hkb] at hk
      refine ⟨k, by rw [List.getElem?_append_left (by simpa using hkb)]; simp [hkb], ?_⟩
      rw [(hb o' (List.mem_of_getElem? hk)).2 _ hat, List.getElem?_append_left hkb, hk]
    · have hk2 : k < base.length + 1 := by have := (List.getElem?_eq_some_iff.1 hk).1; simpa using this
      obtain rfl : k = base.length := by omega
      simp at hk; subst hk
      refine ⟨base.length + mid.length, by simp, ?_⟩
      rw [ho.2, List.getElem?_append_right (by omega), List.getElem?_append_right (by omega)]
      simp
  · rcases List.mem_append.1 ho' with h1 | h1
    · have h2 := hb o' h1
      refine AObj.ix_mono (R := R) ?_ h2.1
      simp
    · simp at h1; subst h1; simpa using ho.1
  · rw [hv]
    refine rens_agree (m := base.length + 1) (fun k hk => ?_) vs2 hx
    by_cases hkb : k = base.length
    · subst hkb; rw [hat2, if_pos rfl]
    · rw [hat k (by omega), if_neg hkb]
end Go.AI

/- Objects without pointers are picked out of a heap. -/
set_option linter.all false
namespace Go.AI
variable {A : Type} {R : Adts A} {P : Program}
def AObj.closed (R : Adts A) (o : AObj A) : Prop := (∀ m, o.ix R m) ∧ ∀ τ, o.ren R τ = o
theorem closed_cells {t : TypeId} {cs : List AVal} (h : ixs 0 cs = true) : AObj.closed R (.cells t cs : AObj A) :=
  ⟨fun m => ixs_mono (Nat.zero_le m) cs h, fun τ => by simp only [AObj.ren]; rw [rens_ix0 τ _ h]⟩
/-- The heap goes on with the objects that are named, in their order. -/
theorem Gives.selc (hR : R.Ok) {n : Nat} (js : List Nat) (os : AHeap A) (vs2 : List AVal) {vs : List AVal} {h : AHeap A} {K : List AVal → AHeap A → Prop} (hjs : js.Nodup) (hl : js.length = os.length) (hn : ∀ k, k < n → js[k]? = some k)
    (ho : ∀ k j : Nat, js[k]? = some j → h[j]? = os[k]?) (hc : ∀ o ∈ os, o.closed R) (hv : vs = rens (at_ js h.length) vs2) (hx : ixs os.length vs2 = true) (hno : n ≤ os.length) (hk : K vs2 os) : Gives P R n h vs K := by
  refine Gives.keep hR js (h2 := os) (vs2 := vs2) ⟨hl, hjs, fun k o' hk => ?_, fun o' ho' => (hc o' ho').1 _⟩ hv hx hn (Gives.done hno hk)
  have hk2 := (List.getElem?_eq_some_iff.1 hk).1
  refine ⟨js[k]'(by omega), List.getElem?_eq_getElem (by omega), ?_⟩
  rw [(hc o' (List.mem_of_getElem? hk)).2, ho k _ (List.getElem?_eq_getElem (by omega)), hk]
end Go.AI

/- Numbers as bytes. -/
set_option linter.all false
namespace Go.AI
variable {A : Type} {R : Adts A}
abbrev Bs0 := List UInt8
/-- May it be a number? -/
def nMay (x : Int) : Bool := decide (0 ≤ x ∧ x ≤ 1073741823)
theorem field_NumMay_ok (x : Int) {h : AHeap A} {K : AVal → AHeap A → Prop} (hk : K (.bool (nMay x)) h) : Tri Pr R n_field_NumMay [.int .i64 x] h K := by
  apply c_field_NumMay
  unfold p_field_NumMay
  simp
  refine iteP_of (fun h1 => ?_) (fun h1 => ?_)
  · simp at h1
    rwa [show nMay x = decide (x ≤ 1073741823) by simp [nMay, h1]] at hk
  · simp at h1
    rwa [show nMay x = false by simp [nMay]; omega] at hk
/-- How many bytes follow? -/
def nW (x : Int) : Int := if x < 1 then 0 else if x < 256 then 1 else if x < 65536 then 2 else if x < 16777216 then 3 else 4
/-- The bytes of a number. -/
def bb (x : Int) : UInt8 := UInt8.ofNat (x % 256).toNat
def nE (x : Int) : Bs0 :=
  if x < 1 then [0] else if x < 256 then [1, bb x] else if x < 65536 then [2, bb (x / 256), bb x] else if x < 16777216 then [3, bb (x / 65536), bb (x / 256), bb x] else [4, bb (x / 16777216), bb (x / 65536), bb (x / 256), bb x]
theorem shr24 (x : Int) : x.fdiv (2 ^ min 24 IntKind.i64.bits) = x / 16777216 := Int.fdiv_eq_ediv_of_nonneg _ (by decide)
theorem shr16 (x : Int) : x.fdiv (2 ^ min 16 IntKind.i64.bits) = x / 65536 := Int.fdiv_eq_ediv_of_nonneg _ (by decide)
theorem shr8 (x : Int) : x.fdiv (2 ^ min 8 IntKind.i64.bits) = x / 256 := Int.fdiv_eq_ediv_of_nonneg _ (by decide)
theorem shr0 (x : Int) : x.fdiv (2 ^ min 0 IntKind.i64.bits) = x := by simp
theorem iteP_both {c : Bool} {a : Prop} (h : a) : iteP (.bool c) a a := iteP_of (fun _ => h) (fun _ => h)
theorem bb_zero (z : Int) : (z % 256 = 0) ↔ (IntKind.u8.wrap z = 0) := by rw [w8m]
end Go.AI

/- Numbers, one behind the other. -/
set_option linter.all false
namespace Go.AI
variable {A : Type} {R : Adts A}
def nS (x : Int) : Bs0 := if nMay x = true then nE x else []
theorem nE_len (x : Int) : (nE x).length ≤ 5 ∧ nE x ≠ [] := by
  unfold nE; split
  · simp
  · split
    · simp
    · split
      · simp
      · split <;> simp
theorem nS_len (x : Int) : (nS x).length ≤ 5 := by
  unfold nS; split
  · exact (nE_len x).1
  · simp
def nAll (l : List Int) : Bs0 := l.flatMap nS
theorem nAll_len : ∀ l : List Int, (nAll l).length ≤ 5 * l.length
  | [] => by simp [nAll]
  | x :: l => by have := nAll_len l; have := nS_len x; simp only [nAll, List.flatMap_cons, List.length_append, List.length_cons] at *; omega
end Go.AI

/- Numbers out of bytes, plainly. -/
set_option linter.all false
namespace Go.AI
def bAcc (l : Bs0) : Nat := l.foldl (fun x b => x * 256 + b.toNat) 0
theorem bAcc_snoc (l : Bs0) (b : UInt8) : bAcc (l ++ [b]) = bAcc l * 256 + b.toNat := by simp [bAcc, List.foldl_append]
theorem bAcc_lt : ∀ l : Bs0, bAcc l < 256 ^ l.length := by
  intro l
  have key : ∀ (l : Bs0) (a : Nat), l.foldl (fun x b => x * 256 + b.toNat) a < (a + 1) * 256 ^ l.length := by
    intro l
    induction l with
    | nil => intro a; simp
    | cons b r ih =>
      intro a
      have h1 := ih (a * 256 + b.toNat)
      have h2 : b.toNat < 256 := UInt8.toNat_lt b
      have h3 : (a * 256 + b.toNat + 1) * 256 ^ r.length ≤ (a * 256 + 256) * 256 ^ r.length := Nat.mul_le_mul_right _ (by omega)
      simp only [List.foldl_cons, List.length_cons, Nat.pow_succ]
      calc _ < _ := h1
        _ ≤ _ := h3
        _ = _ := by rw [show a * 256 + 256 = (a + 1) * 256 by omega, Nat.mul_assoc, Nat.mul_comm 256]
  have := key l 0
  simpa [bAcc] using this
/-- A number that stands at a place: it, where it ends, the error. -/
def gNum (s : Bs0) (at_ : Int) : Int × Int × Int :=
  if at_ < 0 ∨ (s.length : Int) < at_ then (0, 0, 100)
  else if at_ = s.length then (0, 0, 101)
  else
    let n := (s.getD at_.toNat 0).toNat
    if 4 < n then (0, 0, 100)
    else if s.length < at_.toNat + 1 + n then (0, 0, 101)
    else
      let x := bAcc ((s.drop (at_.toNat + 1)).take n)
      if nW x ≠ n ∨ 1073741823 < x then (0, 0, 100) else (x, at_ + 1 + n, 0)
theorem nW_head {l : Bs0} (h : l.length ≤ 4) : nW (bAcc l) = l.length ↔ ¬ (0 < l.length ∧ l.getD 0 0 = 0) := by
  have z : ∀ b : UInt8, b = 0 ↔ b.toNat = 0 := fun b => ⟨fun h => by rw [h]; rfl, fun h => UInt8.toNat_inj.1 (by rw [h]; rfl)⟩
  have lt : ∀ b : UInt8, b.toNat < 256 := fun b => UInt8.toNat_lt b
  match l, h with
  | [], _ => simp [bAcc, nW]
  | [a], _ => have := lt a; simp [bAcc, nW, z]; split <;> (try split) <;> omega
  | [a, b], _ => have := lt a; have := lt b; simp [bAcc, nW, z]; split <;> (try split) <;> (try split) <;> omega
  | [a, b, c], _ => have := lt a; have := lt b; have := lt c; simp [bAcc, nW, z]; split <;> (try split) <;> (try split) <;> (try split) <;> omega
  | [a, b, c, d], _ => have := lt a; have := lt b; have := lt c; have := lt d; simp [bAcc, nW, z]; split <;> (try split) <;> (try split) <;> (try split) <;> omega
  | _ :: _ :: _ :: _ :: _ :: _, h => simp at h
theorem bb_toNat (x : Int) : ((bb x).toNat : Int) = x % 256 := by
  unfold bb
  rw [UInt8.toNat_ofNat']
  omega
theorem bb_of {x : Int} {b : UInt8} (h : x % 256 = b.toNat) : bb x = b := by
  apply UInt8.toNat_inj.1
  have := bb_toNat x
  omega
/-- What was read stands there as it is written. -/
theorem gNum_enc {s : Bs0} {at_ x to : Int} (h : gNum s at_ = (x, to, 0)) : nMay x = true ∧ 0 ≤ at_ ∧ at_ < to ∧ to ≤ s.length ∧ (s.drop at_.toNat).take (to - at_).toNat = nE x := by
  unfold gNum at h
  split at h
  · simp at h
  rename_i h1
  split at h
  · simp at h
  rename_i h2
  have hlt : at_.toNat < s.length := by omega
  have hg : s.getD at_.toNat 0 = s[at_.toNat] := by simp [List.getD_eq_getElem?_getD, hlt]
  simp only [hg] at h
  split at h
  · simp at h
  rename_i h3
  split at h
  · simp at h
  rename_i h4
  split at h
  · simp at h
  rename_i h5
  obtain ⟨n, hn⟩ : ∃ n, (s[at_.toNat]).toNat = n := ⟨_, rfl⟩
  rw [hn] at h h3 h4 h5
  obtain ⟨l, hl⟩ : ∃ l, (s.drop (at_.toNat + 1)).take n = l := ⟨_, rfl⟩
  rw [hl] at h h5
  have hll : l.length = n := by rw [← hl]; simp; omega
  simp at h
  obtain ⟨rfl, rfl, -⟩ := h
  have hx : nMay (bAcc l : Int) = true := by simp [nMay]; omega
  refine ⟨hx, by omega, by omega, by omega, ?_⟩
  have hd : (s.drop at_.toNat).take (at_ + 1 + n - at_).toNat = s[at_.toNat] :: l := by
    rw [show (at_ + 1 + n - at_).toNat = n + 1 by omega, List.drop_eq_getElem_cons hlt, List.take_succ_cons, hl]
  rw [hd]
  have h6 : nW (bAcc l) = n := by
    have : ¬ (nW ↑(bAcc l) ≠ ↑n) := fun h => h5 (.inl h)
    simpa using this
  have lt : ∀ b : UInt8, b.toNat < 256 := fun b => UInt8.toNat_lt b
  have hb : s[at_.toNat] = UInt8.ofNat n := by rw [← hn]; simp
  rw [hb]
  clear hb hd hl hn h1 h2 hlt hg h4 h5 hx
  match l, hll with
  | [], hll =>
    simp at hll; subst hll; rfl
  | [a], hll =>
    have := lt a
    simp at hll; subst hll
    simp [bAcc, nW] at h6 ⊢
    unfold nE
    have : ¬ (a.toNat : Int) < 1 := by
      intro h; rw [if_pos h] at h6; omega
    rw [if_neg this, if_pos (by omega), bb_of (x := (a.toNat : Int)) (b := a) (by omega)]
  | [a, b], hll =>
    have := lt a; have := lt b
    simp at hll; subst hll
    simp [bAcc, nW] at h6 ⊢
    unfold nE
    have : ¬ ((a.toNat : Int) * 256 + b.toNat) < 256 := by
      intro h; split at h6
      · omega
      · first | omega | (rw [if_pos h] at h6; omega)
    rw [if_neg (by omega), if_neg this, if_pos (by omega), bb_of (b := a) (by omega), bb_of (b := b) (by omega)]
  | [a, b, c], hll =>
    have := lt a; have := lt b; have := lt c
    simp at hll; subst hll
    simp [bAcc, nW] at h6 ⊢
    unfold nE
    have : ¬ (((a.toNat : Int) * 256 + b.toNat) * 256 + c.toNat) < 65536 := by
      intro h; split at h6
      · omega
      · split at h6
        · omega
        · first | omega | (rw [if_pos h] at h6; omega)
    rw [if_neg (by omega), if_neg (by omega), if_neg this, if_pos (by omega), bb_of (b := a) (by omega), bb_of (b := b) (by omega), bb_of (b := c) (by omega)]
  | [a, b, c, d], hll =>
    have := lt a; have := lt b; have := lt c; have := lt d
    simp at hll; subst hll
    simp [bAcc, nW] at h6 ⊢
    unfold nE
    have : ¬ ((((a.toNat : Int) * 256 + b.toNat) * 256 + c.toNat) * 256 + d.toNat) < 16777216 := by
      intro h; split at h6
      · omega
      · split at h6
        · omega
        · split at h6
          · omega
          · first | omega | (rw [if_pos h] at h6; omega)
    rw [if_neg (by omega), if_neg (by omega), if_neg (by omega), if_neg this, bb_of (b := a) (by omega), bb_of (b := b) (by omega), bb_of (b := c) (by omega), bb_of (b := d) (by omega)]
  | _ :: _ :: _ :: _ :: _ :: _, hll => simp at hll; omega
theorem gNum_at {n : UInt8} {l : Bs0} (p r : Bs0) (h1 : l.length = n.toNat) (h2 : n.toNat ≤ 4) (h3 : nW (bAcc l) = n.toNat) (h4 : bAcc l ≤ 1073741823) :
    gNum (p ++ (n :: (l ++ r))) (p.length : Int) = ((bAcc l : Int), (p.length : Int) + 1 + n.toNat, (0 : Int)) := by
  unfold gNum
  rw [if_neg (by simp; omega), if_neg (by simp; omega)]
  have e1 : (p ++ (n :: (l ++ r))).getD (p.length : Int).toNat 0 = n := by simp [List.getD_eq_getElem?_getD]
  simp only [e1]
  rw [if_neg (by omega), if_neg (by simp; omega)]
  have e2 : ((p ++ (n :: (l ++ r))).drop ((p.length : Int).toNat + 1)).take n.toNat = l := by
    rw [Int.toNat_natCast, List.drop_append, ← h1]
    simp [List.drop_eq_nil_of_le (show p.length ≤ p.length + 1 by omega)]
  rw [e2, if_neg]
  rintro (h | h)
  · exact h h3
  · omega
/-- What is written is read. -/
theorem gNum_dec {x : Int} (hx : nMay x = true) (p r : Bs0) : gNum (p ++ (nE x ++ r)) (p.length : Int) = (x, (p.length : Int) + (nE x).length, 0) := by
  have hm : 0 ≤ x ∧ x ≤ 1073741823 := by simpa [nMay] using hx
  have t1 := bb_toNat x
  have t2 := bb_toNat (x / 256)
  have t3 := bb_toNat (x / 65536)
  have t4 := bb_toNat (x / 16777216)
  unfold nE
  by_cases c0 : x < 1
  · rw [if_pos c0]
    have := gNum_at (n := 0) (l := []) p r rfl (by decide) rfl (by decide)
    simp at this ⊢
    rw [this]
    simp [bAcc]; omega
  rw [if_neg c0]
  by_cases c1 : x < 256
  · rw [if_pos c1]
    have e : (bAcc [bb x] : Int) = x := by simp [bAcc]; omega
    have := gNum_at (n := 1) (l := [bb x]) p r rfl (by decide) (by rw [e]; unfold nW; rw [if_neg c0, if_pos c1]; rfl) (by omega)
    simp at this ⊢
    rw [this, e]
    simp; omega
  rw [if_neg c1]
  by_cases c2 : x < 65536
  · rw [if_pos c2]
    have e : (bAcc [bb (x / 256), bb x] : Int) = x := by simp [bAcc]; omega
    have := gNum_at (n := 2) (l := [bb (x / 256), bb x]) p r rfl (by decide) (by rw [e]; unfold nW; rw [if_neg c0, if_neg c1, if_pos c2]; rfl) (by omega)
    simp at this ⊢
    rw [this, e]
    simp; omega
  rw [if_neg c2]
  by_cases c3 : x < 16777216
  · rw [if_pos c3]
    have e : (bAcc [bb (x / 65536), bb (x / 256), bb x] : Int) = x := by simp [bAcc]; omega
    have := gNum_at (n := 3) (l := [bb (x / 65536), bb (x / 256), bb x]) p r rfl (by decide) (by rw [e]; unfold nW; rw [if_neg c0, if_neg c1, if_neg c2, if_pos c3]; rfl) (by omega)
    simp at this ⊢
    rw [this, e]
    simp; omega
  rw [if_neg c3]
  have e : (bAcc [bb (x / 16777216), bb (x / 65536), bb (x / 256), bb x] : Int) = x := by simp [bAcc]; omega
  have := gNum_at (n := 4) (l := [bb (x / 16777216), bb (x / 65536), bb (x / 256), bb x]) p r rfl (by decide) (by rw [e]; unfold nW; rw [if_neg c0, if_neg c1, if_neg c2, if_neg c3]; rfl) (by omega)
  simp at this ⊢
  rw [this, e]
  simp; omega
end Go.AI

/- A book: its lists as one object; what its methods do. -/
set_option linter.all false
namespace Go.AI
variable {A : Type} {R : Adts A}
abbrev Bs := List UInt8
/-- A term's place. -/
def bFind (ts : List Bs) (s : Bs) : Option Nat := ts.idxOf? s
/-- A term is named: the terms behind it, the name, the error. -/
def bName (most : Int) (ts : List Bs) (s : Bs) : List Bs × Int × Int :=
  if s = [] ∨ 512 < s.length then (ts, 0, 200)
  else match bFind ts s with
    | some i => (ts, i, 0)
    | none => if most ≤ ts.length then (ts, 0, 201) else (ts ++ [s], ts.length, 0)
def bEnts : List Bs → Nat → List AEnt
  | [], _ => []
  | s :: r, i => ⟨.str s, .int .i64 i, i⟩ :: bEnts r (i + 1)
theorem bEnts_length : ∀ (ts : List Bs) (i : Nat), (bEnts ts i).length = ts.length
  | [], _ => rfl
  | s :: r, i => by simp [bEnts, bEnts_length r]
theorem bEnts_append : ∀ (ts us : List Bs) (i : Nat), bEnts (ts ++ us) i = bEnts ts i ++ bEnts us (i + ts.length)
  | [], us, i => by simp [bEnts]
  | s :: r, us, i => by simp [bEnts, bEnts_append r]; congr 1; omega
theorem findK_bEnts (s : Bs) : ∀ (ts : List Bs) (i j : Nat), findK true (.str s) (bEnts ts i) j = some ((bFind ts s).map fun k => (j + k, .int .i64 ((i + k : Nat) : Int)))
  | [], i, j => by simp [bEnts, findK, bFind]
  | t :: r, i, j => by
    simp only [bEnts, findK]
    have ih := findK_bEnts s r (i + 1) (j + 1)
    by_cases h : s = t
    · subst h; simp [sameKey, bFind, List.idxOf?, List.findIdx?_cons]
    · have h2 : (t == s) = false := by simp [Ne.symm h]
      have h3 : (s == t) = false := by simp [h]
      have h4 : bFind (t :: r) s = (bFind r s).map (· + 1) := by simp [bFind, List.idxOf?, List.findIdx?_cons, h2]
      simp only [sameKey, h3, ih, h4, Option.map_map]
      congr 2
      funext k
      simp only [Function.comp]
      rw [show j + 1 + k = j + (k + 1) by omega, show i + 1 + k = i + (k + 1) by omega]
theorem born_bEnts : ∀ (ts : List Bs) (i k : Nat), k < ts.length → (bEnts ts i).findIdx? (fun e => (e.born : Int) == ((i + k : Nat) : Int)) = some k
  | [], i, k, h => by simp at h
  | t :: r, i, 0, h => by simp [bEnts, List.findIdx?_cons]
  | t :: r, i, k + 1, h => by
    have ih := born_bEnts r (i + 1) k (by simpa using h)
    have h1 : ((i : Int) == ((i + (k + 1) : Nat) : Int)) = false := by simp; omega
    rw [show i + 1 + k = i + (k + 1) by omega] at ih
    simp only [bEnts, List.findIdx?_cons, h1, ih]
    rfl
/-- What holds of a book. -/
structure bOk (m : Int) (ts : List Bs) : Prop where
  most : 1 ≤ m ∧ m ≤ 65536
  len : (ts.length : Int) ≤ m
  short : ∀ t ∈ ts, t ≠ [] ∧ t.length ≤ 512
  nd : ts.Nodup
theorem bName_ok {m : Int} {ts : List Bs} {s : Bs} (h : bOk m ts) : bOk m (bName m ts s).1 := by
  unfold bName
  split
  · exact h
  · rename_i h1
    split
    · exact h
    · rename_i h2
      split
      · exact h
      · rename_i h3
        refine ⟨h.most, by simp; omega, fun t ht => ?_, ?_⟩
        · rcases List.mem_append.1 ht with h4 | h4
          · exact h.short t h4
          · simp at h4; subst h4; exact ⟨fun h => h1 (.inl h), by omega⟩
        · rw [List.nodup_append]
          refine ⟨h.nd, by simp, fun a ha b hb he => ?_⟩
          simp at hb; subst hb; subst he
          simp [bFind] at h2
          exact h2 ha
section book
variable {mk : Int → List Bs → A}
theorem bEnts_born (ts : List Bs) : ∀ (i : Nat), ∀ e ∈ bEnts ts i, e.born < i + ts.length := by
  induction ts with
  | nil => intro i e he; cases he
  | cons t r ih =>
    intro i e he
    rcases List.mem_cons.1 he with rfl | he
    · simp
    · have := ih (i + 1) e he; simp; omega
theorem bEnts_nf (ts : List Bs) : (bEnts ts 0).findIdx? (fun e => (e.born : Int) == (ts.length : Int)) = none := by
  rw [List.findIdx?_eq_none_iff]
  intro e he
  have := bEnts_born ts 0 e he
  simp; omega
theorem bEnts_put (ts : List Bs) (z v : AVal) (s : Bs) : (bEnts ts 0 ++ [({ key := .str s, val := z, born := ts.length } : AEnt)]).modify ts.length (fun e => { key := e.key, val := v, born := e.born }) = bEnts ts 0 ++ [⟨.str s, v, ts.length⟩] := by
  apply List.ext_getElem?
  intro k
  rw [List.getElem?_modify]
  have hl := bEnts_length ts 0
  by_cases h1 : k < ts.length
  · rw [List.getElem?_append_left (by omega), List.getElem?_append_left (by omega)]
    simp [show ts.length ≠ k by omega]
  · by_cases h2 : k = ts.length
    · subst h2
      rw [List.getElem?_append_right (by omega), List.getElem?_append_right (by omega)]
      simp [hl]
    · rw [List.getElem?_eq_none (by simp; omega), List.getElem?_eq_none (by simp; omega)]
      rfl
theorem bEnts_snoc (ts : List Bs) (s : Bs) : bEnts (ts ++ [s]) 0 = bEnts ts 0 ++ [⟨.str s, .int .i64 ts.length, ts.length⟩] := by
  rw [bEnts_append]; simp [bEnts]
theorem take1_set (h : AHeap A) (o : AObj A) (hl : 0 < h.length) : (h.set 0 o).take 1 = [o] := by
  cases h with
  | nil => simp at hl
  | cons a r => simp
end book
end Go.AI

/- A book's other methods; the document's book. -/
set_option linter.all false
namespace Go.AI
variable {A : Type} {R : Adts A}
theorem set_same {h : AHeap A} {b : Nat} {o : AObj A} (hb : h[b]? = some o) : h.set b o = h := by
  obtain ⟨hlt, he⟩ := List.getElem?_eq_some_iff.1 hb
  rw [← he]; exact List.set_getElem_self hlt
section book
variable {mk : Int → List Bs → A}
/-- The term of a name. -/
def bTerm (ts : List Bs) (x : Int) : Bs × Int := if 0 ≤ x ∧ x < ts.length then (ts.getD x.toNat [], 0) else ([], 202)
end book
end Go.AI

/- The document's book. -/
set_option linter.all false
namespace Go.AI
variable {A : Type} {R : Adts A}
section rbook
variable {mk : Int → List Bs → A}
theorem bFind_take (ts : List Bs) (s : Bs) (i : Nat) (h : ∀ j : Nat, j < i → ts[j]? ≠ some s) (hi : ts[i]? = some s) : bFind ts s = some i := by
  obtain ⟨hlt, he⟩ := List.getElem?_eq_some_iff.1 hi
  simp only [bFind, List.idxOf?]
  rw [List.findIdx?_eq_some_iff_getElem]
  refine ⟨hlt, by simp [he], fun j hj => ?_⟩
  have := h j hj
  rw [List.getElem?_eq_getElem (by omega)] at this
  simpa using this
theorem bFind_none (ts : List Bs) (s : Bs) (h : ∀ j : Nat, ts[j]? ≠ some s) : bFind ts s = none := by
  simp only [bFind, List.idxOf?, List.findIdx?_eq_none_iff]
  intro x hx
  obtain ⟨j, hj⟩ := List.mem_iff_getElem?.1 hx
  simp only [beq_eq_false_iff_ne]
  rintro rfl; exact h j hj
end rbook
end Go.AI

/- The document's book names a term. -/
set_option linter.all false
namespace Go.AI
variable {A : Type} {R : Adts A}
section rbook
variable {mk : Int → List Bs → A}
end rbook
end Go.AI

/- Atoms; keys of epochs. -/
set_option linter.all false
namespace Go.AI
variable {A : Type} {R : Adts A}
/-- A term is made: the terms behind it, the name, the error. -/
def cMade (m : Int) (ts : List Bs) (s : Bs) : List Bs × Int × Int := if (bName m ts s).2.2 = 0 then bName m ts s else ((bName m ts s).1, 0, 300)
theorem cMade_ok {m : Int} {ts : List Bs} {s : Bs} (h : bOk m ts) : bOk m (cMade m ts s).1 := by
  unfold cMade; split <;> exact bName_ok h
section craft
variable {mk : Int → List Bs → A}
/-- What is within an epoch's key. -/
def eTerm (x : Int) : Bs := [101, 112, 111, 99, 104] ++ nS x
theorem eTerm_len (x : Int) : (eTerm x).length ≤ 10 := by have := nS_len x; simp [eTerm]; omega
def rKey (m : Int) (ts : List Bs) (x : Int) : List Bs × Int × Int :=
  if nMay x = true then (if (cMade m ts (65 :: eTerm x)).2.2 = 0 then cMade m ts (65 :: eTerm x) else ((cMade m ts (65 :: eTerm x)).1, 0, 1400)) else (ts, 0, 1400)
theorem rKey_ok {m : Int} {ts : List Bs} {x : Int} (h : bOk m ts) : bOk m (rKey m ts x).1 := by
  unfold rKey; split
  · split <;> exact cMade_ok h
  · exact h
end craft
section ref
variable {mk : Int → List Bs → A}
end ref
def rLive (e now keep : Int) : Bool := nMay e && nMay now && nMay keep && decide (e ≤ now) && decide (now - e ≤ keep)
end Go.AI

/- The statements over keys of epochs. -/
set_option linter.all false
namespace Go.AI
variable {A : Type} {R : Adts A}
theorem num14_ok {v : AVal} {h : AHeap A} {K : AVal → AHeap A → Prop} (hk : K v h) : Tri Pr R n_law0_Num [v] h K := by
  apply c_law0_Num
  unfold p_law0_Num
  exact hk
theorem bOk_nil {m : Int} (h : 1 ≤ m ∧ m ≤ 65536) : bOk m [] := ⟨h, by simp; omega, by simp, by simp⟩
section
variable {bk rbk : Int → List Bs → A}
theorem rKey_at {m : Int} {ts : List Bs} {x : Int} {r : List Bs} {n e : Int} (hok : bOk m ts) (hw : rKey m ts x = (r, n, e)) : bOk m r := by
  have := rKey_ok (x := x) hok
  rwa [hw] at this
end
end Go.AI

/- RingForms. -/
set_option linter.all false
namespace Go.AI
variable {A : Type} {R : Adts A}
theorem bb_eq (x y : Int) : bb x = bb y ↔ x % 256 = y % 256 := by
  constructor
  · intro h
    have h2 := congrArg UInt8.toNat h
    simp only [bb, UInt8.toNat_ofNat'] at h2
    omega
  · intro h; unfold bb; rw [h]
theorem nE_inj {x y : Int} (hx : nMay x = true) (hy : nMay y = true) (h : nE x = nE y) : x = y := by
  have h1 : 0 ≤ x ∧ x ≤ 1073741823 := by simpa [nMay] using hx
  have h2 : 0 ≤ y ∧ y ≤ 1073741823 := by simpa [nMay] using hy
  unfold nE at h
  repeat' split at h
  all_goals first | omega | (exfalso; simp at h; done) | (simp [bb_eq] at h; omega)
theorem eTerm_inj {x y : Int} (hx : nMay x = true) (hy : nMay y = true) (h : eTerm x = eTerm y) : x = y := by
  refine nE_inj hx hy ?_
  simpa [eTerm, nS, hx, hy] using h
theorem bName_new {m : Int} {ts : List Bs} {s : Bs} (h1 : s ≠ []) (h2 : s.length ≤ 512) (h3 : s ∉ ts) (h4 : (ts.length : Int) < m) : bName m ts s = (ts ++ [s], (ts.length : Int), 0) := by
  have hf : bFind ts s = none := by
    apply bFind_none
    intro j hj
    exact h3 (List.mem_of_getElem? hj)
  unfold bName
  rw [if_neg (by rintro (h | h); exact h1 h; omega), hf]
  simp; omega
theorem bName_old {m : Int} {ts : List Bs} {s : Bs} (h1 : s ≠ []) (h2 : s.length ≤ 512) {i : Nat} (h3 : bFind ts s = some i) : bName m ts s = (ts, (i : Int), 0) := by
  unfold bName
  rw [if_neg (by rintro (h | h); exact h1 h; omega), h3]
theorem rKey_new {m : Int} {ts : List Bs} {x : Int} (hx : nMay x = true) (h3 : (65 :: eTerm x) ∉ ts) (h4 : (ts.length : Int) < m) : rKey m ts x = (ts ++ [65 :: eTerm x], (ts.length : Int), 0) := by
  have := bName_new (m := m) (s := 65 :: eTerm x) (by simp) (by have := eTerm_len x; simp; omega) h3 h4
  simp [rKey, hx, cMade, this]
theorem rKey_old {m : Int} {ts : List Bs} {x : Int} (hx : nMay x = true) {i : Nat} (h3 : bFind ts (65 :: eTerm x) = some i) : rKey m ts x = (ts, (i : Int), 0) := by
  have := bName_old (m := m) (s := 65 :: eTerm x) (by simp) (by have := eTerm_len x; simp; omega) h3
  simp [rKey, hx, cMade, this]
theorem rKey_bad {m : Int} {ts : List Bs} {x : Int} (hx : nMay x = false) : rKey m ts x = (ts, 0, 1400) := by simp [rKey, hx]
section
variable {bk rbk : Int → List Bs → A}
end
end Go.AI

/- Events, plainly. -/
set_option linter.all false
namespace Go.AI
/-- An event. -/
structure Ev where
  kind : Int
  user : Int
  session : Int
  address : Int
  a : Int
  b : Int
  c : Int
  tick : Int
deriving DecidableEq
def Ev.row (e : Ev) : List AVal := [.int .i64 e.kind, .int .i64 e.user, .int .i64 e.session, .int .i64 e.address, .int .i64 e.a, .int .i64 e.b, .int .i64 e.c, .int .i64 e.tick]
def ev0 : Ev := ⟨0, 0, 0, 0, 0, 0, 0, 0⟩
/-- The parts that a kind names. -/
def evParts (e : Ev) : List Int :=
  if e.kind = 0 then [e.tick] else if e.kind = 1 then [e.user, e.a, e.b, e.c] else if e.kind = 2 then [e.user, e.tick] else if e.kind = 3 then [e.user, e.a] else if e.kind = 4 then [e.user]
  else if e.kind = 5 then [e.session, e.user, e.address, e.tick] else if e.kind = 6 then [e.session, e.a, e.b, e.tick] else if e.kind = 7 then [e.user] else if e.kind = 9 then [e.session] else []
/-- An event of these parts. -/
def evOf (k : Int) (l : List Int) : Ev :=
  let z := l.getD 0 0
  let y := l.getD 1 0
  let x := l.getD 2 0
  let w := l.getD 3 0
  if k = 0 then { ev0 with kind := k, tick := z } else if k = 1 then { ev0 with kind := k, user := z, a := y, b := x, c := w } else if k = 2 then { ev0 with kind := k, user := z, tick := y }
  else if k = 3 then { ev0 with kind := k, user := z, a := y } else if k = 4 then { ev0 with kind := k, user := z } else if k = 5 then { ev0 with kind := k, session := z, user := y, address := x, tick := w }
  else if k = 6 then { ev0 with kind := k, session := z, a := y, b := x, tick := w } else if k = 7 then { ev0 with kind := k, user := z } else if k = 9 then { ev0 with kind := k, session := z } else { ev0 with kind := k }
def evCount (k : Int) : Nat := if k = 0 ∨ k = 4 ∨ k = 7 ∨ k = 9 then 1 else if k = 2 ∨ k = 3 then 2 else if k = 1 ∨ k = 5 ∨ k = 6 then 4 else 0
def evPlain (e : Ev) : Ev := evOf e.kind (evParts e)
/-- May an event be? -/
def evMay (e : Ev) : Bool :=
  decide (0 ≤ e.kind ∧ e.kind ≤ 9) && !(decide (e.kind = 6) && decide (4 < e.b)) && (evParts e).all nMay && decide (e.user < 8) && decide (e.address < 16) && decide (e.tick ≤ 1048575) && decide (e.c ≤ 1048576) && decide (e = evPlain e)
def evPut (e : Ev) : Bs0 := nAll (e.kind :: evParts e)
/-- So many numbers, one behind the other. -/
def rNums (s : Bs0) : Nat → Int → Option (List Int × Int)
  | 0, t => some ([], t)
  | n + 1, t => if (gNum s t).2.2 = 0 then (rNums s n (gNum s t).2.1).map fun r => ((gNum s t).1 :: r.1, r.2) else none
def evGet (s : Bs0) : Option Ev :=
  match rNums s 1 0 with
  | some ([k], t) => match rNums s (evCount k) t with
    | some (l, u) => if u = s.length ∧ evMay (evOf k l) = true then some (evOf k l) else none
    | none => none
  | _ => none
theorem evParts_count {e : Ev} (h : 0 ≤ e.kind ∧ e.kind ≤ 9) : (evParts e).length = evCount e.kind := by
  obtain ⟨k, u, s, ad, a, b, c, t⟩ := e
  simp only at h
  have : k = 0 ∨ k = 1 ∨ k = 2 ∨ k = 3 ∨ k = 4 ∨ k = 5 ∨ k = 6 ∨ k = 7 ∨ k = 8 ∨ k = 9 := by omega
  rcases this with rfl | rfl | rfl | rfl | rfl | rfl | rfl | rfl | rfl | rfl <;> rfl
theorem evParts_of {k : Int} {l : List Int} (h : l.length = evCount k) : evParts (evOf k l) = l := by
  unfold evCount at h
  by_cases h0 : k = 0 ∨ k = 4 ∨ k = 7 ∨ k = 9
  · rw [if_pos h0] at h
    match l, h with
    | [z], _ => rcases h0 with rfl | rfl | rfl | rfl <;> rfl
  · rw [if_neg h0] at h
    by_cases h1 : k = 2 ∨ k = 3
    · rw [if_pos h1] at h
      match l, h with
      | [z, y], _ => rcases h1 with rfl | rfl <;> rfl
    · rw [if_neg h1] at h
      by_cases h2 : k = 1 ∨ k = 5 ∨ k = 6
      · rw [if_pos h2] at h
        match l, h with
        | [z, y, x, w], _ => rcases h2 with rfl | rfl | rfl <;> rfl
      · rw [if_neg h2] at h
        have := List.length_eq_zero_iff.1 h; subst this
        simp only [not_or] at h0 h1 h2
        simp [evOf, evParts, h0, h1, h2]
theorem nE_length_pos (x : Int) : 0 < (nE x).length := by have := (nE_len x).2; exact List.length_pos_iff.2 this
theorem nAll_cons (x : Int) (l : List Int) : nAll (x :: l) = nS x ++ nAll l := by simp [nAll]
/-- What is written is read. -/
theorem rNums_dec : ∀ (l : List Int) (p r : Bs0), (∀ x ∈ l, nMay x = true) → rNums (p ++ (nAll l ++ r)) l.length (p.length : Int) = some (l, (p.length : Int) + (nAll l).length)
  | [], p, r, _ => by simp [rNums, nAll]
  | x :: l, p, r, h => by
    have hx := h x (by simp)
    have es : nS x = nE x := by simp [nS, hx]
    have g := gNum_dec hx p (nAll l ++ r)
    have ih := rNums_dec l (p ++ nE x) r (fun y hy => h y (by simp [hy]))
    have e1 : p ++ (nAll (x :: l) ++ r) = p ++ (nE x ++ (nAll l ++ r)) := by rw [nAll_cons, es, List.append_assoc]
    rw [e1, List.length_cons, rNums, g]
    simp only [if_true]
    have e2 : p ++ (nE x ++ (nAll l ++ r)) = p ++ nE x ++ (nAll l ++ r) := by simp
    have e3 : (p.length : Int) + (nE x).length = ((p ++ nE x).length : Nat) := by simp
    rw [e2, e3, ih]
    simp [nAll_cons, es]
    omega
/-- What was read stands there as it is written. -/
theorem rNums_enc {s : Bs0} : ∀ {n : Nat} {t : Int} {l : List Int} {u : Int}, rNums s n t = some (l, u) → 0 ≤ t → l.length = n ∧ (∀ x ∈ l, nMay x = true) ∧ t ≤ u ∧ (s.drop t.toNat).take (u - t).toNat = nAll l ∧ (0 < n → u ≤ s.length)
  | 0, t, l, u, h, ht => by
    simp [rNums] at h
    obtain ⟨rfl, rfl⟩ := h
    simp [nAll]
  | n + 1, t, l, u, h, ht => by
    rw [rNums] at h
    split at h
    · rename_i h0
      obtain ⟨x, t1, e, hg⟩ : ∃ x t1 e, gNum s t = (x, t1, e) := ⟨_, _, _, rfl⟩
      rw [hg] at h h0
      simp only at h h0
      subst h0
      obtain ⟨hx, q1, q2, q3, q4⟩ := gNum_enc hg
      cases hr : rNums s n t1 with
      | none => rw [hr] at h; simp at h
      | some r =>
        obtain ⟨l', u'⟩ := r
        rw [hr] at h
        simp at h
        obtain ⟨rfl, rfl⟩ := h
        obtain ⟨a1, a2, a3, a4, a5⟩ := rNums_enc hr (by omega)
        refine ⟨by simp [a1], fun y hy => ?_, by omega, ?_, fun _ => ?_⟩
        · rcases List.mem_cons.1 hy with rfl | hy
          · exact hx
          · exact a2 y hy
        · have es : nS x = nE x := by simp [nS, hx]
          rw [nAll_cons, es, ← q4, ← a4]
          have e1 : (u' - t).toNat = (t1 - t).toNat + (u' - t1).toNat := by omega
          have e2 : s.drop t1.toNat = (s.drop t.toNat).drop (t1 - t).toNat := by rw [List.drop_drop]; congr 1; omega
          rw [e1, e2, List.take_add]
        · by_cases hn : 0 < n
          · exact a5 hn
          · have : n = 0 := by omega
            subst this
            simp [rNums] at hr
            omega
    · simp at h
end Go.AI

/- Crafts, plainly: hashes, tags, seals; codes by time. -/
set_option linter.all false
namespace Go.AI
/-- A term with a key ahead is made. -/
def cKey (m : Int) (ts : List Bs) (k : UInt8) (key : Int) (s : Bs) : List Bs × Int × Int := if nMay key = true then cMade m ts (k :: (nS key ++ s)) else (ts, 0, 300)
theorem cKey_ok {m : Int} {ts : List Bs} {k : UInt8} {key : Int} {s : Bs} (h : bOk m ts) : bOk m (cKey m ts k key s).1 := by
  unfold cKey; split
  · exact cMade_ok h
  · exact h
/-- Is a tag the name of a term? -/
def cIs (ts : List Bs) (s : Bs) (tag : Int) : Bool := (bFind ts s).isSome && (((bFind ts s).getD 0 : Nat) : Int) == tag
def cIsMac (ts : List Bs) (key : Int) (s : Bs) (tag : Int) : Bool := nMay key && cIs ts (77 :: (nS key ++ s)) tag
/-- What is within a seal of a key. -/
def cOpen (ts : List Bs) (key tag : Int) : Bs × Int :=
  if nMay key = true ∧ (bTerm ts tag).2 = 0 ∧ (83 :: nS key).length ≤ (bTerm ts tag).1.length ∧ (bTerm ts tag).1.take (83 :: nS key).length = 83 :: nS key then ((bTerm ts tag).1.drop (83 :: nS key).length, 0) else ([], 301)
theorem cMade_new {m : Int} {ts : List Bs} {s : Bs} (h1 : s ≠ []) (h2 : s.length ≤ 512) (h3 : s ∉ ts) (h4 : (ts.length : Int) < m) : cMade m ts s = (ts ++ [s], (ts.length : Int), 0) := by
  rw [cMade, bName_new h1 h2 h3 h4]; rfl
theorem cMade_old {m : Int} {ts : List Bs} {s : Bs} (h1 : s ≠ []) (h2 : s.length ≤ 512) {i : Nat} (h3 : bFind ts s = some i) : cMade m ts s = (ts, (i : Int), 0) := by
  rw [cMade, bName_old h1 h2 h3]; rfl
theorem cMade_long {m : Int} {ts : List Bs} {s : Bs} (h2 : 512 < s.length) : cMade m ts s = (ts, 0, 300) := by
  have : bName m ts s = (ts, 0, 200) := by unfold bName; rw [if_pos (.inr h2)]
  rw [cMade, this]; rfl
theorem cMade_full {m : Int} {ts : List Bs} {s : Bs} (h3 : s ∉ ts) (h4 : m ≤ (ts.length : Int)) : cMade m ts s = (ts, 0, 300) := by
  have hf : bFind ts s = none := by
    apply bFind_none
    intro j hj
    exact h3 (List.mem_of_getElem? hj)
  have : ∃ e, bName m ts s = (ts, 0, e) ∧ e ≠ 0 := by
    unfold bName; split
    · exact ⟨_, rfl, by omega⟩
    · rw [hf]; exact ⟨201, by simp [h4], by omega⟩
  obtain ⟨e, h5, h6⟩ := this
  rw [cMade, h5]; simp [h6]
/-- A term that is there is found. -/
theorem bFind_mem {ts : List Bs} {s : Bs} (h : s ∈ ts) : ∃ i, bFind ts s = some i ∧ i < ts.length ∧ ts[i]? = some s := by
  unfold bFind
  cases hf : ts.idxOf? s with
  | none => exact absurd h (by simpa [List.idxOf?_eq_none_iff] using hf)
  | some i =>
    have := List.idxOf?_eq_some_iff.1 hf
    obtain ⟨h1, h2, _⟩ := this
    exact ⟨i, rfl, h1, by rw [List.getElem?_eq_getElem h1]; simpa using h2⟩
theorem bb_small {n : Nat} : True := trivial
/-- Numbers' bytes: none is another's beginning. -/
theorem nE_head {x y : Int} (hx : nMay x = true) (hy : nMay y = true) {s t : Bs} (h : nE x ++ s = nE y ++ t) : x = y ∧ s = t := by
  have h1 : 0 ≤ x ∧ x ≤ 1073741823 := by simpa [nMay] using hx
  have h2 : 0 ≤ y ∧ y ≤ 1073741823 := by simpa [nMay] using hy
  unfold nE at h
  repeat' split at h
  all_goals first | (exfalso; simp at h; done) | (simp [bb_eq] at h; refine ⟨by omega, ?_⟩; first | exact h | exact h.2 | exact h.2.2 | exact h.2.2.2 | exact h.2.2.2.2)
theorem nS_head {x y : Int} (hx : nMay x = true) (hy : nMay y = true) {s t : Bs} (h : nS x ++ s = nS y ++ t) : x = y ∧ s = t := by
  rw [nS, nS, if_pos hx, if_pos hy] at h
  exact nE_head hx hy h
end Go.AI

/- Crafts. -/
set_option linter.all false
namespace Go.AI
variable {A : Type} {R : Adts A}
section craft
variable {mk : Int → List Bs → A}
end craft
section ref
variable {mk : Int → List Bs → A}
theorem nAll_one (key : Int) : nAll [key] = nS key := by simp [nAll]
end ref
end Go.AI

/- Lists that are handed over, opened. -/
set_option linter.all false
namespace Go.AI
variable {P : Program}
theorem ints_TR {n : Nat} {t e : TypeId} {us : List AVal} (hu : P.underlying t = some (.slice e)) (he : P.underlying e = some (.int .i64)) (h : TR P (n + 2) t us) :
    ∃ a l, us = [a] ∧ IsInts a l ∧ (∀ x ∈ l, (Lit.int .i64 x).wf = true) ∧ l.length ≤ maxLen := by
  rcases TR_slice hu h with rfl | ⟨b, o, len, cap, rows, rfl, h1, h2, h3, h4⟩
  · exact ⟨_, [], rfl, .inl ⟨rfl, rfl⟩, by simp, by simp⟩
  · have : ∃ l : List Int, rows = l.map (fun x => [AVal.int .i64 x]) ∧ ∀ x ∈ l, (Lit.int .i64 x).wf = true := by
      clear h1 h2 h3 h
      induction rows with
      | nil => exact ⟨[], rfl, by simp⟩
      | cons r rs ih =>
        obtain ⟨l, rfl, hl⟩ := ih fun r hr => h4 r (by simp [hr])
        obtain ⟨_, h5⟩ := h4 r (by simp)
        obtain ⟨x, rfl, hx⟩ := TR_int he h5
        exact ⟨x :: l, rfl, by intro y hy; rcases List.mem_cons.1 hy with rfl | hy; exact hx; exact hl y hy⟩
    obtain ⟨l, rfl, hl⟩ := this
    subst h3
    refine ⟨_, l, rfl, .inr ⟨b, o, cap, ?_⟩, hl, by simp at h1; omega⟩
    rw [List.length_map]
    congr 1
    clear hl h4 h1 h
    induction l with
    | nil => rfl
    | cons x l ih => simp [ih]
end Go.AI

/- Crafts, told by equations; texts that are handed over. -/
set_option linter.all false
namespace Go.AI
variable {A : Type} {R : Adts A}
/-- A slice of texts that is handed over. -/
def IsStrs (a : AVal) (l : List Bs) : Prop := (a = .nils ∧ l = []) ∨ ∃ b o cap, a = .lst b o l.length cap (l.map .str)
theorem IsStrs.len {a : AVal} {l : List Bs} (h : IsStrs a l) (K : AVal → Prop) : lenP a K = K (.int .i64 l.length) := by
  rcases h with ⟨rfl, rfl⟩ | ⟨b, o, cap, rfl⟩ <;> simp
theorem IsStrs.ix {a : AVal} {l : List Bs} (h : IsStrs a l) {n : Nat} : a.ix n = true := by
  rcases h with ⟨rfl, rfl⟩ | ⟨b, o, cap, rfl⟩
  · rfl
  · simp [AVal.ix, ixs_all]
theorem IsStrs.get {a : AVal} {l : List Bs} (h : IsStrs a l) {n : Nat} (h1 : n < l.length) : ∃ b o cs, ∀ K, idxP 1 a (.int .i64 n) K = K (.fp b o (.str l[n] :: cs)) := by
  rcases h with ⟨rfl, rfl⟩ | ⟨b, o, cap, rfl⟩
  · simp at h1
  · refine ⟨b, o + n * 1, (l.map .str).drop (n + 1), fun K => ?_⟩
    rw [idxP_l K 1 b o l.length cap _ .i64 n (by omega) (by omega), Nat.mul_one, List.drop_eq_getElem_cons (by simpa using h1)]
    simp
theorem strs_TR {P : Program} {n : Nat} {t e : TypeId} {us : List AVal} (hu : P.underlying t = some (.slice e)) (he : P.underlying e = some .string) (h : TR P (n + 2) t us) :
    ∃ a l, us = [a] ∧ IsStrs a l ∧ ∀ x ∈ l, x.length ≤ reachBytes := by
  rcases TR_slice hu h with rfl | ⟨b, o, len, cap, rows, rfl, h1, h2, h3, h4⟩
  · exact ⟨_, [], rfl, .inl ⟨rfl, rfl⟩, by simp⟩
  · have : ∃ l : List Bs, rows = l.map (fun x => [AVal.str x]) ∧ ∀ x ∈ l, x.length ≤ reachBytes := by
      clear h1 h2 h3 h
      induction rows with
      | nil => exact ⟨[], rfl, by simp⟩
      | cons r rs ih =>
        obtain ⟨l, rfl, hl⟩ := ih fun r hr => h4 r (by simp [hr])
        obtain ⟨_, h5⟩ := h4 r (by simp)
        obtain ⟨x, rfl, hx⟩ := TR_string he h5
        exact ⟨x :: l, rfl, by intro y hy; rcases List.mem_cons.1 hy with rfl | hy; exact hx; exact hl y hy⟩
    obtain ⟨l, rfl, hl⟩ := this
    subst h3
    refine ⟨_, l, rfl, .inr ⟨b, o, cap, ?_⟩, hl⟩
    rw [List.length_map]
    congr 1
    clear hl h4 h1 h
    induction l with
    | nil => rfl
    | cons x l ih => simp [ih]
/-- The terms behind the first names. -/
def bNames (m : Int) (l : List Bs) (i : Nat) : List Bs := (l.take i).foldl (fun ts s => (bName m ts s).1) []
theorem bNames_succ {m : Int} {l : List Bs} {i : Nat} (h : i < l.length) : bNames m l (i + 1) = (bName m (bNames m l i) l[i]).1 := by
  unfold bNames
  rw [← List.take_append_getElem h, List.foldl_append]; rfl
theorem bNames_ok {m : Int} (hm : 1 ≤ m ∧ m ≤ 65536) (l : List Bs) : ∀ i, bOk m (bNames m l i)
  | 0 => bOk_nil hm
  | i + 1 => by
    by_cases h : i < l.length
    · rw [bNames_succ h]; exact bName_ok (bNames_ok hm l i)
    · have : bNames m l (i + 1) = bNames m l i := by unfold bNames; rw [List.take_of_length_le (by omega), List.take_of_length_le (by omega)]
      rw [this]; exact bNames_ok hm l i
def TwinI (q : Nat) (bk rbk : Int → List Bs → A) (m : Int) (l : List Bs) (k : Nat) (y : List AVal) (g : AHeap A) : Prop :=
  ∃ i : Nat, y = [.int .i64 i] ∧ g = [.adt (bk m (bNames m l i)), .adt (rbk m (bNames m l i))] ∧ i ≤ l.length ∧ i ≤ q ∧ k = q - i
section
variable {mk : Int → List Bs → A}
theorem bOk_at {m : Int} {ts r : List Bs} {s : Bs} {n e : Int} (h : bOk m ts) (he : cMade m ts s = (r, n, e)) : bOk m r := by
  have := cMade_ok (s := s) h
  rwa [he] at this
theorem bOk_key {m : Int} {ts r : List Bs} {k : UInt8} {key : Int} {s : Bs} {n e : Int} (h : bOk m ts) (he : cKey m ts k key s = (r, n, e)) : bOk m r := by
  have := cKey_ok (k := k) (key := key) (s := s) h
  rwa [he] at this
end
end Go.AI

/- Twins of books, the statements of layer 3. -/
set_option linter.all false
namespace Go.AI
variable {A : Type} {R : Adts A}
section
variable {bk rbk : Int → List Bs → A}
end
end Go.AI

/- Crafts: what every program answers that is one; any book, keys, texts, tags. -/
set_option linter.all false
namespace Go.AI
variable {A : Type} {R : Adts A}
section
variable {bk rbk : Int → List Bs → A}
end
end Go.AI

/- CraftForms, CraftUnlike. -/
set_option linter.all false
namespace Go.AI
variable {A : Type} {R : Adts A}
def zCells (n : Nat) : List AVal := (List.replicate n [AVal.int .u8 0]).flatten
theorem zCells_eq (n : Nat) : zCells n = List.replicate n (.int .u8 0) := by
  unfold zCells
  induction n with
  | zero => rfl
  | succ n ih => rw [List.replicate_succ, List.flatten_cons, ih]; rfl
theorem zCells_bytes : ∀ n : Nat, (List.replicate n (AVal.int .u8 0)).mapM byteOf = some (List.replicate n 0)
  | 0 => rfl
  | n + 1 => by
    rw [List.replicate_succ, List.mapM_cons, zCells_bytes n]; rfl
theorem zCells_low {t : TypeId} {n m : Nat} : AObj.low R m (.cells t (zCells n) : AObj A) := low_cells (by rw [zCells_eq]; simp [ixs_all, AVal.ix])
/-- So many zeros as a text. -/
theorem mkz_ok {t : TypeId} {n : Int} (hn : 0 ≤ n ∧ n ≤ 140737488355328) {h : AHeap A} {K : AVal → AHeap A → Prop} (hk : K (.str (List.replicate n.toNat 0)) (h ++ [.cells t (zCells n.toNat)])) :
    mkslP t 1 1 [.int .u8 0] (.int .i64 n) (.int .i64 n) h fun v h => b2sP v h fun u => K u h := by
  unfold mkslP
  dsimp only
  rw [if_pos ⟨hn.1, by omega, by omega, by omega, rfl⟩]
  unfold b2sP
  dsimp only
  have e : cellsAt (h ++ [.cells t (List.replicate n.toNat [AVal.int .u8 0]).flatten]) h.length = some (zCells n.toNat) := by simp [cellsAt, AObj.read, zCells]
  simp only [e]
  rw [zCells_eq, if_pos (by simp)]
  simp only [List.drop_zero]
  rw [List.take_of_length_le (by simp), zCells_bytes]
  exact hk
theorem mkz_any {t : TypeId} {n : Int} (hn : 0 ≤ n ∧ n ≤ 140737488355328) {h : AHeap A} {K : AVal → AHeap A → Prop} (hk : ∀ (z : Bs) (o : AObj A), (z.length : Int) = n → (∀ m, AObj.low R m o) → K (.str z) (h ++ [o])) :
    mkslP t 1 1 [.int .u8 0] (.int .i64 n) (.int .i64 n) h fun v h => b2sP v h fun u => K u h :=
  mkz_ok hn (hk _ _ (by rw [List.length_replicate]; omega) fun _ => zCells_low)
def ErrJ (v : Int) (o : AHeap A) (vs : List AVal) (g : AHeap A) : Prop := vs = [.int .i64 v] ∧ g = o
theorem cKey_bad {m : Int} {ts : List Bs} {k : UInt8} {key : Int} {s : Bs} (h : nMay key = false) : cKey m ts k key s = (ts, 0, 300) := by simp [cKey, h]
theorem cOpen_none {ts : List Bs} {key tag : Int} (h : (ts.length : Int) ≤ tag) : cOpen ts key tag = ([], 301) := by
  unfold cOpen bTerm
  rw [if_neg (show ¬ (0 ≤ tag ∧ tag < ts.length) by omega)]
  simp
theorem cOpen_bad {ts : List Bs} {key tag : Int} (h : nMay key = false) : cOpen ts key tag = ([], 301) := by simp [cOpen, h]
theorem cIsMac_bad {ts : List Bs} {key tag : Int} {s : Bs} (h : nMay key = false) : cIsMac ts key s tag = false := by simp [cIsMac, h]
section
variable {bk rbk : Int → List Bs → A}
end
end Go.AI

/- CraftUnlike. -/
set_option linter.all false
namespace Go.AI
variable {A : Type} {R : Adts A}
theorem bFind_cons (a : Bs) (r : List Bs) (s : Bs) : bFind (a :: r) s = if a = s then some 0 else (bFind r s).map (· + 1) := by
  by_cases h : a = s
  · subst h; simp [bFind, List.idxOf?, List.findIdx?_cons]
  · simp [bFind, List.idxOf?, List.findIdx?_cons, h]
theorem bFind_nil (s : Bs) : bFind [] s = none := rfl
/-- What is within a seal. -/
theorem cOpen_seal {ts : List Bs} {q x tag : Int} {s : Bs} (hx : nMay x = true) (hq : nMay q = true) (ht : bTerm ts tag = (83 :: (nS x ++ s), 0)) : cOpen ts q tag = if q = x then (s, 0) else ([], 301) := by
  unfold cOpen
  rw [ht]
  by_cases h : q = x
  · subst h
    rw [if_pos rfl, if_pos ⟨hq, rfl, by simp, by simp⟩]
    simp
  · rw [if_neg h, if_neg]
    rintro ⟨_, _, h1, h2⟩
    simp at h2
    have h3 : nS q ++ (nS x ++ s).drop (nS q).length = nS x ++ s := by
      conv => rhs; rw [← List.take_append_drop (nS q).length (nS x ++ s)]
      rw [h2]
    exact h (nS_head hq hx h3).1
theorem cKey_new {m : Int} {ts : List Bs} {k : UInt8} {x : Int} {s : Bs} (hx : nMay x = true) (hs : s.length ≤ 100) (h3 : (k :: (nS x ++ s)) ∉ ts) (h4 : (ts.length : Int) < m) : cKey m ts k x s = (ts ++ [k :: (nS x ++ s)], (ts.length : Int), 0) := by
  have := nS_len x
  rw [cKey, if_pos hx, cMade_new (by simp) (by simp; omega) h3 h4]
theorem cKey_old {m : Int} {ts : List Bs} {k : UInt8} {x : Int} {s : Bs} (hx : nMay x = true) (hs : s.length ≤ 100) {i : Nat} (h3 : bFind ts (k :: (nS x ++ s)) = some i) : cKey m ts k x s = (ts, (i : Int), 0) := by
  have := nS_len x
  rw [cKey, if_pos hx, cMade_old (by simp) (by simp; omega) h3]
section
variable {bk rbk : Int → List Bs → A}
end
end Go.AI

/- CraftSeals. -/
set_option linter.all false
namespace Go.AI
variable {A : Type} {R : Adts A}
theorem bTerm_get {ts : List Bs} {i : Nat} {s : Bs} (h : ts[i]? = some s) : bTerm ts (i : Int) = (s, 0) := by
  have := (List.getElem?_eq_some_iff.1 h).1
  unfold bTerm
  rw [if_pos (by omega)]
  simp [h]
theorem bTerm_app {ts : List Bs} {x : Int} {s : Bs} (r : List Bs) (h : bTerm ts x = (s, 0)) : bTerm (ts ++ r) x = (s, 0) := by
  unfold bTerm at h ⊢
  split at h
  · rename_i h1
    rw [if_pos (by simp; omega)]
    rw [← h]
    simp [List.getElem?_append_left (show x.toNat < ts.length by omega)]
  · simp at h
/-- A term with a key is made: its name stands for it; the others stay. -/
theorem key_step {m : Int} {ts : List Bs} {k : UInt8} {x : Int} {s : Bs} (hx : nMay x = true) (hs : s.length ≤ 100) (hm : (ts.length : Int) < m) :
    ∃ (ts' : List Bs) (n : Int), cKey m ts k x s = (ts', n, 0) ∧ bTerm ts' n = (k :: (nS x ++ s), 0) ∧ ts'.length ≤ ts.length + 1 ∧ (∀ t r, bTerm ts t = (r, 0) → bTerm ts' t = (r, 0)) ∧ (∀ r ∈ ts', r ∈ ts ∨ r = k :: (nS x ++ s)) := by
  by_cases h : (k :: (nS x ++ s)) ∈ ts
  · obtain ⟨i, h1, _, h2⟩ := bFind_mem h
    exact ⟨ts, i, cKey_old hx hs h1, bTerm_get h2, by omega, fun _ _ h => h, fun r hr => .inl hr⟩
  · exact ⟨_, _, cKey_new hx hs h hm, bTerm_get (by simp), by simp, fun _ _ h => bTerm_app _ h, fun r hr => by simpa using hr⟩
theorem ints_fix {t : TypeId} {m : Nat} (l : List Int) : (AObj.cells t (l.map (.int .i64)) : AObj A).ix R m ∧ ∀ τ, (AObj.cells t (l.map (.int .i64)) : AObj A).ren R τ = .cells t (l.map (.int .i64)) := by
  have h1 : ∀ m, ixs m (l.map (.int .i64)) = true := fun m => by simp [ixs_all, AVal.ix]
  exact ⟨h1 m, fun τ => by simp only [AObj.ren]; rw [rens_ix0 τ _ (h1 0)]⟩
/-- Names that were told, behind one object. -/
def TRow (o : AObj A) (tags : List Int) (x : AVal) (g : AHeap A) : Prop :=
  (tags = [] ∧ x = .nils ∧ g = [o]) ∨ (tags ≠ [] ∧ x = .sl 1 0 tags.length tags.length false ∧ g = [o, .cells t_int (tags.map (.int .i64))])
section
variable {bk rbk : Int → List Bs → A}
def SealsI (bk : Int → List Bs → A) (keys : List Int) (texts : List Bs) (n : Nat) (m : Nat) (y : List AVal) (g : AHeap A) : Prop :=
  ∃ (j : Nat) (ts : List Bs) (tags : List Int) (x : AVal), y = [x, .int .i64 j] ∧ TRow (.adt (bk 999 ts)) tags x g ∧ bOk 999 ts ∧ ts.length ≤ j ∧ tags.length = j ∧
    (∀ i, i < j → bTerm ts (tags.getD i 0) = (83 :: (nS (keys.getD i 0 % 16) ++ texts.getD i []), 0)) ∧ j ≤ n ∧ m = n - j
def SealsO (h : AHeap A) (n : Nat) (m : Nat) (y : List AVal) (g : AHeap A) : Prop := ∃ j : Nat, y = [.int .i64 j] ∧ g = h ∧ j ≤ n ∧ m = n - j
end
end Go.AI

/- Codes by time. -/
set_option linter.all false
namespace Go.AI
variable {A : Type} {R : Adts A}
def tMay (x : Int) : Bool := decide (0 ≤ x ∧ x ≤ 1048575)
/-- A tick's step. -/
def tStep (x : Int) : Int := if 0 ≤ x ∧ x ≤ 1048575 then x / 30 + 1 else 0
theorem tStep_le (x : Int) : 0 ≤ tStep x ∧ tStep x ≤ 34953 := by unfold tStep; split <;> omega
theorem totp_TickMay_ok (x : Int) {h : AHeap A} {K : AVal → AHeap A → Prop} (hk : K (.bool (tMay x)) h) : Tri Pr R n_totp_TickMay [.int .i64 x] h K := by
  apply c_totp_TickMay
  unfold p_totp_TickMay
  by_cases h1 : 0 ≤ x
  · by_cases h2 : x ≤ 1048575
    · simp [tMay, h1, h2] at hk; simp -implicitDefEqProofs [h1, h2]; exact hk
    · simp [tMay, h1, h2] at hk; simp -implicitDefEqProofs [h1, h2]; exact hk
  · simp [tMay, h1] at hk; simp -implicitDefEqProofs [h1]; exact hk
def cTerm (x : Int) : Bs := 99 :: 111 :: 100 :: 101 :: nS x
theorem cTerm_len (x : Int) : (cTerm x).length ≤ 9 := by have := nS_len x; simp [cTerm]; omega
theorem cTerm_inj {x y : Int} (hx : nMay x = true) (hy : nMay y = true) (h : cTerm x = cTerm y) : x = y := by
  refine nE_inj hx hy ?_
  simpa [cTerm, nS, hx, hy] using h
/-- A step's code. -/
def tCode (m : Int) (ts : List Bs) (secret step : Int) : List Bs × Int × Int :=
  if 1 ≤ step ∧ step ≤ 1048575 then (if (cKey m ts 77 secret (cTerm step)).2.2 = 0 then cKey m ts 77 secret (cTerm step) else ((cKey m ts 77 secret (cTerm step)).1, 0, 1200)) else (ts, 0, 1200)
theorem tCode_ok {m : Int} {ts : List Bs} {secret step : Int} (h : bOk m ts) : bOk m (tCode m ts secret step).1 := by
  unfold tCode; split
  · split <;> exact cKey_ok h
  · exact h
/-- The least step that is right. -/
def tTry (f : Int → Bool) (last e : Int) : Nat → Int → Int × Bool
  | 0, _ => (0, false)
  | n + 1, s => if last < s ∧ f s = true then (s, true) else tTry f last e n (s + 1)
def tAccept (f : Int → Bool) (last tick : Int) : Int × Bool :=
  if tStep tick = 0 then (0, false) else tTry f last (tStep tick + 1) (tStep tick + 2 - max 1 (tStep tick - 1)).toNat (max 1 (tStep tick - 1))
theorem tTry_one {f : Int → Bool} {last e s : Int} : ∀ (n : Nat) (s0 : Int), (n : Int) = e + 1 - s0 → (∀ x, s0 ≤ x → x ≤ e → (f x = true ↔ x = s)) → tTry f last e n s0 = if s0 ≤ s ∧ s ≤ e ∧ last < s then (s, true) else (0, false)
  | 0, s0, hn, hf => by rw [if_neg (by omega)]; rfl
  | n + 1, s0, hn, hf => by
    have ih := tTry_one (f := f) (last := last) (e := e) (s := s) n (s0 + 1) (by omega) (fun x h1 h2 => hf x (by omega) h2)
    rw [tTry]
    by_cases h1 : last < s0 ∧ f s0 = true
    · have := (hf s0 (by omega) (by omega)).1 h1.2
      subst this
      rw [if_pos h1, if_pos (by omega)]
    · rw [if_neg h1, ih]
      by_cases h2 : s = s0
      · have h3 : f s0 = true := (hf s0 (by omega) (by omega)).2 h2.symm
        rw [if_neg (by omega), if_neg]
        rintro ⟨_, _, h4⟩
        exact h1 ⟨by omega, h3⟩
      · by_cases h3 : s0 + 1 ≤ s ∧ s ≤ e ∧ last < s
        · rw [if_pos h3, if_pos (by omega)]
        · rw [if_neg h3, if_neg (by omega)]
theorem tTry_none {f : Int → Bool} {last e : Int} : ∀ (n : Nat) (s0 : Int), (∀ x, f x = false) → tTry f last e n s0 = (0, false)
  | 0, _, _ => rfl
  | n + 1, s0, hf => by rw [tTry, if_neg (by simp [hf]), tTry_none n _ hf]
section
variable {mk : Int → List Bs → A}
theorem bOk_code {m : Int} {ts r : List Bs} {secret step n e : Int} (h : bOk m ts) (he : tCode m ts secret step = (r, n, e)) : bOk m r := by
  have := tCode_ok (secret := secret) (step := step) h
  rwa [he] at this
end
theorem bTerm_iff {ts : List Bs} {x : Int} {r : Bs} : bTerm ts x = (r, 0) ↔ ∃ i : Nat, x = i ∧ ts[i]? = some r := by
  constructor
  · intro h
    unfold bTerm at h
    split at h
    · rename_i h1
      refine ⟨x.toNat, by omega, ?_⟩
      have h2 : x.toNat < ts.length := by omega
      simp [h2] at h
      rw [List.getElem?_eq_getElem h2, h]
    · simp at h
  · rintro ⟨i, rfl, h⟩; exact bTerm_get h
theorem bFind_some {ts : List Bs} {u : Bs} {i : Nat} (h : bFind ts u = some i) : ts[i]? = some u := by
  obtain ⟨h1, h2, _⟩ := List.idxOf?_eq_some_iff.1 h
  rw [List.getElem?_eq_getElem h1]; simpa using h2
theorem nd_get {ts : List Bs} (hn : ts.Nodup) {i j : Nat} {r : Bs} (h1 : ts[i]? = some r) (h2 : ts[j]? = some r) : i = j := by
  obtain ⟨a1, a2⟩ := List.getElem?_eq_some_iff.1 h1
  obtain ⟨b1, b2⟩ := List.getElem?_eq_some_iff.1 h2
  exact (List.getElem_inj hn).1 (a2.trans b2.symm)
theorem cIs_iff {ts : List Bs} (hn : ts.Nodup) {r : Bs} {x : Int} : cIs ts r x = true ↔ bTerm ts x = (r, 0) := by
  rw [bTerm_iff]
  unfold cIs
  constructor
  · intro h
    cases hf : bFind ts r with
    | none => simp [hf] at h
    | some i => simp [hf] at h; exact ⟨i, h.symm, bFind_some hf⟩
  · rintro ⟨i, rfl, h⟩
    obtain ⟨j, h1, _, h2⟩ := bFind_mem (List.mem_of_getElem? h)
    have := nd_get hn h h2
    subst this
    simp [h1]
end Go.AI

/- The boot's sectors, plainly. -/
set_option linter.all false
namespace Go.AI
def pad (s : Bs) : Bs := s ++ List.replicate (64 - s.length) 0
theorem pad_len {s : Bs} (h : s.length ≤ 64) : (pad s).length = 64 := by simp [pad]; omega
def supT (boot : Int) : Bs := 72 :: 115 :: 117 :: 112 :: 101 :: 114 :: nS boot
theorem supT_len (x : Int) : (supT x).length ≤ 11 := by have := nS_len x; simp [supT]; omega
def bootMay (x : Int) : Bool := decide (1 ≤ x ∧ x ≤ 1023)
theorem bootMay_num {x : Int} (h : bootMay x = true) : nMay x = true := by
  have : 1 ≤ x ∧ x ≤ 1023 := by simpa [bootMay] using h
  simp [nMay]; omega
/-- A boot is written: the terms behind it, the sector, the error. -/
def sPut (m : Int) (ts : List Bs) (boot : Int) : List Bs × Bs × Int :=
  if bootMay boot = true then (if (cMade m ts (supT boot)).2.2 = 0 then ((cMade m ts (supT boot)).1, pad (nS boot ++ nS (cMade m ts (supT boot)).2.1), 0) else ((cMade m ts (supT boot)).1, [], 1000)) else (ts, [], 1000)
theorem sPut_ok {m : Int} {ts : List Bs} {boot : Int} (h : bOk m ts) : bOk m (sPut m ts boot).1 := by
  unfold sPut; split
  · split <;> exact cMade_ok h
  · exact h
/-- A boot is read. -/
def sGet (ts : List Bs) (s : Bs) : Int × Int :=
  if (gNum s 0).2.2 ≠ 0 then (0, 1000)
  else if (gNum s (gNum s 0).2.1).2.2 ≠ 0 then (0, 1000)
  else if s.length ≠ 64 ∨ bootMay (gNum s 0).1 = false ∨ cIs ts (supT (gNum s 0).1) (gNum s (gNum s 0).2.1).1 = false ∨ s.drop (gNum s (gNum s 0).2.1).2.1.toNat ≠ List.replicate (64 - (gNum s (gNum s 0).2.1).2.1.toNat) 0 then (0, 1000)
  else ((gNum s 0).1, 0)
def sPick (ts : List Bs) (one two : Bs) : Int × Int × Int :=
  if (sGet ts one).2 ≠ 0 ∧ (sGet ts two).2 ≠ 0 then (0, 0, 1001)
  else if (sGet ts one).2 = 0 ∧ (sGet ts two).1 ≤ (sGet ts one).1 then ((sGet ts one).1, 1, 0)
  else ((sGet ts two).1, 0, 0)
theorem sGet_err (ts : List Bs) (s : Bs) : ((sGet ts s).2 = 0 ∨ (sGet ts s).2 = 1000) ∧ ((sGet ts s).2 ≠ 0 → (sGet ts s).1 = 0) ∧ ((sGet ts s).2 = 0 → 1 ≤ (sGet ts s).1 ∧ (sGet ts s).1 ≤ 1023) := by
  unfold sGet
  split
  · simp
  · split
    · simp
    · split
      · simp
      · rename_i h
        have h2 : ¬ bootMay (gNum s 0).1 = false := fun h3 => h (.inr (.inl h3))
        have : 1 ≤ (gNum s 0).1 ∧ (gNum s 0).1 ≤ 1023 := by simpa [bootMay] using h2
        simp; exact this
/-- What was written is read. -/
theorem sGet_sec {ts : List Bs} (hn : ts.Nodup) {boot name : Int} (h1 : bootMay boot = true) (h2 : nMay name = true) (h3 : bTerm ts name = (supT boot, 0)) : sGet ts (pad (nS boot ++ nS name)) = (boot, 0) := by
  have hb := bootMay_num h1
  have eb : nS boot = nE boot := by simp [nS, hb]
  have en : nS name = nE name := by simp [nS, h2]
  have l1 := (nE_len boot).1
  have l2 := (nE_len name).1
  have g1 : gNum (pad (nS boot ++ nS name)) 0 = (boot, ((nE boot).length : Int), 0) := by
    have := gNum_dec hb [] (nS name ++ List.replicate (64 - (nS boot ++ nS name).length) 0)
    rw [pad, eb]
    rw [eb] at this
    simpa using this
  have g2 : gNum (pad (nS boot ++ nS name)) ((nE boot).length : Int) = (name, ((nE boot).length : Int) + (nE name).length, 0) := by
    have := gNum_dec h2 (nE boot) (List.replicate (64 - (nS boot ++ nS name).length) 0)
    rw [pad, eb, en]
    rw [eb, en] at this
    simpa using this
  have hlen : (pad (nS boot ++ nS name)).length = 64 := pad_len (by rw [eb, en]; simp; omega)
  unfold sGet
  rw [g1]
  simp only
  rw [g2]
  simp only [ne_eq, not_true_eq_false, if_false, hlen, h1, false_or]
  have e2 : (pad (nS boot ++ nS name)).drop (((nE boot).length : Int) + (nE name).length).toNat = List.replicate (64 - (((nE boot).length : Int) + (nE name).length).toNat) 0 := by
    rw [show (((nE boot).length : Int) + (nE name).length).toNat = (nE boot ++ nE name).length by simp; omega, pad, eb, en, List.drop_left]
  rw [if_neg]
  rintro (h | h | h)
  · simp at h
  · rw [(cIs_iff hn).2 h3] at h; simp at h
  · exact h e2
theorem sPut_at {m : Int} {ts : List Bs} {boot : Int} (hok : bOk m ts) (hb : bootMay boot = true) (hm : (ts.length : Int) < m) :
    ∃ (ts' : List Bs) (name : Int), sPut m ts boot = (ts', pad (nS boot ++ nS name), 0) ∧ nMay name = true ∧ bTerm ts' name = (supT boot, 0) ∧ ts'.length ≤ ts.length + 1 ∧ (∀ t r, bTerm ts t = (r, 0) → bTerm ts' t = (r, 0)) := by
  have hmost := hok.most
  have hl := supT_len boot
  have hT : supT boot ≠ [] := by simp [supT]
  by_cases h : supT boot ∈ ts
  · obtain ⟨i, h1, h2, h3⟩ := bFind_mem h
    have k := cMade_old (m := m) hT (by omega) h1
    have hlen := hok.len
    exact ⟨ts, i, by rw [sPut, if_pos hb, k]; rfl, by simp [nMay]; omega, bTerm_get h3, by omega, fun _ _ h => h⟩
  · have k := cMade_new (m := m) hT (by omega) h hm
    exact ⟨_, ts.length, by rw [sPut, if_pos hb, k]; rfl, by simp [nMay]; omega, bTerm_get (by simp), by simp, fun _ _ h => bTerm_app _ h⟩
theorem sPut_bad {m : Int} {ts : List Bs} {boot : Int} (hb : bootMay boot = false) : sPut m ts boot = (ts, [], 1000) := by simp [sPut, hb]
end Go.AI

/- Records, plainly. -/
set_option linter.all false
namespace Go.AI
theorem evOf_kind (k : Int) (l : List Int) : (evOf k l).kind = k := by
  unfold evOf
  dsimp only
  split <;> (try rfl)
  split <;> (try rfl)
  split <;> (try rfl)
  split <;> (try rfl)
  split <;> (try rfl)
  split <;> (try rfl)
  split <;> (try rfl)
  split <;> (try rfl)
  split <;> rfl
theorem evMay_kind {e : Ev} (h : evMay e = true) : 0 ≤ e.kind ∧ e.kind ≤ 9 := by
  unfold evMay at h
  simp only [Bool.and_eq_true] at h
  simpa using h.1.1.1.1.1.1.1
theorem evMay_parts {e : Ev} (h : evMay e = true) : ∀ x ∈ evParts e, nMay x = true := by
  unfold evMay at h
  simp only [Bool.and_eq_true] at h
  simpa using h.1.1.1.1.1.2
theorem evMay_plain {e : Ev} (h : evMay e = true) : e = evPlain e := by
  unfold evMay at h
  simp only [Bool.and_eq_true] at h
  simpa using h.2
theorem evCount_le (k : Int) : evCount k ≤ 4 := by unfold evCount; split <;> (try split) <;> (try split) <;> omega
theorem evPut_len {e : Ev} (h : evMay e = true) : (evPut e).length ≤ 25 := by
  have h1 := nAll_len (e.kind :: evParts e)
  have h2 := evParts_count (evMay_kind h)
  have h3 := evCount_le e.kind
  unfold evPut
  simp only [List.length_cons] at h1
  omega
/-- An event that is read is what is written. -/
theorem evGet_enc {s : Bs0} {e : Ev} (h : evGet s = some e) : s = evPut e ∧ evMay e = true := by
  unfold evGet at h
  split at h
  · rename_i k t hk
    split at h
    · rename_i l u hl
      split at h
      · rename_i hu
        obtain ⟨hu1, hu2⟩ := hu
        simp at h; subst h
        obtain ⟨a1, a2, a3, a4, a5⟩ := rNums_enc hk (by omega)
        have a5' := a5 (by omega)
        obtain ⟨b1, b2, b3, b4, b5⟩ := rNums_enc hl (by omega)
        refine ⟨?_, hu2⟩
        unfold evPut
        rw [evOf_kind, evParts_of b1]
        have e0 : nAll (k :: l) = nAll [k] ++ nAll l := by simp [nAll]
        rw [e0, ← a4, ← b4]
        simp only [Int.toNat_zero, List.drop_zero, Int.sub_zero]
        have e1 : (u - t).toNat = (s.drop t.toNat).length := by rw [List.length_drop]; omega
        rw [e1, List.take_length, List.take_append_drop]
      · simp at h
    · simp at h
  · simp at h
theorem evGet_dec {e : Ev} (h : evMay e = true) : evGet (evPut e) = some e := by
  have hk := evMay_kind h
  have hp := evMay_parts h
  have hpl := evMay_plain h
  have hc := evParts_count hk
  have hkm : nMay e.kind = true := by simp [nMay]; omega
  have e0 : evPut e = nAll [e.kind] ++ nAll (evParts e) := by simp [evPut, nAll]
  have r1 := rNums_dec [e.kind] [] (nAll (evParts e)) (by simpa using hkm)
  have r2 := rNums_dec (evParts e) (nAll [e.kind]) [] hp
  simp only [List.nil_append, List.length_nil, List.append_nil, List.length_cons, Nat.zero_add] at r1 r2
  unfold evGet
  rw [e0]
  have z : ((0 : Nat) : Int) = 0 := rfl
  rw [z] at r1
  rw [r1]
  simp only [Int.zero_add]
  rw [← hc, r2]
  simp only
  rw [if_pos]
  · show some (evOf e.kind (evParts e)) = some e
    exact congrArg some hpl.symm
  · refine ⟨by simp, ?_⟩
    have : evOf e.kind (evParts e) = e := hpl.symm
    rw [this]; exact h
/-- A text that stands at a place. -/
def gText (s : Bs0) (t : Int) : Bs0 × Int × Int :=
  if (gNum s t).2.2 ≠ 0 then ([], 0, (gNum s t).2.2)
  else if 65536 < (gNum s t).1 then ([], 0, 100)
  else if (s.length : Int) - (gNum s t).2.1 < (gNum s t).1 then ([], 0, 101)
  else ((s.drop (gNum s t).2.1.toNat).take (gNum s t).1.toNat, (gNum s t).2.1 + (gNum s t).1, 0)
theorem gText_enc {s x : Bs0} {t u : Int} (h : gText s t = (x, u, 0)) : nMay (x.length : Int) = true ∧ 0 ≤ t ∧ t < u ∧ u ≤ s.length ∧ (s.drop t.toNat).take (u - t).toNat = nS x.length ++ x := by
  unfold gText at h
  obtain ⟨n, t1, e, hg⟩ : ∃ x t1 e, gNum s t = (x, t1, e) := ⟨_, _, _, rfl⟩
  rw [hg] at h
  dsimp only at h
  split at h
  · simp at h; rename_i h1; exact absurd h.2.2 h1
  · rename_i h0
    split at h
    · simp at h
    · split at h
      · simp at h
      · rename_i h1 h2
        have h0' : e = 0 := by omega
        subst h0'
        obtain ⟨hn, q1, q2, q3, q4⟩ := gNum_enc hg
        have hn2 : 0 ≤ n ∧ n ≤ 1073741823 := by simpa [nMay] using hn
        simp at h
        obtain ⟨hx, rfl⟩ := h
        have hl : (x.length : Int) = n := by rw [← hx]; simp; omega
        rw [hl]
        refine ⟨hn, q1, by omega, by omega, ?_⟩
        have es : nS n = nE n := by simp [nS, hn]
        rw [es, ← q4, ← hx]
        have e1 : (t1 + n - t).toNat = (t1 - t).toNat + n.toNat := by omega
        have e2 : s.drop t1.toNat = (s.drop t.toNat).drop (t1 - t).toNat := by rw [List.drop_drop]; congr 1; omega
        rw [e1, e2, List.take_add]
theorem gText_dec {x : Bs0} (hx : x.length ≤ 65536) (p r : Bs0) : gText (p ++ (nS x.length ++ (x ++ r))) (p.length : Int) = (x, (p.length : Int) + (nS x.length).length + x.length, 0) := by
  have hn : nMay (x.length : Int) = true := by simp [nMay]; omega
  have es : nS (x.length : Int) = nE x.length := by simp [nS, hn]
  have g := gNum_dec hn p (x ++ r)
  rw [es]
  unfold gText
  rw [g]
  simp only [ne_eq, not_true_eq_false, if_false]
  rw [if_neg (by omega), if_neg (by simp; omega)]
  have e1 : ((p.length : Int) + (nE x.length).length).toNat = (p ++ nE x.length).length := by simp; omega
  rw [e1]
  have e2 : p ++ (nE x.length ++ (x ++ r)) = (p ++ nE x.length) ++ (x ++ r) := by simp
  rw [e2, List.drop_left, Int.toNat_natCast, List.take_left]
/-- A record. -/
structure Rec where
  seq : Int
  boot : Int
  prev : Int
  ev : Ev
deriving DecidableEq
def Rec.row (r : Rec) : List AVal := .int .i64 r.seq :: .int .i64 r.boot :: .int .i64 r.prev :: r.ev.row
def rec0 : Rec := ⟨0, 0, 0, ev0⟩
def recBody (r : Rec) : Bs0 := nAll [r.seq, r.boot, r.prev] ++ (nS (evPut r.ev).length ++ evPut r.ev)
def recMay (r : Rec) : Bool := evMay r.ev && decide (1 ≤ r.seq) && nMay r.seq && decide (1 ≤ r.boot) && nMay r.boot && nMay r.prev && decide ((evPut r.ev).length ≤ 44)
def recT (r : Rec) : Bs0 := 72 :: 114 :: 101 :: 99 :: 111 :: 114 :: 100 :: recBody r
theorem recMay_all {r : Rec} (h : recMay r = true) : evMay r.ev = true ∧ 1 ≤ r.seq ∧ nMay r.seq = true ∧ 1 ≤ r.boot ∧ nMay r.boot = true ∧ nMay r.prev = true ∧ (evPut r.ev).length ≤ 44 := by
  simp [recMay] at h
  obtain ⟨⟨⟨⟨⟨⟨a, b⟩, c⟩, d⟩, e⟩, f⟩, g⟩ := h
  exact ⟨a, b, c, d, e, f, g⟩
theorem recBody_len {r : Rec} (h : recMay r = true) : (recBody r).length ≤ 60 := by
  obtain ⟨a, _⟩ := recMay_all h
  have h1 := evPut_len a
  have h2 := nAll_len [r.seq, r.boot, r.prev]
  have h3 := nS_len ((evPut r.ev).length : Int)
  simp only [recBody, List.length_append, List.length_cons, List.length_nil] at h2 ⊢
  omega
/-- A record is written: the terms behind it, the sector, the name, the error. -/
def recPut (m : Int) (ts : List Bs0) (r : Rec) : List Bs0 × Bs0 × Int × Int :=
  if recMay r = true then
    (if (cMade m ts (recT r)).2.2 = 0 then (if (recBody r ++ nS (cMade m ts (recT r)).2.1).length ≤ 64 then ((cMade m ts (recT r)).1, pad (recBody r ++ nS (cMade m ts (recT r)).2.1), (cMade m ts (recT r)).2.1, 0) else ((cMade m ts (recT r)).1, [], 0, 900))
     else ((cMade m ts (recT r)).1, [], 0, 900))
  else (ts, [], 0, 900)
theorem recPut_ok {m : Int} {ts : List Bs0} {r : Rec} (h : bOk m ts) : bOk m (recPut m ts r).1 := by
  unfold recPut; split
  · split
    · split <;> exact cMade_ok h
    · exact cMade_ok h
  · exact h
/-- A record is read. -/
def recRead (ts : List Bs0) (s : Bs0) : Option (Rec × Int) :=
  match rNums s 3 0 with
  | some ([q, b, p], t) =>
    if (gText s t).2.2 ≠ 0 then none
    else match evGet (gText s t).1 with
      | some e =>
        if (gNum s (gText s t).2.1).2.2 ≠ 0 then none
        else if s.length ≠ 64 ∨ recMay ⟨q, b, p, e⟩ = false ∨ cIs ts (recT ⟨q, b, p, e⟩) (gNum s (gText s t).2.1).1 = false ∨ s.drop (gNum s (gText s t).2.1).2.1.toNat ≠ List.replicate (64 - (gNum s (gText s t).2.1).2.1.toNat) 0 then none
        else some (⟨q, b, p, e⟩, (gNum s (gText s t).2.1).1)
      | none => none
  | _ => none
def recGet (ts : List Bs0) (s : Bs0) (seq prev : Int) : Rec × Int × Int :=
  match recRead ts s with
  | none => (rec0, 0, 900)
  | some (r, n) => if r.seq ≠ seq ∨ r.prev ≠ prev then (rec0, 0, 901) else (r, n, 0)
/-- A sector that is read is the record's own. -/
theorem recRead_enc {ts : List Bs0} (hn : ts.Nodup) {s : Bs0} {r : Rec} {n : Int} (h : recRead ts s = some (r, n)) : recMay r = true ∧ nMay n = true ∧ bTerm ts n = (recT r, 0) ∧ s = pad (recBody r ++ nS n) := by
  unfold recRead at h
  split at h
  · rename_i q b p t hq
    split at h
    · simp at h
    · rename_i h1
      split at h
      · rename_i e he
        split at h
        · simp at h
        · rename_i h2
          split at h
          · simp at h
          · rename_i h3
            simp only [not_or] at h3
            obtain ⟨c1, c2, c3, c4⟩ := h3
            have h' := Option.some.inj h
            simp only [Prod.mk.injEq] at h'
            obtain ⟨rfl, hnn⟩ := h'
            obtain ⟨x, u, e1, hx⟩ : ∃ x u e1, gText s t = (x, u, e1) := ⟨_, _, _, rfl⟩
            rw [hx] at h1 he h2 c3 c4 hnn
            simp only at h1 he h2 c3 c4 hnn
            obtain ⟨y, v, e2, hy⟩ : ∃ y v e2, gNum s u = (y, v, e2) := ⟨_, _, _, rfl⟩
            rw [hy] at h2 c3 c4 hnn
            simp only at h2 c3 c4 hnn
            have h1' : e1 = 0 := by simpa using h1
            have h2' : e2 = 0 := by simpa using h2
            subst h1' h2' hnn
            obtain ⟨a1, a2, a3, a4, a5⟩ := rNums_enc hq (by omega)
            have a5' := a5 (by omega)
            obtain ⟨b1, b2, b3, b4, b5⟩ := gText_enc hx
            obtain ⟨d1, d2, d3, d4, d5⟩ := gNum_enc hy
            obtain ⟨f1, f2⟩ := evGet_enc he
            have hm : recMay ⟨q, b, p, e⟩ = true := by simpa using c2
            have hc : cIs ts (recT ⟨q, b, p, e⟩) y = true := by simpa using c3
            have hz : s.drop v.toNat = List.replicate (64 - v.toNat) 0 := by simpa using c4
            have hl : s.length = 64 := by simpa using c1
            refine ⟨hm, d1, (cIs_iff hn).1 hc, ?_⟩
            have es : nS y = nE y := by simp [nS, d1]
            have w1 : s = s.take t.toNat ++ ((s.drop t.toNat).take (u - t).toNat ++ ((s.drop u.toNat).take (v - u).toNat ++ s.drop v.toNat)) := by
              have g1 : s.drop v.toNat = (s.drop u.toNat).drop (v - u).toNat := by rw [List.drop_drop]; congr 1; omega
              have g2 : s.drop u.toNat = (s.drop t.toNat).drop (u - t).toNat := by rw [List.drop_drop]; congr 1; omega
              rw [g1, List.take_append_drop, g2, List.take_append_drop, List.take_append_drop]
            have w2 : s.take t.toNat = nAll [q, b, p] := by rw [← a4]; simp
            rw [w2, b5, d5, hz, ← es, f1] at w1
            have w3 : (recBody ⟨q, b, p, e⟩ ++ nS y).length = v.toNat := by
              have := congrArg List.length w1
              simp only [recBody, List.length_append, List.length_replicate] at this ⊢
              rw [hl] at this
              omega
            rw [pad, w3]
            conv => lhs; rw [w1]
            simp [recBody]
      · simp at h
  · simp at h
/-- What is written is read. -/
theorem recRead_dec {ts : List Bs0} (hn : ts.Nodup) {r : Rec} {n : Int} (hm : recMay r = true) (hnm : nMay n = true) (hb : bTerm ts n = (recT r, 0)) (hl : (recBody r ++ nS n).length ≤ 64) : recRead ts (pad (recBody r ++ nS n)) = some (r, n) := by
  obtain ⟨m1, m2, m3, m4, m5, m6, m7⟩ := recMay_all hm
  obtain ⟨q, b, p, e⟩ := r
  simp only at m1 m2 m3 m4 m5 m6 m7
  have hlen := pad_len hl
  have es : nS n = nE n := by simp [nS, hnm]
  have ep : pad (recBody ⟨q, b, p, e⟩ ++ nS n) = nAll [q, b, p] ++ (nS (evPut e).length ++ (evPut e ++ (nE n ++ List.replicate (64 - (recBody ⟨q, b, p, e⟩ ++ nS n).length) 0))) := by
    simp [pad, recBody, es]
  obtain ⟨z, hz⟩ : ∃ z, List.replicate (64 - (recBody ⟨q, b, p, e⟩ ++ nS n).length) (0 : UInt8) = z := ⟨_, rfl⟩
  rw [hz] at ep
  have r1 := rNums_dec [q, b, p] [] (nS (evPut e).length ++ (evPut e ++ (nE n ++ z))) (by simp [m3, m5, m6])
  simp only [List.nil_append, List.length_nil, List.length_cons, Nat.zero_add] at r1
  have z0 : ((0 : Nat) : Int) = 0 := rfl
  rw [z0, Int.zero_add] at r1
  have r2 := gText_dec (x := evPut e) (by omega) (nAll [q, b, p]) (nE n ++ z)
  have r3 := gNum_dec hnm (nAll [q, b, p] ++ (nS (evPut e).length ++ evPut e)) z
  have e3 : (nAll [q, b, p] ++ (nS (evPut e).length ++ evPut e)) ++ (nE n ++ z) = nAll [q, b, p] ++ (nS (evPut e).length ++ (evPut e ++ (nE n ++ z))) := by simp
  rw [e3] at r3
  have e4 : (((nAll [q, b, p] ++ (nS (evPut e).length ++ evPut e)).length : Nat) : Int) = ((nAll [q, b, p]).length : Int) + (nS (evPut e).length).length + (evPut e).length := by simp; omega
  rw [e4] at r3
  unfold recRead
  rw [ep, r1]
  simp only
  rw [r2]
  simp only [ne_eq, not_true_eq_false, if_false]
  rw [evGet_dec m1]
  simp only
  rw [r3]
  simp only [ne_eq, not_true_eq_false, if_false]
  rw [if_neg]
  rw [← ep]
  rintro (h | h | h | h)
  · exact h hlen
  · rw [hm] at h; simp at h
  · rw [(cIs_iff hn).2 hb] at h; simp at h
  · apply h
    have e5 : (((nAll [q, b, p]).length : Int) + (nS (evPut e).length).length + (evPut e).length + (nE n).length).toNat = (recBody ⟨q, b, p, e⟩ ++ nS n).length := by simp [recBody, es]; omega
    rw [e5, pad, List.drop_left]
end Go.AI

/- Events and records that are handed in. -/
set_option linter.all false
namespace Go.AI
theorem len_s {α : Type} {l : List α} {n : Nat} (h : l.length = n + 1) : ∃ x r, l = x :: r ∧ r.length = n := by
  cases l with
  | nil => simp at h
  | cons x r => exact ⟨x, r, rfl, by simpa using h⟩
theorem ev_TR {P : Program} {n : Nat} {e i : TypeId} {f0 f1 f2 f3 f4 f5 f6 f7 : Field} {us : List AVal} (he : P.underlying e = some (.struct #[f0, f1, f2, f3, f4, f5, f6, f7])) (hi : P.underlying i = some (.int .i64)) (hc : P.cellsOf e = 8) (ci : P.cellsOf i = 1)
    (hf : (f0.type = i ∧ f0.offset = 0) ∧ (f1.type = i ∧ f1.offset = 1) ∧ (f2.type = i ∧ f2.offset = 2) ∧ (f3.type = i ∧ f3.offset = 3) ∧ (f4.type = i ∧ f4.offset = 4) ∧ (f5.type = i ∧ f5.offset = 5) ∧ (f6.type = i ∧ f6.offset = 6) ∧ (f7.type = i ∧ f7.offset = 7)) (h : TR P (n + 2) e us) : ∃ x : Ev, us = x.row := by
  obtain ⟨⟨t0, o0⟩, ⟨t1, o1⟩, ⟨t2, o2⟩, ⟨t3, o3⟩, ⟨t4, o4⟩, ⟨t5, o5⟩, ⟨t6, o6⟩, ⟨t7, o7⟩⟩ := hf
  obtain ⟨hr, h6⟩ := TR_struct he h
  rw [hc] at hr
  obtain ⟨r0, r1, r2, r3, r4, r5, r6, r7, rfl⟩ := len_8 hr
  have g0 := h6 0 f0 rfl
  have g1 := h6 1 f1 rfl
  have g2 := h6 2 f2 rfl
  have g3 := h6 3 f3 rfl
  have g4 := h6 4 f4 rfl
  have g5 := h6 5 f5 rfl
  have g6 := h6 6 f6 rfl
  have g7 := h6 7 f7 rfl
  rw [t0, o0, ci] at g0
  rw [t1, o1, ci] at g1
  rw [t2, o2, ci] at g2
  rw [t3, o3, ci] at g3
  rw [t4, o4, ci] at g4
  rw [t5, o5, ci] at g5
  rw [t6, o6, ci] at g6
  rw [t7, o7, ci] at g7
  obtain ⟨x0, e0, _⟩ := TR_int hi g0
  obtain ⟨x1, e1, _⟩ := TR_int hi g1
  obtain ⟨x2, e2, _⟩ := TR_int hi g2
  obtain ⟨x3, e3, _⟩ := TR_int hi g3
  obtain ⟨x4, e4, _⟩ := TR_int hi g4
  obtain ⟨x5, e5, _⟩ := TR_int hi g5
  obtain ⟨x6, e6, _⟩ := TR_int hi g6
  obtain ⟨x7, e7, _⟩ := TR_int hi g7
  simp at e0 e1 e2 e3 e4 e5 e6 e7
  subst e0 e1 e2 e3 e4 e5 e6 e7
  exact ⟨⟨x0, x1, x2, x3, x4, x5, x6, x7⟩, rfl⟩
theorem rec_TR {P : Program} {n : Nat} {t e i : TypeId} {f0 f1 f2 f3 f4 f5 f6 f7 g0 g1 g2 g3 : Field} {us : List AVal} (ht : P.underlying t = some (.struct #[g0, g1, g2, g3])) (he : P.underlying e = some (.struct #[f0, f1, f2, f3, f4, f5, f6, f7])) (hi : P.underlying i = some (.int .i64)) (hct : P.cellsOf t = 11) (hc : P.cellsOf e = 8) (ci : P.cellsOf i = 1)
    (hg : (g0.type = i ∧ g0.offset = 0) ∧ (g1.type = i ∧ g1.offset = 1) ∧ (g2.type = i ∧ g2.offset = 2) ∧ (g3.type = e ∧ g3.offset = 3))
    (hf : (f0.type = i ∧ f0.offset = 0) ∧ (f1.type = i ∧ f1.offset = 1) ∧ (f2.type = i ∧ f2.offset = 2) ∧ (f3.type = i ∧ f3.offset = 3) ∧ (f4.type = i ∧ f4.offset = 4) ∧ (f5.type = i ∧ f5.offset = 5) ∧ (f6.type = i ∧ f6.offset = 6) ∧ (f7.type = i ∧ f7.offset = 7)) (h : TR P (n + 3) t us) : ∃ x : Rec, us = x.row := by
  obtain ⟨⟨t0, o0⟩, ⟨t1, o1⟩, ⟨t2, o2⟩, ⟨t3, o3⟩⟩ := hg
  obtain ⟨hr, h6⟩ := TR_struct ht h
  rw [hct] at hr
  obtain ⟨r0, u1, rfl, hr1⟩ := len_s hr
  obtain ⟨r1, u2, rfl, hr2⟩ := len_s hr1
  obtain ⟨r2, u3, rfl, hr3⟩ := len_s hr2
  have k0 := h6 0 g0 rfl
  have k1 := h6 1 g1 rfl
  have k2 := h6 2 g2 rfl
  have k3 := h6 3 g3 rfl
  rw [t0, o0, ci] at k0
  rw [t1, o1, ci] at k1
  rw [t2, o2, ci] at k2
  rw [t3, o3, hc] at k3
  obtain ⟨x0, e0, _⟩ := TR_int hi k0
  obtain ⟨x1, e1, _⟩ := TR_int hi k1
  obtain ⟨x2, e2, _⟩ := TR_int hi k2
  obtain ⟨x, e3⟩ := ev_TR he hi hc ci hf k3
  simp at e0 e1 e2 e3
  subst e0 e1 e2
  rw [List.take_of_length_le (by omega)] at e3
  subst e3
  exact ⟨⟨x0, x1, x2, x⟩, rfl⟩
/-- A slice of structs that is handed in. -/
def IsRows {α : Type} (f : α → List AVal) (a : AVal) (l : List α) : Prop := (a = .nils ∧ l = []) ∨ ∃ b o cap, a = .lst b o l.length cap (l.flatMap f)
theorem rows_drop {α β : Type} {f : α → List β} {n : Nat} (hf : ∀ x, (f x).length = n) : ∀ (l : List α) (i : Nat) (h : i < l.length), (l.flatMap f).drop (i * n) = f l[i] ++ (l.drop (i + 1)).flatMap f
  | [], i, h => by simp at h
  | a :: r, 0, h => by simp
  | a :: r, i + 1, h => by
    have := rows_drop hf r i (by simpa using h)
    have e1 : (i + 1) * n = (f a).length + i * n := by rw [hf, Nat.succ_mul]; omega
    rw [e1, ← List.drop_drop, List.flatMap_cons, List.drop_left, this]
    simp
theorem IsRows.len {α : Type} {f : α → List AVal} {a : AVal} {l : List α} (h : IsRows f a l) (K : AVal → Prop) : lenP a K = K (.int .i64 l.length) := by
  rcases h with ⟨rfl, rfl⟩ | ⟨b, o, cap, rfl⟩ <;> simp
theorem IsRows.get {α : Type} {f : α → List AVal} {w : Nat} (hf : ∀ x, (f x).length = w) {a : AVal} {l : List α} (h : IsRows f a l) {n : Int} (h0 : 0 ≤ n) (h1 : n < l.length) : ∃ x b o cs, l[n.toNat]? = some x ∧ ∀ K, idxP w a (.int .i64 n) K = K (.fp b o (f x ++ cs)) := by
  rcases h with ⟨rfl, rfl⟩ | ⟨b, o, cap, rfl⟩
  · simp at h1; omega
  · have h2 : n.toNat < l.length := by omega
    refine ⟨l[n.toNat], b, o + n.toNat * w, (l.drop (n.toNat + 1)).flatMap f, List.getElem?_eq_getElem h2, fun K => ?_⟩
    rw [idxP_l K w b o l.length cap _ .i64 n h0 h1, rows_drop hf l n.toNat h2]
theorem rows_TR {P : Program} {n : Nat} {t e : TypeId} {α : Type} {f : α → List AVal} {us : List AVal} (hu : P.underlying t = some (.slice e)) (he : ∀ r, TR P n e r → ∃ x : α, r = f x) (h : TR P (n + 1) t us) : ∃ a l, us = [a] ∧ IsRows f a l := by
  rcases TR_slice hu h with rfl | ⟨b', o, len, cap, rows, rfl, h1, h2, h3, h4⟩
  · exact ⟨_, [], rfl, .inl ⟨rfl, rfl⟩⟩
  · have : ∃ l : List α, rows = l.map f := by
      clear h1 h2 h3 h
      induction rows with
      | nil => exact ⟨[], rfl⟩
      | cons r rs ih =>
        obtain ⟨l, rfl⟩ := ih fun r hr => h4 r (by simp [hr])
        obtain ⟨x, rfl⟩ := he _ (h4 r (by simp)).2
        exact ⟨x :: l, rfl⟩
    obtain ⟨l, rfl⟩ := this
    subst h3
    refine ⟨_, l, rfl, .inr ⟨b', o, cap, ?_⟩⟩
    rw [List.length_map, List.flatMap]
end Go.AI

/- Slices of rows: what can be read, what is never written again, what is owned. -/
set_option linter.all false
namespace Go.AI
variable {A : Type} {R : Adts A} {α : Type} {f : α → List AVal} {w : Nat}
/-- How an element is told in cells. -/
structure RowOk (f : α → List AVal) (w : Nat) : Prop where
  pos : 0 < w
  len : ∀ x, (f x).length = w
  ix : ∀ x, ixs 0 (f x) = true
  sc : ∀ x, (f x).all AVal.scalar = true
theorem rows_len (hf : RowOk f w) (l : List α) : (l.flatMap f).length = l.length * w := by
  induction l with
  | nil => simp
  | cons x r ih => simp only [List.flatMap_cons, List.length_append, hf.len, ih, List.length_cons, Nat.succ_mul]; omega
theorem rows_ix (hf : RowOk f w) (l : List α) : ixs 0 (l.flatMap f) = true := by
  rw [ixs_all]
  simp only [List.all_flatMap, List.all_eq_true]
  intro x _
  have := hf.ix x
  rw [ixs_all, List.all_eq_true] at this
  exact this
theorem rows_sc (hf : RowOk f w) (l : List α) : (l.flatMap f).all AVal.scalar = true := by
  rw [List.all_flatMap, List.all_eq_true]; exact fun x _ => hf.sc x
theorem rows_dropn (hf : RowOk f w) (l : List α) (i : Nat) : (l.flatMap f).drop (i * w) = (l.drop i).flatMap f := by
  induction l generalizing i with
  | nil => simp
  | cons x r ih =>
    cases i with
    | zero => simp
    | succ i =>
      have e1 : (i + 1) * w = (f x).length + i * w := by rw [hf.len, Nat.succ_mul]; omega
      rw [e1, ← List.drop_drop, List.flatMap_cons, List.drop_left, ih]
      simp
theorem rows_taken (hf : RowOk f w) (l : List α) (i : Nat) : (l.flatMap f).take (i * w) = (l.take i).flatMap f := by
  induction l generalizing i with
  | nil => simp
  | cons x r ih =>
    cases i with
    | zero => simp
    | succ i =>
      have e1 : (i + 1) * w = (f x).length + i * w := by rw [hf.len, Nat.succ_mul]; omega
      rw [e1, List.flatMap_cons, List.take_length_add_append, ih]
      simp
theorem rows_at (hf : RowOk f w) (l : List α) (i : Nat) (hi : i < l.length) : ((l.flatMap f).drop (i * w)).take w = f l[i] := by
  rw [rows_dropn hf, List.drop_eq_getElem_cons hi, List.flatMap_cons]
  conv => lhs; rw [← hf.len l[i], List.take_left]
theorem rows_set (hf : RowOk f w) (l : List α) (i : Nat) (hi : i < l.length) (x : α) : over (l.flatMap f) (i * w) (f x) = (l.set i x).flatMap f := by
  unfold over
  rw [rows_taken hf, hf.len, show i * w + w = (i + 1) * w by rw [Nat.succ_mul], rows_dropn hf, List.set_eq_take_append_cons_drop, if_pos hi]
  simp
/-- A pointer's field. -/
def AVal.fad (off : Nat) : AVal → AVal
  | .ptr b o => .ptr b (o + off)
  | .fp b o cs => .fp b (o + off) (cs.drop off)
  | v => v
/-- A pointer to cells that can be read. -/
structure At (p : AVal) (c : List AVal) (h : AHeap A) : Prop where
  nn : ∀ K, nilP p K = K p
  fad : ∀ off K, fadP off p K = K (p.fad off)
  fad2 : ∀ a b K, fadP b (p.fad a) K = K (p.fad (a + b))
  all : ldV c.length true p h = some (.agg c)
  cell : ∀ (off : Nat) (hi : off < c.length), ldV 1 false (p.fad off) h = some c[off]
  sub : ∀ off n : Nat, off + n ≤ c.length → ldV n true (p.fad off) h = some (.agg ((c.drop off).take n))
  eqn : ∀ K, binP .eql .ptr p .nilp K = K (.bool false)
  nen : ∀ K, binP .neq .ptr p .nilp K = K (.bool true)
  sc : p.scalar = true
theorem At.ptr {b o : Nat} {e : TypeId} {cs c : List AVal} {h : AHeap A} (hb : h[b]? = some (.cells e cs)) (hl : o + c.length ≤ cs.length) (hc : (cs.drop o).take c.length = c) : At (.ptr b o) c h := by
  have hca : cellsAt h b = some cs := by simp [cellsAt, hb, AObj.read]
  have hg : ∀ off, off < c.length → cs[o + off]? = c[off]? := by
    intro off hoff
    conv => rhs; rw [← hc]
    rw [List.getElem?_take, if_pos hoff, List.getElem?_drop]
  refine ⟨fun K => rfl, fun off K => rfl, fun a b K => by simp [AVal.fad, fadP, Nat.add_assoc], ?_, fun off hi => ?_, fun off n hn => ?_, fun K => by simp, fun K => by simp, rfl⟩
  · simp only [ldV, hca, if_true]; rw [if_pos hl, hc]
  · simp only [AVal.fad, ldV, hca, Bool.false_eq_true, if_false]; rw [hg off hi, List.getElem?_eq_getElem hi]
  · simp only [AVal.fad, ldV, hca, if_true]
    rw [if_pos (by omega)]
    congr 2
    conv => rhs; rw [← hc]
    rw [List.drop_take, List.drop_drop, List.take_take, Nat.min_eq_left (by omega)]
theorem At.fp {b o : Nat} {cs c : List AVal} {h : AHeap A} (hl : c.length ≤ cs.length) (hc : cs.take c.length = c) : At (.fp b o cs) c h := by
  have hg : ∀ off, off < c.length → cs[off]? = c[off]? := by
    intro off hoff
    conv => rhs; rw [← hc]
    rw [List.getElem?_take, if_pos hoff]
  refine ⟨fun K => rfl, fun off K => rfl, fun a b K => by simp [AVal.fad, fadP, Nat.add_assoc, List.drop_drop], ?_, fun off hi => ?_, fun off n hn => ?_, fun K => by simp, fun K => by simp, rfl⟩
  · simp only [ldV, if_true]; rw [if_pos hl, hc]
  · simp only [AVal.fad, ldV, Bool.false_eq_true, if_false, List.getElem?_drop, Nat.add_zero]; rw [hg off hi, List.getElem?_eq_getElem hi]
  · simp only [AVal.fad, ldV, if_true, List.length_drop]
    rw [if_pos (by omega)]
    congr 2
    conv => rhs; rw [← hc]
    rw [List.drop_take, List.take_take, Nat.min_eq_left (by omega)]
/-- A slice that can be read. -/
structure RdS (f : α → List AVal) (w : Nat) (a : AVal) (l : List α) (h : AHeap A) : Prop where
  len : ∀ K : AVal → Prop, lenP a K = K (.int .i64 l.length)
  get : ∀ (i : Nat) (hi : i < l.length), ∃ p, (∀ K, idxP w a (.int .i64 i) K = K p) ∧ At p (f l[i]) h
  src : srcOf w h a = some (l.length, l.flatMap f)
  sc : a.scalar = true
/-- A slice that is never written again. -/
def IsFz (f : α → List AVal) (a : AVal) (l : List α) : Prop := (a = .nils ∧ l = []) ∨ (∃ b o cap, a = .lst b o l.length cap (l.flatMap f)) ∨ (l = [] ∧ ∃ x, a = .odd x)
theorem IsFz.nil : IsFz f .nils [] := .inl ⟨rfl, rfl⟩
theorem IsFz.ix {a : AVal} {l : List α} (h : IsFz f a l) : ixs 0 [a] = true := by
  rcases h with ⟨rfl, _⟩ | ⟨b, o, cap, rfl⟩ | ⟨_, x, rfl⟩ <;> rfl
theorem IsFz.ix0 {a : AVal} {l : List α} (h : IsFz f a l) : a.ix 0 = true := by
  rcases h with ⟨rfl, _⟩ | ⟨b, o, cap, rfl⟩ | ⟨_, x, rfl⟩ <;> rfl
theorem IsFz.sc {a : AVal} {l : List α} (h : IsFz f a l) : a.scalar = true := by
  rcases h with ⟨rfl, _⟩ | ⟨b, o, cap, rfl⟩ | ⟨_, x, rfl⟩ <;> rfl
theorem IsFz.rd (hf : RowOk f w) {a : AVal} {l : List α} (ha : IsFz f a l) (h : AHeap A) : RdS f w a l h := by
  rcases ha with ⟨rfl, rfl⟩ | ⟨b, o, cap, rfl⟩ | ⟨rfl, x, rfl⟩
  · exact ⟨fun K => by simp, fun i hi => by simp at hi, rfl, rfl⟩
  · refine ⟨fun K => by simp, fun i hi => ?_, by simp [srcOf, rows_len hf], rfl⟩
    refine ⟨.fp b (o + i * w) ((l.flatMap f).drop (i * w)), fun K => by simp [idxP, hi], At.fp ?_ ?_⟩
    · rw [hf.len, List.length_drop, rows_len hf]
      have : (i + 1) * w ≤ l.length * w := Nat.mul_le_mul_right w hi
      rw [Nat.succ_mul] at this; omega
    · rw [hf.len, rows_at hf l i hi]
  · exact ⟨fun K => by simp, fun i hi => by simp at hi, rfl, rfl⟩
/-- A slice that is owned. -/
def Own (f : α → List AVal) (w : Nat) (e : TypeId) (a : AVal) (l : List α) (h : AHeap A) : Prop :=
  (a = .nils ∧ l = []) ∨ ∃ b cap ex cs, a = .sl b 0 l.length cap ex ∧ h[b]? = some (.cells e cs) ∧ cs.length = cap * w ∧ l.length ≤ cap ∧ cs.take (l.length * w) = l.flatMap f ∧ ixs 0 cs = true
theorem Own.nil {e : TypeId} {h : AHeap A} : Own f w e .nils [] h := .inl ⟨rfl, rfl⟩
theorem Own.new (hf : RowOk f w) {e : TypeId} {b cap : Nat} {ex : Bool} {l : List α} {h : AHeap A} (hb : h[b]? = some (.cells e (l.flatMap f))) (hc : cap = l.length) : Own f w e (.sl b 0 l.length cap ex) l h := by
  subst hc
  refine .inr ⟨b, _, ex, _, rfl, hb, rows_len hf l, Nat.le_refl _, ?_, rows_ix hf l⟩
  rw [← rows_len hf l, List.take_length]
theorem Own.sc {e : TypeId} {a : AVal} {l : List α} {h : AHeap A} (ha : Own f w e a l h) : a.scalar = true := by
  rcases ha with ⟨rfl, _⟩ | ⟨b, cap, ex, cs, rfl, _⟩ <;> rfl
theorem Own.rd (hf : RowOk f w) {e : TypeId} {a : AVal} {l : List α} {h : AHeap A} (ha : Own f w e a l h) : RdS f w a l h := by
  rcases ha with ⟨rfl, rfl⟩ | ⟨b, cap, ex, cs, rfl, hb, hl, hc, ht, hx⟩
  · exact ⟨fun K => by simp, fun i hi => by simp at hi, rfl, rfl⟩
  · have hlw : l.length * w ≤ cs.length := by rw [hl]; exact Nat.mul_le_mul_right w hc
    have hca : cellsAt h b = some cs := by simp [cellsAt, hb, AObj.read]
    refine ⟨fun K => by simp, fun i hi => ?_, ?_, rfl⟩
    · have h1 : (i + 1) * w ≤ l.length * w := Nat.mul_le_mul_right w hi
      rw [Nat.succ_mul] at h1
      refine ⟨.ptr b (0 + i * w), fun K => by simp [idxP, hi], At.ptr hb ?_ ?_⟩
      · rw [hf.len]; omega
      · rw [hf.len, ← rows_at hf l i hi, ← ht, List.drop_take, List.take_take, Nat.min_eq_left (by omega), Nat.zero_add]
    · simp only [srcOf, hca, Nat.zero_add, List.drop_zero]
      rw [if_pos hlw, ht]
/-- It stays owned over another heap that has its object. -/
theorem Own.move {e : TypeId} {a : AVal} {l : List α} {h h' : AHeap A} (ha : Own f w e a l h) (hh : ∀ b o len cap ex, a = .sl b o len cap ex → h'[b]? = h[b]?) : Own f w e a l h' := by
  rcases ha with ⟨rfl, rfl⟩ | ⟨b, cap, ex, cs, rfl, hb, hr⟩
  · exact .inl ⟨rfl, rfl⟩
  · exact .inr ⟨b, cap, ex, cs, rfl, (hh b 0 _ _ _ rfl).trans hb, hr⟩
/-- Its block. -/
def AVal.blk : AVal → Option Nat
  | .sl b _ _ _ _ => some b
  | _ => none
theorem Own.at {e : TypeId} {a : AVal} {l : List α} {h : AHeap A} (ha : Own f w e a l h) {b : Nat} (hb : a.blk = some b) : ∃ cs, h[b]? = some (.cells e cs) := by
  rcases ha with ⟨rfl, rfl⟩ | ⟨b', cap, ex, cs, rfl, hb', hr⟩
  · simp [AVal.blk] at hb
  · simp [AVal.blk] at hb; subst hb; exact ⟨cs, hb'⟩
theorem Own.move' {e : TypeId} {a : AVal} {l : List α} {h h' : AHeap A} (ha : Own f w e a l h) (hh : ∀ b, a.blk = some b → h'[b]? = h[b]?) : Own f w e a l h' :=
  ha.move fun b o len cap ex he => hh b (by rw [he]; rfl)
end Go.AI

/- Slices of rows: freezing what is owned, appends. -/
set_option linter.all false
namespace Go.AI
variable {A : Type} {R : Adts A} {α : Type} {f : α → List AVal} {w : Nat}
section
variable (i blk base spare sz : Nat) (cs : List AVal)
mutual
theorem frz_ix0 : ∀ v : AVal, v.ix 0 = true → v.frz i blk base spare sz cs = v
  | .any, _ | .bool _, _ | .int _ _, _ | .str _, _ | .nilp, _ | .nils, _ | .odd _, _ | .raw _, _ | .nilm, _ | .nilf, _ | .nili, _ | .lst _ _ _ _ _, _ | .fp _ _ _, _ => by simp [AVal.frz]
  | .ptr b o, h | .sl b o _ _ _, h | .empt b o _, h | .map b, h => by simp [AVal.ix] at h
  | .fn f a c, h => by simp only [AVal.ix, Bool.and_eq_true] at h; simp [AVal.frz, frzs_ix0 a h.1, frzs_ix0 c h.2]
  | .iface t v, h => by simp only [AVal.ix] at h; simp [AVal.frz, frz_ix0 v h]
  | .agg l, h => by simp only [AVal.ix] at h; simp [AVal.frz, frzs_ix0 l h]
  | .tup l, h => by simp only [AVal.ix] at h; simp [AVal.frz, frzs_ix0 l h]
theorem frzs_ix0 : ∀ l : List AVal, ixs 0 l = true → frzs i blk base spare sz cs l = l
  | [], _ => rfl
  | v :: r, h => by simp only [ixs, Bool.and_eq_true] at h; simp [frzs, frz_ix0 v h.1, frzs_ix0 r h.2]
end
end
theorem Own.frz {e : TypeId} {a : AVal} {l : List α} {h : AHeap A} (ha : Own f w e a l h) {i blk base spare sz : Nat} {cs : List AVal} (hi : a.blk ≠ some i) : a.frz i blk base spare sz cs = a := by
  rcases ha with ⟨rfl, _⟩ | ⟨b, cap, ex, cs', rfl, _⟩
  · rfl
  · have : b ≠ i := fun h => hi (by rw [h]; rfl)
    simp [AVal.frz, this]
/-- What is owned is never written again. -/
theorem Gives.fzO (hf : RowOk f w) {e : TypeId} {a : AVal} {l : List α} {h : AHeap A} {n : Nat} (V : AVal → List AVal) {K : List AVal → AHeap A → Prop} (ha : Own f w e a l h)
    (hV : ∀ b, a.blk = some b → ∀ blk base spare cs, frzs b blk base spare w cs (V a) = V (a.frz b blk base spare w cs)) (hn : n ≤ h.length)
    (hk : ∀ a', IsFz f a' l → ∀ h' : AHeap A, h'.length = h.length → (∀ k e cs, a.blk ≠ some k → h[k]? = some (.cells e cs) → ixs 0 cs = true → h'[k]? = some (.cells e cs)) → Gives Pr R n h' (V a') K) : Gives Pr R n h (V a) K := by
  rcases ha with ⟨rfl, rfl⟩ | ⟨b, cap, ex, cs, rfl, hb, hl, hc, ht, hx⟩
  · exact hk _ IsFz.nil h rfl (fun _ _ _ _ h _ => h)
  · refine Gives.freeze b w hb hx hn fun blk base spare => ?_
    rw [hV b rfl]
    have e1 : (AVal.sl b 0 l.length cap ex).frz b blk base spare w cs = .lst blk (base + 0) l.length (if ex = true then cap else cap + spare) (l.flatMap f) := by
      simp [AVal.frz, ht]
    rw [e1]
    refine hk _ (.inr (.inl ⟨_, _, _, rfl⟩)) _ (by simp) fun k e' cs' hkb hk' hx' => ?_
    have hne : b ≠ k := fun h => hkb (by rw [h]; rfl)
    rw [List.getElem?_map, List.getElem?_set_ne hne, hk']
    simp [AObj.frz, frzs_ix0 _ _ _ _ _ _ _ hx']
/-- A function of values alone, whose answer is told in values. -/
theorem Tri.fzfn (hR : R.Ok) {g : FuncId} {xs : List AVal} (Q : AVal → Prop) (hx : ixs 0 xs = true) (t : Tri Pr R g xs [] fun v h => Gives Pr R 0 h [v] fun vs _ => ∃ u, vs = [u] ∧ Q u ∧ u.ix 0 = true) {h : AHeap A} {K : AVal → AHeap A → Prop}
    (hk : ∀ v, Q v → v.ix 0 = true → K v h) : Tri Pr R g xs h K :=
  Tri.fn hR Q hx (Tri.post t) hk
/-- A copy of what can be read, behind an empty one. -/
theorem app_clone (hf : RowOk f w) {e : TypeId} {bytes q : Nat} {y : AVal} {l : List α} {h : AHeap A} {K : AVal → AHeap A → Prop} (hb : 0 < bytes) (hq : h[q]? = some (.cells e [])) (hy : srcOf w h y = some (l.length, l.flatMap f)) (hn : l.length * bytes ≤ 140737488355328)
    (hk : if l = [] then K (.sl q 0 0 0 true) h else K (.sl h.length 0 l.length l.length false) (h ++ [.cells e (l.flatMap f)])) : appP e w bytes (.sl q 0 0 0 true) y h K := by
  unfold appP appV
  rw [hy]
  dsimp only
  by_cases h0 : l = []
  · subst h0
    rw [if_pos rfl] at hk
    rw [if_pos (by simp)]
    have hset : setAt h q (0 + 0 * w) [] = some h := by
      unfold setAt
      rw [hq]
      dsimp only
      rw [if_pos ⟨by simp, rfl⟩]
      have : over ([] : List AVal) (0 + 0 * w) [] = [] := by simp [over]
      rw [this, set_same hq]
    simp only [List.flatMap_nil, hset, Option.map_some, optH, List.length_nil, Nat.add_zero]
    exact hk
  · have hl : 0 < l.length := List.length_pos_iff.2 h0
    rw [if_neg h0] at hk
    rw [if_neg (by omega), hq]
    dsimp only
    rw [if_pos ⟨hb, by simp, .inl ⟨rfl, rfl, by rw [Nat.zero_add]; exact hn⟩⟩, if_pos rfl]
    simp only [optH, Nat.zero_add, Nat.zero_mul, List.take_zero, List.nil_append]
    exact hk
/-- What is owned is lengthened. -/
theorem app_own (hf : RowOk f w) {e : TypeId} {bytes : Nat} {a y : AVal} {l l2 : List α} {h : AHeap A} {K : AVal → AHeap A → Prop} (ha : Own f w e a l h) (hb : 0 < bytes) (hy : srcOf w h y = some (l2.length, l2.flatMap f)) (hn : (2 * (l.length + l2.length) + 1000) * bytes ≤ 140737488355328)
    (hk : ∀ a' h', Own f w e a' (l ++ l2) h' → (∀ k, k < h.length → a.blk ≠ some k → h'[k]? = h[k]?) → h.length ≤ h'.length → (∀ b, a'.blk = some b → a.blk = some b ∨ h.length ≤ b) → K a' h') : appP e w bytes a y h K := by
  unfold appP appV
  rw [hy]
  dsimp only
  have hn2 : l2.length * bytes ≤ 140737488355328 := Nat.le_trans (Nat.mul_le_mul_right _ (by omega)) hn
  rcases ha with ⟨rfl, rfl⟩ | ⟨b, cap, ex, cs, rfl, hq, hl, hc, ht, hx⟩
  · dsimp only
    by_cases h0 : l2 = []
    · subst h0
      rw [if_pos (by simp)]
      exact hk _ _ Own.nil (fun _ _ _ => rfl) (Nat.le_refl _) (fun b hb => .inl hb)
    · have hl : 0 < l2.length := List.length_pos_iff.2 h0
      rw [if_neg (by omega), if_pos ⟨hb, hn2⟩]
      refine hk _ _ (Own.new hf (l := l2) (by simp) rfl) (fun k hk _ => by rw [List.getElem?_append_left hk]) (by simp) (fun b hb => .inr ?_)
      simp [AVal.blk] at hb; omega
  · have hblt := (List.getElem?_eq_some_iff.1 hq).1
    have hsc := rows_sc hf l2
    have hlen2 := rows_len hf l2
    have hlw : l.length * w ≤ cs.length := by rw [hl]; exact Nat.mul_le_mul_right w hc
    dsimp only
    by_cases hfit : l.length + l2.length ≤ cap
    · rw [if_pos hfit]
      have h9 : l.length * w + l2.length * w ≤ cs.length := by rw [hl, ← Nat.add_mul]; exact Nat.mul_le_mul_right w hfit
      have hset : setAt h b (0 + l.length * w) (l2.flatMap f) = some (h.set b (.cells e (over cs (0 + l.length * w) (l2.flatMap f)))) := by
        unfold setAt
        rw [hq]
        dsimp only
        rw [if_pos ⟨by rw [hlen2]; omega, hsc⟩]
      rw [hset]
      simp only [Option.map_some, optH]
      have e2 : over cs (0 + l.length * w) (l2.flatMap f) = (l ++ l2).flatMap f ++ cs.drop (l.length * w + l2.length * w) := by
        unfold over
        rw [Nat.zero_add, ht, hlen2, List.flatMap_append]
      have hll : ((l ++ l2).flatMap f).length = l.length * w + l2.length * w := by rw [rows_len hf, List.length_append, Nat.add_mul]
      have key := hk (.sl b 0 (l.length + l2.length) cap ex) (h.set b (.cells e (over cs (0 + l.length * w) (l2.flatMap f)))) (.inr ⟨b, cap, ex, _, by simp, List.getElem?_set_self hblt, by
          rw [e2, List.length_append, hll, List.length_drop]; omega, by simp; exact hfit, by
          rw [e2, List.length_append, Nat.add_mul, List.take_append_of_le_length (by rw [hll]; exact Nat.le_refl _), ← hll, List.take_length], by
          rw [e2, ixs_all, List.all_append, Bool.and_eq_true]
          refine ⟨by rw [← ixs_all]; exact rows_ix hf _, ?_⟩
          rw [ixs_all] at hx
          rw [List.all_eq_true] at hx ⊢
          exact fun x hx' => hx x (List.mem_of_mem_drop hx')⟩)
        (fun k _ hkb => by rw [List.getElem?_set_ne (fun h => hkb (by rw [h]; rfl))]) (by simp) (fun b' hb' => .inl hb')
      exact key
    · rw [if_neg hfit, hq]
      dsimp only
      rw [if_pos ⟨hb, by rw [Nat.zero_add]; exact hlw, .inr hn⟩]
      have e1 : (cs.drop 0).take (l.length * w) ++ l2.flatMap f = (l ++ l2).flatMap f := by simp [ht, List.flatMap_append]
      by_cases hex : ex = true
      · rw [if_pos hex]
        simp only [optH]
        rw [e1]
        refine hk _ _ (?_ : Own f w e (.sl h.length 0 (l.length + l2.length) (l.length + l2.length) false) (l ++ l2) _) (fun k hk _ => by rw [List.getElem?_append_left hk]) (by simp) (fun b' hb' => .inr ?_)
        · have := Own.new hf (e := e) (b := h.length) (cap := l.length + l2.length) (ex := false) (l := l ++ l2) (h := h ++ [.cells e ((l ++ l2).flatMap f)]) (by simp) (by simp)
          simpa using this
        · simp [AVal.blk] at hb'; omega
      · rw [if_neg hex, if_pos ⟨rfl, by rw [Nat.zero_add]; exact hl.symm, hsc⟩]
        simp only [optH]
        rw [e1]
        refine hk _ _ (?_ : Own f w e (.sl h.length 0 (l.length + l2.length) (l.length + l2.length) false) (l ++ l2) _) (fun k hk hkb => ?_) (by simp) (fun b' hb' => .inr ?_)
        · have := Own.new hf (e := e) (b := h.length) (cap := l.length + l2.length) (ex := false) (l := l ++ l2) (h := h.set b .dead ++ [.cells e ((l ++ l2).flatMap f)]) (by rw [List.getElem?_append_right (by simp)]; simp) (by simp)
          simpa using this
        · rw [List.getElem?_append_left (by simpa using hk), List.getElem?_set_ne (fun h => hkb (by rw [h]; rfl))]
        · simp [AVal.blk] at hb'; omega
end Go.AI

/- Slices of rows: what is owned is written. -/
set_option linter.all false
namespace Go.AI
variable {A : Type} {R : Adts A} {α : Type} {f : α → List AVal} {w : Nat}
theorem Own.el (hf : RowOk f w) {e : TypeId} {a : AVal} {l : List α} {h : AHeap A} (ha : Own f w e a l h) {i : Nat} (hi : i < l.length) : ∃ b, a.blk = some b ∧ (∀ K, idxP w a (.int .i64 i) K = K (.ptr b (i * w))) ∧ At (.ptr b (i * w)) (f l[i]) h := by
  rcases ha with ⟨rfl, rfl⟩ | ⟨b, cap, ex, cs, rfl, hb, hl, hc, ht, hx⟩
  · simp at hi
  · have hlw : l.length * w ≤ cs.length := by rw [hl]; exact Nat.mul_le_mul_right w hc
    have h1 : (i + 1) * w ≤ l.length * w := Nat.mul_le_mul_right w hi
    rw [Nat.succ_mul] at h1
    refine ⟨b, rfl, fun K => by simp [idxP, hi], At.ptr hb (by rw [hf.len]; omega) ?_⟩
    rw [hf.len, ← rows_at hf l i hi, ← ht, List.drop_take, List.take_take, Nat.min_eq_left (by omega)]
theorem over_in (cs c : List AVal) (p off w : Nat) (h1 : off + c.length ≤ w) (h2 : p + w ≤ cs.length) : over cs (p + off) c = cs.take p ++ over ((cs.drop p).take w) off c ++ cs.drop (p + w) := by
  unfold over
  have e1 : cs.take (p + off) = cs.take p ++ ((cs.drop p).take w).take off := by
    rw [List.take_add, List.take_take, Nat.min_eq_left (by omega)]
  have e2 : cs.drop (p + off + c.length) = ((cs.drop p).take w).drop (off + c.length) ++ cs.drop (p + w) := by
    rw [List.drop_take, List.drop_drop]
    have : cs.drop (p + w) = (cs.drop (p + off + c.length)).drop (w - (off + c.length)) := by rw [List.drop_drop]; congr 1; omega
    rw [this, show p + (off + c.length) = p + off + c.length by omega, List.take_append_drop]
  rw [e1, e2]
  simp
/-- A part of an element is written. -/
theorem Own.st (hf : RowOk f w) {e : TypeId} {a : AVal} {l : List α} {h : AHeap A} (ha : Own f w e a l h) {i : Nat} (hi : i < l.length) {b : Nat} (hb : a.blk = some b) {n off o : Nat} {v : AVal} (x : α) (ho : o = i * w + off) (hn : v.cs.length = n) (hoff : off + n ≤ w) (hx : over (f l[i]) off v.cs = f x) (hsc : v.cs.all AVal.scalar = true)
    {K : AHeap A → Prop} (hk : ∀ h', Own f w e a (l.set i x) h' → (∀ k, k ≠ b → h'[k]? = h[k]?) → h'.length = h.length → K h') : stP n (.ptr b o) v h K := by
  subst ho
  rcases ha with ⟨rfl, rfl⟩ | ⟨b', cap, ex, cs, rfl, hq, hl, hc, ht, hix⟩
  · simp at hi
  simp only [AVal.blk, Option.some.injEq] at hb
  subst hb
  have hlw : l.length * w ≤ cs.length := by rw [hl]; exact Nat.mul_le_mul_right w hc
  have h1 : (i + 1) * w ≤ l.length * w := Nat.mul_le_mul_right w hi
  rw [Nat.succ_mul] at h1
  have hblt := (List.getElem?_eq_some_iff.1 hq).1
  have hel : (cs.drop (i * w)).take w = f l[i] := by rw [← rows_at hf l i hi, ← ht, List.drop_take, List.take_take, Nat.min_eq_left (by omega)]
  have hov : over cs (i * w + off) v.cs = cs.take (i * w) ++ f x ++ cs.drop (i * w + w) := by
    rw [over_in cs v.cs (i * w) off w (by omega) (by omega), hel, hx]
  have hset : setAt h b' (i * w + off) v.cs = some (h.set b' (.cells e (over cs (i * w + off) v.cs))) := by
    unfold setAt
    rw [hq]
    dsimp only
    rw [if_pos ⟨by omega, hsc⟩]
  unfold stP
  dsimp only
  rw [if_pos hn, hset]
  simp only [hP]
  have hlen : (cs.take (i * w) ++ f x ++ cs.drop (i * w + w)).length = cs.length := by
    simp only [List.length_append, List.length_take, List.length_drop, hf.len]; omega
  refine hk _ (.inr ⟨b', cap, ex, _, by rw [List.length_set], List.getElem?_set_self hblt, by rw [hov, hlen, hl], by rw [List.length_set]; exact hc, ?_, ?_⟩) (fun k hk => List.getElem?_set_ne (Ne.symm hk)) (by simp)
  · rw [hov, List.length_set]
    have ht2 : cs.take (i * w) = (l.take i).flatMap f := by
      have : cs.take (i * w) = (cs.take (l.length * w)).take (i * w) := by rw [List.take_take, Nat.min_eq_left (by omega)]
      rw [this, ht, rows_taken hf]
    have hd2 : (cs.drop (i * w + w)).take (l.length * w - (i * w + w)) = (l.drop (i + 1)).flatMap f := by
      rw [← List.drop_take, ht, show i * w + w = (i + 1) * w by rw [Nat.succ_mul], rows_dropn hf]
    have hA : (cs.take (i * w) ++ f x).length = i * w + w := by simp only [List.length_append, List.length_take, hf.len]; omega
    rw [show l.length * w = (cs.take (i * w) ++ f x).length + (l.length * w - (i * w + w)) by rw [hA]; omega, List.take_length_add_append, hd2, ht2, List.set_eq_take_append_cons_drop, if_pos hi]
    simp
  · rw [hov, ixs_all, List.all_append, List.all_append, Bool.and_eq_true, Bool.and_eq_true]
    rw [ixs_all, List.all_eq_true] at hix
    refine ⟨⟨List.all_eq_true.2 fun y hy => hix y (List.mem_of_mem_take hy), ?_⟩, List.all_eq_true.2 fun y hy => hix y (List.mem_of_mem_drop hy)⟩
    rw [← ixs_all]; exact hf.ix x
end Go.AI
namespace Go.AI
variable {A : Type} {R : Adts A} {α : Type} {f : α → List AVal} {w : Nat}
/-- The same as simp tells it. -/
theorem Own.sth (hf : RowOk f w) {e : TypeId} {a : AVal} {l : List α} {h : AHeap A} (ha : Own f w e a l h) {i : Nat} (hi : i < l.length) {b : Nat} (hb : a.blk = some b) {off o : Nat} {c : List AVal} (x : α) (ho : o = i * w + off) (hoff : off + c.length ≤ w) (hx : over (f l[i]) off c = f x) (hsc : c.all AVal.scalar = true)
    {K : AHeap A → Prop} (hk : ∀ h', Own f w e a (l.set i x) h' → (∀ k, k ≠ b → h'[k]? = h[k]?) → h'.length = h.length → K h') : hP ((h[b]?).bind (setO h b o c)) K := by
  have := ha.st hf hi hb (n := c.length) (off := off) (o := o) (v := .agg c) x ho rfl hoff hx hsc hk
  unfold stP at this
  dsimp only at this
  rw [if_pos (show (AVal.agg c).cs.length = c.length from rfl), setAt_eq] at this
  exact this
end Go.AI

/- States, plainly. -/
set_option linter.all false
namespace Go.AI
/-- A config. -/
structure Cfg where
  sectors : Int
  halves : Int
  sessions : Int
  addresses : Int
  fails : Int
  lockout : Int
  halfLife : Int
  idle : Int
  absolute : Int
  quarantine : Int
  ticketLife : Int
  keep : Int
deriving DecidableEq
def Cfg.row (c : Cfg) : List AVal := [.int .i64 c.sectors, .int .i64 c.halves, .int .i64 c.sessions, .int .i64 c.addresses, .int .i64 c.fails, .int .i64 c.lockout, .int .i64 c.halfLife, .int .i64 c.idle, .int .i64 c.absolute, .int .i64 c.quarantine, .int .i64 c.ticketLife, .int .i64 c.keep]
/-- A user. -/
structure Usr where
  user : Int
  key : Int
  secret : Int
  quota : Int
  used : Int
  fails : Int
  unt : Int
  step : Int
  gen : Int
deriving DecidableEq
def Usr.row (u : Usr) : List AVal := [.int .i64 u.user, .int .i64 u.key, .int .i64 u.secret, .int .i64 u.quota, .int .i64 u.used, .int .i64 u.fails, .int .i64 u.unt, .int .i64 u.step, .int .i64 u.gen]
/-- A session. -/
structure Ses where
  session : Int
  user : Int
  address : Int
  start : Int
deriving DecidableEq
def Ses.row (x : Ses) : List AVal := [.int .i64 x.session, .int .i64 x.user, .int .i64 x.address, .int .i64 x.start]
/-- An address. -/
structure Adr where
  busy : Bool
  last : Int
  unt : Int
deriving DecidableEq
def Adr.row (a : Adr) : List AVal := [.bool a.busy, .int .i64 a.last, .int .i64 a.unt]
def iRow (n : Int) : List AVal := [.int .i64 n]
/-- A state. -/
structure Sta where
  boots : Int
  epoch : Int
  next : Int
  users : List Usr
  sess : List Ses
  addrs : List Adr
  spent : List Int
deriving DecidableEq
def sta0 : Sta := ⟨0, 0, 0, [], [], [], []⟩
def life (x : Int) : Bool := decide (1 ≤ x ∧ x ≤ 65536)
/-- May a config be? -/
def cMay (c : Cfg) : Bool :=
  decide (3 ≤ c.sectors ∧ c.sectors ≤ 256) && decide (1 ≤ c.halves ∧ c.halves ≤ 8) && decide (1 ≤ c.sessions ∧ c.sessions ≤ 8) && decide (1 ≤ c.addresses ∧ c.addresses ≤ 16) && decide (1 ≤ c.fails ∧ c.fails ≤ 8) && decide (0 ≤ c.keep ∧ c.keep ≤ 4) &&
    (life c.lockout && life c.halfLife && life c.idle && life c.absolute && life c.quarantine && life c.ticketLife)
/-- May a pool be? -/
def adMay (a : Adr) : Bool := decide (-1 ≤ a.last ∧ a.last < 8 ∧ 0 ≤ a.unt)
def poolMay (ps : List Adr) : Bool := decide (1 ≤ ps.length ∧ ps.length ≤ 16) && ps.all adMay
def adr0 : Adr := ⟨false, 0, 0⟩
def pNew (n : Int) : Option (List Adr) := if 1 ≤ n ∧ n ≤ 16 then some (List.replicate n.toNat ⟨false, -1, 0⟩) else none
def pTake (ps : List Adr) (ad user : Int) : Option (List Adr) :=
  if poolMay ps = true ∧ 0 ≤ user ∧ user < 8 ∧ 0 ≤ ad ∧ ad < ps.length ∧ (ps.getD ad.toNat adr0).busy = false then some (ps.set ad.toNat ⟨true, user, 0⟩) else none
def pFree (ps : List Adr) (ad unt : Int) : Option (List Adr) :=
  if poolMay ps = true ∧ 0 ≤ ad ∧ ad < ps.length ∧ (ps.getD ad.toNat adr0).busy = true ∧ 0 ≤ unt then some (ps.set ad.toNat ⟨false, (ps.getD ad.toNat adr0).last, unt⟩) else none
/-- A failure: the lock behind it. -/
def kFail (f u tick most out : Int) : Option (Int × Int) :=
  if f < 0 ∨ 8 < f ∨ u < 0 ∨ 1114111 < u ∨ tick < 0 ∨ 1048575 < tick ∨ most < 1 ∨ 8 < most ∨ out < 1 ∨ 65536 < out ∨ tick < u then none
  else
    let k := if most ≤ f then 1 else f + 1
    some (k, if k = most then tick + out else u)
def uAt (us : List Usr) (user : Int) : Option Nat := us.findIdx? fun u => decide (u.user = user)
def xAt (xs : List Ses) (session : Int) : Option Nat := xs.findIdx? fun x => decide (x.session = session)
def sNew (n : Int) : Option Sta := (pNew n).map fun ps => { sta0 with addrs := ps }
/-- All sessions' addresses are let free. -/
def freeAll (unt : Int) : List Ses → List Adr → Option (List Adr)
  | [], ps => some ps
  | x :: r, ps => match pFree ps x.address unt with | some ps => freeAll unt r ps | none => none
/-- A user is put. -/
def uPut (u : Usr) : List Usr → List Usr
  | [] => [u]
  | v :: r => if u.user < v.user then u :: v :: r else v :: uPut u r
def usr0 : Usr := ⟨0, 0, 0, 0, 0, 0, 0, 0, 0⟩
def ses0 : Ses := ⟨0, 0, 0, 0⟩
def sum (x y : Int) : Int := if 1073741823 - y < x then 1073741823 else x + y
/-- An event of a user. -/
def uTurn (c : Cfg) (u : Usr) (e : Ev) : Option Usr :=
  if e.kind = 2 then (kFail u.fails u.unt e.tick c.fails c.lockout).map fun k => { u with fails := k.1, unt := k.2 }
  else if e.kind = 3 then (if e.a ≤ u.step then none else some { u with step := e.a, fails := 0, unt := 0 })
  else if e.kind = 4 then some { u with fails := 0, unt := 0 }
  else if e.kind = 7 then (if 0 ≤ u.gen ∧ u.gen < 1073741823 then some { u with gen := u.gen + 1 } else none)
  else some u
/-- What an event does to a state. -/
def sDoes (c : Cfg) (s : Sta) (e : Ev) : Option Sta :=
  if e.kind = 0 then
    (match freeAll (e.tick + c.quarantine) s.sess s.addrs with
     | some ps => if 0 ≤ s.boots ∧ s.boots < 1073741823 then some { s with boots := s.boots + 1, addrs := ps, sess := [] } else none
     | none => none)
  else if e.kind = 1 then
    (if (uAt s.users e.user).isSome = true then none else some { s with users := uPut ⟨e.user, e.a, e.b, e.c, 0, 0, 0, 0, 0⟩ s.users })
  else if e.kind = 5 then
    (match pTake s.addrs e.address e.user with
     | some ps => if e.session = s.next ∧ (uAt s.users e.user).isSome = true ∧ (s.sess.length : Int) < c.sessions then some { s with addrs := ps, sess := s.sess ++ [⟨e.session, e.user, e.address, e.tick⟩], next := s.next + 1 } else none
     | none => none)
  else if e.kind = 6 then
    (match xAt s.sess e.session with
     | some k => match pFree s.addrs (s.sess.getD k ses0).address e.tick with
       | some ps => match uAt s.users (s.sess.getD k ses0).user with
         | some j => some { s with addrs := ps, sess := s.sess.eraseIdx k, users := s.users.set j { s.users.getD j usr0 with used := sum (s.users.getD j usr0).used e.a } }
         | none => some { s with addrs := ps, sess := s.sess.eraseIdx k }
       | none => none
     | none => none)
  else if e.kind = 8 then (if s.epoch < 1073741823 then some { s with epoch := s.epoch + 1 } else none)
  else if e.kind = 9 then (if e.session ∈ s.spent then none else some { s with spent := s.spent ++ [e.session] })
  else match uAt s.users e.user with
    | some j => (uTurn c (s.users.getD j usr0) e).map fun u => { s with users := s.users.set j u }
    | none => none
def sMay (c : Cfg) (s : Sta) (e : Ev) : Bool := cMay c && evMay e && decide ((s.addrs.length : Int) = c.addresses)
def sApply (c : Cfg) (s : Sta) (e : Ev) : Sta × Int :=
  if sMay c s e = true then (match sDoes c s e with | some t => (t, 0) | none => (sta0, 2001)) else (sta0, 2000)
/-- The state of events. -/
def sRun (c : Cfg) : Sta → List Ev → Sta × Int
  | s, [] => (s, 0)
  | s, e :: r => match sApply c s e with | (t, f) => if f = 0 then sRun c t r else (sta0, f)
def sAll (c : Cfg) (es : List Ev) : Sta × Int := match sNew c.addresses with | some s => sRun c s es | none => (sta0, 2000)
end Go.AI

/- States: the library's functions at rows. -/
set_option linter.all false
namespace Go.AI
variable {A : Type} {R : Adts A}
theorem usrR : RowOk Usr.row 9 := ⟨by omega, fun _ => rfl, fun _ => rfl, fun _ => rfl⟩
theorem sesR : RowOk Ses.row 4 := ⟨by omega, fun _ => rfl, fun _ => rfl, fun _ => rfl⟩
theorem adrR : RowOk Adr.row 3 := ⟨by omega, fun _ => rfl, fun _ => rfl, fun _ => rfl⟩
theorem intR : RowOk iRow 1 := ⟨by omega, fun _ => rfl, fun _ => rfl, fun _ => rfl⟩
theorem evR : RowOk Ev.row 8 := ⟨by omega, fun _ => rfl, fun _ => rfl, fun _ => rfl⟩
/-- A place, or -1. -/
def idx1 (o : Option Nat) : Int := match o with | some i => i | none => -1
theorem IndexFunc_api_User_ok (hR : R.Ok) {a : AVal} {l : List Usr} {h : AHeap A} (ha : RdS Usr.row 9 a l h) (hn : l.length ≤ 1000000) {g : FuncId} {cap : List AVal} (ho : callOk Pr g = true) (q : Usr → Bool)
    (hq : ∀ u ∈ l, ∀ K : AVal → AHeap A → Prop, K (.bool (q u)) h → Tri Pr R g ([] ++ ([.agg u.row] ++ cap)) h K) {K : AVal → AHeap A → Prop} (hk : K (.int .i64 (idx1 (l.findIdx? q))) h) : Tri Pr R n_slices_IndexFunc_api_User [a, .fn (.func g) [] cap] h K := by
  apply c_slices_IndexFunc_api_User
  unfold p_slices_IndexFunc_api_User
  simp -implicitDefEqProofs [ha.len]
  refine loopP_go (fun m y g => ∃ i : Nat, y = [.int .i64 i] ∧ g = h ∧ i ≤ l.length ∧ (∀ j (hj : j < l.length), j < i → q l[j] = false) ∧ m = l.length - i) l.length (Gives.done (Nat.le_refl _) ⟨0, rfl, rfl, by omega, fun j _ hj => by omega, by omega⟩) ?_
  rintro m y g2 ⟨i, rfl, rfl, hi, hb, rfl⟩
  have e1 := w64 (n := (i : Int) + 1) (by omega)
  by_cases h1 : i < l.length
  · obtain ⟨p, hp, hat⟩ := ha.get i h1
    have hall : ldV 9 true p g2 = some (.agg l[i].row) := hat.all
    simp -implicitDefEqProofs [h1, hp, hall]
    with_reducible refine dynP_go ho ?_
    refine hq l[i] (List.getElem_mem h1) _ ?_
    by_cases h2 : q l[i] = true
    · simp -implicitDefEqProofs [h2]
      have : l.findIdx? q = some i := by
        rw [List.findIdx?_eq_some_iff_getElem]
        exact ⟨h1, h2, fun j hj => by simp [hb j (by omega) hj]⟩
      rw [this] at hk
      exact hk
    · have h2 : q l[i] = false := by simpa using h2
      simp -implicitDefEqProofs [h2, e1]
      refine Gives.done (Nat.le_refl _) ⟨l.length - (i + 1), by omega, i + 1, by simp, rfl, by omega, fun j hj hji => ?_, rfl⟩
      by_cases hj2 : j = i
      · subst hj2; exact h2
      · exact hb j hj (by omega)
  · simp -implicitDefEqProofs [h1]
    have : l.findIdx? q = none := by
      rw [List.findIdx?_eq_none_iff]
      intro x hx
      obtain ⟨j, hj, rfl⟩ := List.mem_iff_getElem.1 hx
      exact hb j hj (by omega)
    rw [this] at hk
    exact hk
theorem IndexFunc_api_Session_ok (hR : R.Ok) {a : AVal} {l : List Ses} {h : AHeap A} (ha : RdS Ses.row 4 a l h) (hn : l.length ≤ 1000000) {g : FuncId} {cap : List AVal} (ho : callOk Pr g = true) (q : Ses → Bool)
    (hq : ∀ u ∈ l, ∀ K : AVal → AHeap A → Prop, K (.bool (q u)) h → Tri Pr R g ([] ++ ([.agg u.row] ++ cap)) h K) {K : AVal → AHeap A → Prop} (hk : K (.int .i64 (idx1 (l.findIdx? q))) h) : Tri Pr R n_slices_IndexFunc_api_Session [a, .fn (.func g) [] cap] h K := by
  apply c_slices_IndexFunc_api_Session
  unfold p_slices_IndexFunc_api_Session
  simp -implicitDefEqProofs [ha.len]
  refine loopP_go (fun m y g => ∃ i : Nat, y = [.int .i64 i] ∧ g = h ∧ i ≤ l.length ∧ (∀ j (hj : j < l.length), j < i → q l[j] = false) ∧ m = l.length - i) l.length (Gives.done (Nat.le_refl _) ⟨0, rfl, rfl, by omega, fun j _ hj => by omega, by omega⟩) ?_
  rintro m y g2 ⟨i, rfl, rfl, hi, hb, rfl⟩
  have e1 := w64 (n := (i : Int) + 1) (by omega)
  by_cases h1 : i < l.length
  · obtain ⟨p, hp, hat⟩ := ha.get i h1
    have hall : ldV 4 true p g2 = some (.agg l[i].row) := hat.all
    simp -implicitDefEqProofs [h1, hp, hall]
    with_reducible refine dynP_go ho ?_
    refine hq l[i] (List.getElem_mem h1) _ ?_
    by_cases h2 : q l[i] = true
    · simp -implicitDefEqProofs [h2]
      have : l.findIdx? q = some i := by
        rw [List.findIdx?_eq_some_iff_getElem]
        exact ⟨h1, h2, fun j hj => by simp [hb j (by omega) hj]⟩
      rw [this] at hk
      exact hk
    · have h2 : q l[i] = false := by simpa using h2
      simp -implicitDefEqProofs [h2, e1]
      refine Gives.done (Nat.le_refl _) ⟨l.length - (i + 1), by omega, i + 1, by simp, rfl, by omega, fun j hj hji => ?_, rfl⟩
      by_cases hj2 : j = i
      · subst hj2; exact h2
      · exact hb j hj (by omega)
  · simp -implicitDefEqProofs [h1]
    have : l.findIdx? q = none := by
      rw [List.findIdx?_eq_none_iff]
      intro x hx
      obtain ⟨j, hj, rfl⟩ := List.mem_iff_getElem.1 hx
      exact hb j hj (by omega)
    rw [this] at hk
    exact hk
theorem IndexFunc_api_Address_ok (hR : R.Ok) {a : AVal} {l : List Adr} {h : AHeap A} (ha : RdS Adr.row 3 a l h) (hn : l.length ≤ 1000000) {g : FuncId} {cap : List AVal} (ho : callOk Pr g = true) (q : Adr → Bool)
    (hq : ∀ u ∈ l, ∀ K : AVal → AHeap A → Prop, K (.bool (q u)) h → Tri Pr R g ([] ++ ([.agg u.row] ++ cap)) h K) {K : AVal → AHeap A → Prop} (hk : K (.int .i64 (idx1 (l.findIdx? q))) h) : Tri Pr R n_slices_IndexFunc_api_Address [a, .fn (.func g) [] cap] h K := by
  apply c_slices_IndexFunc_api_Address
  unfold p_slices_IndexFunc_api_Address
  simp -implicitDefEqProofs [ha.len]
  refine loopP_go (fun m y g => ∃ i : Nat, y = [.int .i64 i] ∧ g = h ∧ i ≤ l.length ∧ (∀ j (hj : j < l.length), j < i → q l[j] = false) ∧ m = l.length - i) l.length (Gives.done (Nat.le_refl _) ⟨0, rfl, rfl, by omega, fun j _ hj => by omega, by omega⟩) ?_
  rintro m y g2 ⟨i, rfl, rfl, hi, hb, rfl⟩
  have e1 := w64 (n := (i : Int) + 1) (by omega)
  by_cases h1 : i < l.length
  · obtain ⟨p, hp, hat⟩ := ha.get i h1
    have hall : ldV 3 true p g2 = some (.agg l[i].row) := hat.all
    simp -implicitDefEqProofs [h1, hp, hall]
    with_reducible refine dynP_go ho ?_
    refine hq l[i] (List.getElem_mem h1) _ ?_
    by_cases h2 : q l[i] = true
    · simp -implicitDefEqProofs [h2]
      have : l.findIdx? q = some i := by
        rw [List.findIdx?_eq_some_iff_getElem]
        exact ⟨h1, h2, fun j hj => by simp [hb j (by omega) hj]⟩
      rw [this] at hk
      exact hk
    · have h2 : q l[i] = false := by simpa using h2
      simp -implicitDefEqProofs [h2, e1]
      refine Gives.done (Nat.le_refl _) ⟨l.length - (i + 1), by omega, i + 1, by simp, rfl, by omega, fun j hj hji => ?_, rfl⟩
      by_cases hj2 : j = i
      · subst hj2; exact h2
      · exact hb j hj (by omega)
  · simp -implicitDefEqProofs [h1]
    have : l.findIdx? q = none := by
      rw [List.findIdx?_eq_none_iff]
      intro x hx
      obtain ⟨j, hj, rfl⟩ := List.mem_iff_getElem.1 hx
      exact hb j hj (by omega)
    rw [this] at hk
    exact hk
/-- A copy. -/
theorem Clone_api_User_own (hR : R.Ok) {a : AVal} {l : List Usr} (ha : IsFz Usr.row a l) (hn : l.length ≤ 1000000) {h : AHeap A} {K : AVal → AHeap A → Prop}
    (hk : ∀ a' h', Own Usr.row 9 t_api_User a' l h' → (∀ k, k < h.length → h'[k]? = h[k]?) → h.length ≤ h'.length → (∀ b, a'.blk = some b → h.length ≤ b) → K a' h') : Tri Pr R n_slices_Clone_api_User [a] h K := by
  have src := (ha.rd usrR (h ++ [.cells t_api_User []] : AHeap A)).src
  apply c_slices_Clone_api_User
  unfold p_slices_Clone_api_User
  have rest : a.scalar = true → (∀ h : AHeap A, srcOf 9 h a = some (l.length, l.flatMap Usr.row)) → bslP t_api_User 0 [] [] h (fun v2 h => appP t_api_User 9 72 v2 a h fun v3 h => K v3 h) := by
    intro _ hs
    simp -implicitDefEqProofs
    refine app_clone usrR (by omega) (by simp) (hs _) (by omega) ?_
    by_cases h0 : l = []
    · subst h0
      rw [if_pos rfl]
      exact hk _ _ (Own.new usrR (l := []) (by simp) rfl) (fun k hk => by rw [List.getElem?_append_left hk]) (by simp) (fun b hb => by simp [AVal.blk] at hb; omega)
    · rw [if_neg h0]
      refine hk _ _ (Own.new usrR (l := l) (by rw [List.getElem?_append_right (by simp)]; simp) rfl) (fun k hk => ?_) (by simp) (fun b hb => by simp [AVal.blk] at hb; omega)
      rw [List.getElem?_append_left (by simp; omega), List.getElem?_append_left hk]
  rcases ha with ⟨rfl, rfl⟩ | ⟨b, o, cap, rfl⟩ | ⟨rfl, x, rfl⟩
  · simp -implicitDefEqProofs
    exact hk _ _ Own.nil (fun _ _ => rfl) (Nat.le_refl _) (fun b hb => by simp [AVal.blk] at hb)
  · rw [show binP .eql .sl (.lst b o l.length cap (l.flatMap Usr.row)) .nils = fun K => K (.bool false) from rfl]
    simp -implicitDefEqProofs
    simpa using rest rfl (fun h => by simp [srcOf, rows_len usrR])
  · simp -implicitDefEqProofs
    simpa using rest rfl (fun h => rfl)
theorem Clone_api_User_ok (hR : R.Ok) {a : AVal} {l : List Usr} (ha : IsFz Usr.row a l) (hn : l.length ≤ 1000000) {h : AHeap A} {K : AVal → AHeap A → Prop} (hk : ∀ a', IsFz Usr.row a' l → K a' h) : Tri Pr R n_slices_Clone_api_User [a] h K := by
  refine Tri.fzfn hR (fun v => IsFz Usr.row v l) ha.ix ?_ (fun v hv _ => hk v hv)
  refine Clone_api_User_own hR ha hn fun a' h' hown hs hl hbk => ?_
  exact Gives.fzO usrR (V := fun v => [v]) hown (fun b hb blk base spare cs => rfl) (Nat.zero_le _) fun a2 ha2 h2 _ _ => Gives.done (Nat.zero_le _) ⟨_, rfl, ha2, ha2.ix0⟩
/-- A copy. -/
theorem Clone_api_Session_own (hR : R.Ok) {a : AVal} {l : List Ses} (ha : IsFz Ses.row a l) (hn : l.length ≤ 1000000) {h : AHeap A} {K : AVal → AHeap A → Prop}
    (hk : ∀ a' h', Own Ses.row 4 t_api_Session a' l h' → (∀ k, k < h.length → h'[k]? = h[k]?) → h.length ≤ h'.length → (∀ b, a'.blk = some b → h.length ≤ b) → K a' h') : Tri Pr R n_slices_Clone_api_Session [a] h K := by
  have src := (ha.rd sesR (h ++ [.cells t_api_Session []] : AHeap A)).src
  apply c_slices_Clone_api_Session
  unfold p_slices_Clone_api_Session
  have rest : a.scalar = true → (∀ h : AHeap A, srcOf 4 h a = some (l.length, l.flatMap Ses.row)) → bslP t_api_Session 0 [] [] h (fun v2 h => appP t_api_Session 4 32 v2 a h fun v3 h => K v3 h) := by
    intro _ hs
    simp -implicitDefEqProofs
    refine app_clone sesR (by omega) (by simp) (hs _) (by omega) ?_
    by_cases h0 : l = []
    · subst h0
      rw [if_pos rfl]
      exact hk _ _ (Own.new sesR (l := []) (by simp) rfl) (fun k hk => by rw [List.getElem?_append_left hk]) (by simp) (fun b hb => by simp [AVal.blk] at hb; omega)
    · rw [if_neg h0]
      refine hk _ _ (Own.new sesR (l := l) (by rw [List.getElem?_append_right (by simp)]; simp) rfl) (fun k hk => ?_) (by simp) (fun b hb => by simp [AVal.blk] at hb; omega)
      rw [List.getElem?_append_left (by simp; omega), List.getElem?_append_left hk]
  rcases ha with ⟨rfl, rfl⟩ | ⟨b, o, cap, rfl⟩ | ⟨rfl, x, rfl⟩
  · simp -implicitDefEqProofs
    exact hk _ _ Own.nil (fun _ _ => rfl) (Nat.le_refl _) (fun b hb => by simp [AVal.blk] at hb)
  · rw [show binP .eql .sl (.lst b o l.length cap (l.flatMap Ses.row)) .nils = fun K => K (.bool false) from rfl]
    simp -implicitDefEqProofs
    simpa using rest rfl (fun h => by simp [srcOf, rows_len sesR])
  · simp -implicitDefEqProofs
    simpa using rest rfl (fun h => rfl)
theorem Clone_api_Session_ok (hR : R.Ok) {a : AVal} {l : List Ses} (ha : IsFz Ses.row a l) (hn : l.length ≤ 1000000) {h : AHeap A} {K : AVal → AHeap A → Prop} (hk : ∀ a', IsFz Ses.row a' l → K a' h) : Tri Pr R n_slices_Clone_api_Session [a] h K := by
  refine Tri.fzfn hR (fun v => IsFz Ses.row v l) ha.ix ?_ (fun v hv _ => hk v hv)
  refine Clone_api_Session_own hR ha hn fun a' h' hown hs hl hbk => ?_
  exact Gives.fzO sesR (V := fun v => [v]) hown (fun b hb blk base spare cs => rfl) (Nat.zero_le _) fun a2 ha2 h2 _ _ => Gives.done (Nat.zero_le _) ⟨_, rfl, ha2, ha2.ix0⟩
/-- A copy. -/
theorem Clone_api_Address_own (hR : R.Ok) {a : AVal} {l : List Adr} (ha : IsFz Adr.row a l) (hn : l.length ≤ 1000000) {h : AHeap A} {K : AVal → AHeap A → Prop}
    (hk : ∀ a' h', Own Adr.row 3 t_api_Address a' l h' → (∀ k, k < h.length → h'[k]? = h[k]?) → h.length ≤ h'.length → (∀ b, a'.blk = some b → h.length ≤ b) → K a' h') : Tri Pr R n_slices_Clone_api_Address [a] h K := by
  have src := (ha.rd adrR (h ++ [.cells t_api_Address []] : AHeap A)).src
  apply c_slices_Clone_api_Address
  unfold p_slices_Clone_api_Address
  have rest : a.scalar = true → (∀ h : AHeap A, srcOf 3 h a = some (l.length, l.flatMap Adr.row)) → bslP t_api_Address 0 [] [] h (fun v2 h => appP t_api_Address 3 24 v2 a h fun v3 h => K v3 h) := by
    intro _ hs
    simp -implicitDefEqProofs
    refine app_clone adrR (by omega) (by simp) (hs _) (by omega) ?_
    by_cases h0 : l = []
    · subst h0
      rw [if_pos rfl]
      exact hk _ _ (Own.new adrR (l := []) (by simp) rfl) (fun k hk => by rw [List.getElem?_append_left hk]) (by simp) (fun b hb => by simp [AVal.blk] at hb; omega)
    · rw [if_neg h0]
      refine hk _ _ (Own.new adrR (l := l) (by rw [List.getElem?_append_right (by simp)]; simp) rfl) (fun k hk => ?_) (by simp) (fun b hb => by simp [AVal.blk] at hb; omega)
      rw [List.getElem?_append_left (by simp; omega), List.getElem?_append_left hk]
  rcases ha with ⟨rfl, rfl⟩ | ⟨b, o, cap, rfl⟩ | ⟨rfl, x, rfl⟩
  · simp -implicitDefEqProofs
    exact hk _ _ Own.nil (fun _ _ => rfl) (Nat.le_refl _) (fun b hb => by simp [AVal.blk] at hb)
  · rw [show binP .eql .sl (.lst b o l.length cap (l.flatMap Adr.row)) .nils = fun K => K (.bool false) from rfl]
    simp -implicitDefEqProofs
    simpa using rest rfl (fun h => by simp [srcOf, rows_len adrR])
  · simp -implicitDefEqProofs
    simpa using rest rfl (fun h => rfl)
theorem Clone_api_Address_ok (hR : R.Ok) {a : AVal} {l : List Adr} (ha : IsFz Adr.row a l) (hn : l.length ≤ 1000000) {h : AHeap A} {K : AVal → AHeap A → Prop} (hk : ∀ a', IsFz Adr.row a' l → K a' h) : Tri Pr R n_slices_Clone_api_Address [a] h K := by
  refine Tri.fzfn hR (fun v => IsFz Adr.row v l) ha.ix ?_ (fun v hv _ => hk v hv)
  refine Clone_api_Address_own hR ha hn fun a' h' hown hs hl hbk => ?_
  exact Gives.fzO adrR (V := fun v => [v]) hown (fun b hb blk base spare cs => rfl) (Nat.zero_le _) fun a2 ha2 h2 _ _ => Gives.done (Nat.zero_le _) ⟨_, rfl, ha2, ha2.ix0⟩
/-- A copy. -/
theorem Clone_int_own (hR : R.Ok) {a : AVal} {l : List Int} (ha : IsFz iRow a l) (hn : l.length ≤ 1000000) {h : AHeap A} {K : AVal → AHeap A → Prop}
    (hk : ∀ a' h', Own iRow 1 t_int a' l h' → (∀ k, k < h.length → h'[k]? = h[k]?) → h.length ≤ h'.length → (∀ b, a'.blk = some b → h.length ≤ b) → K a' h') : Tri Pr R n_slices_Clone_int [a] h K := by
  have src := (ha.rd intR (h ++ [.cells t_int []] : AHeap A)).src
  apply c_slices_Clone_int
  unfold p_slices_Clone_int
  have rest : a.scalar = true → (∀ h : AHeap A, srcOf 1 h a = some (l.length, l.flatMap iRow)) → bslP t_int 0 [] [] h (fun v2 h => appP t_int 1 8 v2 a h fun v3 h => K v3 h) := by
    intro _ hs
    simp -implicitDefEqProofs
    refine app_clone intR (by omega) (by simp) (hs _) (by omega) ?_
    by_cases h0 : l = []
    · subst h0
      rw [if_pos rfl]
      exact hk _ _ (Own.new intR (l := []) (by simp) rfl) (fun k hk => by rw [List.getElem?_append_left hk]) (by simp) (fun b hb => by simp [AVal.blk] at hb; omega)
    · rw [if_neg h0]
      refine hk _ _ (Own.new intR (l := l) (by rw [List.getElem?_append_right (by simp)]; simp) rfl) (fun k hk => ?_) (by simp) (fun b hb => by simp [AVal.blk] at hb; omega)
      rw [List.getElem?_append_left (by simp; omega), List.getElem?_append_left hk]
  rcases ha with ⟨rfl, rfl⟩ | ⟨b, o, cap, rfl⟩ | ⟨rfl, x, rfl⟩
  · simp -implicitDefEqProofs
    exact hk _ _ Own.nil (fun _ _ => rfl) (Nat.le_refl _) (fun b hb => by simp [AVal.blk] at hb)
  · rw [show binP .eql .sl (.lst b o l.length cap (l.flatMap iRow)) .nils = fun K => K (.bool false) from rfl]
    simp -implicitDefEqProofs
    simpa using rest rfl (fun h => by simp [srcOf, rows_len intR])
  · simp -implicitDefEqProofs
    simpa using rest rfl (fun h => rfl)
theorem Clone_int_ok (hR : R.Ok) {a : AVal} {l : List Int} (ha : IsFz iRow a l) (hn : l.length ≤ 1000000) {h : AHeap A} {K : AVal → AHeap A → Prop} (hk : ∀ a', IsFz iRow a' l → K a' h) : Tri Pr R n_slices_Clone_int [a] h K := by
  refine Tri.fzfn hR (fun v => IsFz iRow v l) ha.ix ?_ (fun v hv _ => hk v hv)
  refine Clone_int_own hR ha hn fun a' h' hown hs hl hbk => ?_
  exact Gives.fzO intR (V := fun v => [v]) hown (fun b hb blk base spare cs => rfl) (Nat.zero_le _) fun a2 ha2 h2 _ _ => Gives.done (Nat.zero_le _) ⟨_, rfl, ha2, ha2.ix0⟩
end Go.AI

/- States: configs, pools, locks. -/
set_option linter.all false
namespace Go.AI
variable {A : Type} {R : Adts A}
theorem state_between_ok (hR : R.Ok) (x lo hi : Int) {h : AHeap A} {K : AVal → AHeap A → Prop} (hk : K (.bool (decide (lo ≤ x ∧ x ≤ hi))) h) : Tri Pr R n_state_between [.int .i64 x, .int .i64 lo, .int .i64 hi] h K := by
  refine Tri.fn1 hR _ rfl rfl ?_ hk
  apply c_state_between
  unfold p_state_between
  by_cases h1 : lo ≤ x
  · by_cases h2 : x ≤ hi
    · have h3 : x ≥ lo := h1
      simp -implicitDefEqProofs [h1, h2, h3]
      rfl
    · have h3 : x ≥ lo := h1
      simp -implicitDefEqProofs [h1, h2, h3]
      rfl
  · have h3 : ¬ x ≥ lo := h1
    simp -implicitDefEqProofs [h1, h3]
    rfl
theorem state_life_ok (hR : R.Ok) {a : AVal} {l : List Int} {h : AHeap A} (ha : RdS iRow 1 a l h) (hn : l.length ≤ 100) {K : AVal → AHeap A → Prop} (hk : K (.bool (l.all life)) h) : Tri Pr R n_state_life [a] h K := by
  apply c_state_life
  unfold p_state_life
  simp -implicitDefEqProofs [ha.len]
  refine loopP_go (fun m y g => ∃ i : Nat, y = [.int .i64 i] ∧ g = h ∧ i ≤ l.length ∧ (∀ j (hj : j < l.length), j < i → life l[j] = true) ∧ m = l.length - i) l.length (Gives.done (Nat.le_refl _) ⟨0, rfl, rfl, by omega, fun j _ hj => by omega, by omega⟩) ?_
  rintro m y g2 ⟨i, rfl, rfl, hi, hb, rfl⟩
  have e1 := w64 (n := (i : Int) + 1) (by omega)
  by_cases h1 : i < l.length
  · obtain ⟨p, hp, hat⟩ := ha.get i h1
    have hall := hat.cell 0 (by simp [iRow])
    have hp0 : ∀ p : AVal, At p (iRow l[i]) g2 → ldV 1 false p g2 = some (.int .i64 l[i]) := by
      intro p hat
      have := hat.cell 0 (by simp [iRow])
      have h9 : ldV 1 false (p.fad 0) g2 = ldV 1 false p g2 := by cases p <;> simp [AVal.fad, ldV]
      rw [h9] at this
      simpa [iRow] using this
    have hl0 := hp0 p hat
    by_cases h2 : l[i] < 1
    · simp -implicitDefEqProofs [h1, hp, hl0, h2]
      have : l.all life = false := by
        rw [Bool.eq_false_iff]; intro hc; rw [List.all_eq_true] at hc
        have := hc l[i] (List.getElem_mem h1); simp [life] at this; omega
      rw [this] at hk; exact hk
    · by_cases h3 : 65536 < l[i]
      · have h4 : l[i] > 65536 := h3
        simp -implicitDefEqProofs [h1, hp, hl0, h2, h3, h4]
        have : l.all life = false := by
          rw [Bool.eq_false_iff]; intro hc; rw [List.all_eq_true] at hc
          have := hc l[i] (List.getElem_mem h1); simp [life] at this; omega
        rw [this] at hk; exact hk
      · have h4 : ¬ l[i] > 65536 := h3
        simp -implicitDefEqProofs [h1, hp, hl0, h2, h3, h4, e1]
        refine Gives.done (Nat.le_refl _) ⟨l.length - (i + 1), by omega, i + 1, by simp, rfl, by omega, fun j hj hji => ?_, rfl⟩
        by_cases hj2 : j = i
        · subst hj2; simp [life]; omega
        · exact hb j hj (by omega)
  · simp -implicitDefEqProofs [h1]
    have : l.all life = true := by
      rw [List.all_eq_true]
      intro x hx
      obtain ⟨j, hj, rfl⟩ := List.mem_iff_getElem.1 hx
      exact hb j hj (by omega)
    rw [this] at hk
    exact hk
def JC (c : Cfg) (e : TypeId) (vs : List AVal) (g : AHeap A) : Prop := vs = [.bool (cMay c)] ∧ ∃ t, g = .cells e c.row :: t
theorem state_ConfigMay_ok (hR : R.Ok) (c : Cfg) {e : TypeId} {h : AHeap A} {b : Nat} (hb : h[b]? = some (.cells e c.row)) {K : AVal → AHeap A → Prop} (hk : K (.bool (cMay c)) h) : Tri Pr R n_state_ConfigMay [.ptr b 0] h K := by
  have hc : ∀ τ, (AObj.cells e c.row : AObj A).ren R τ = .cells e c.row := fun τ => by simp [AObj.ren, rens_ix0 τ c.row rfl]
  refine Tri.own hR (as2 := [.ptr 0 0]) (o := .cells e c.row) (Q := fun v o => v = .bool (cMay c) ∧ o = .cells e c.row) rfl (by show ixs 1 c.row = true; rfl) (by rintro _ _ ⟨rfl, rfl⟩; exact ⟨rfl, hc⟩) hc ?_ hb (by simp [rens, AVal.ren]) (by rintro _ _ ⟨rfl, rfl⟩; rw [set_same hb]; exact hk)
  refine Tri.post ?_
  apply c_state_ConfigMay
  unfold p_state_ConfigMay
  refine joinP_all (JC c e) ?_ ?_
  · simp -implicitDefEqProofs [Cfg.row]
    refine state_between_ok hR _ _ _ ?_
    by_cases h0 : 3 ≤ c.sectors ∧ c.sectors ≤ 256
    case neg =>
      have e0 : decide (3 ≤ c.sectors ∧ c.sectors ≤ 256) = false := by simpa using h0
      rw [e0]
      simp -implicitDefEqProofs
      exact ⟨by simp only [cMay, e0, Bool.false_and, Bool.and_false], _, rfl⟩
    have e0 : decide (3 ≤ c.sectors ∧ c.sectors ≤ 256) = true := by simpa using h0
    rw [e0]
    simp -implicitDefEqProofs
    refine state_between_ok hR _ _ _ ?_
    by_cases h1 : 1 ≤ c.halves ∧ c.halves ≤ 8
    case neg =>
      have e1 : decide (1 ≤ c.halves ∧ c.halves ≤ 8) = false := by simpa using h1
      rw [e1]
      simp -implicitDefEqProofs
      exact ⟨by simp only [cMay, e1, Bool.false_and, Bool.and_false], _, rfl⟩
    have e1 : decide (1 ≤ c.halves ∧ c.halves ≤ 8) = true := by simpa using h1
    rw [e1]
    simp -implicitDefEqProofs
    refine state_between_ok hR _ _ _ ?_
    by_cases h2 : 1 ≤ c.sessions ∧ c.sessions ≤ 8
    case neg =>
      have e2 : decide (1 ≤ c.sessions ∧ c.sessions ≤ 8) = false := by simpa using h2
      rw [e2]
      simp -implicitDefEqProofs
      exact ⟨by simp only [cMay, e2, Bool.false_and, Bool.and_false], _, rfl⟩
    have e2 : decide (1 ≤ c.sessions ∧ c.sessions ≤ 8) = true := by simpa using h2
    rw [e2]
    simp -implicitDefEqProofs
    refine state_between_ok hR _ _ _ ?_
    by_cases h3 : 1 ≤ c.addresses ∧ c.addresses ≤ 16
    case neg =>
      have e3 : decide (1 ≤ c.addresses ∧ c.addresses ≤ 16) = false := by simpa using h3
      rw [e3]
      simp -implicitDefEqProofs
      exact ⟨by simp only [cMay, e3, Bool.false_and, Bool.and_false], _, rfl⟩
    have e3 : decide (1 ≤ c.addresses ∧ c.addresses ≤ 16) = true := by simpa using h3
    rw [e3]
    simp -implicitDefEqProofs
    refine state_between_ok hR _ _ _ ?_
    by_cases h4 : 1 ≤ c.fails ∧ c.fails ≤ 8
    case neg =>
      have e4 : decide (1 ≤ c.fails ∧ c.fails ≤ 8) = false := by simpa using h4
      rw [e4]
      simp -implicitDefEqProofs
      exact ⟨by simp only [cMay, e4, Bool.false_and, Bool.and_false], _, rfl⟩
    have e4 : decide (1 ≤ c.fails ∧ c.fails ≤ 8) = true := by simpa using h4
    rw [e4]
    simp -implicitDefEqProofs
    refine state_between_ok hR _ _ _ ?_
    by_cases h5 : 0 ≤ c.keep ∧ c.keep ≤ 4
    case neg =>
      have e5 : decide (0 ≤ c.keep ∧ c.keep ≤ 4) = false := by simpa using h5
      rw [e5]
      simp -implicitDefEqProofs
      exact ⟨by simp only [cMay, e5, Bool.false_and, Bool.and_false], _, rfl⟩
    have e5 : decide (0 ≤ c.keep ∧ c.keep ≤ 4) = true := by simpa using h5
    rw [e5]
    simp -implicitDefEqProofs
    refine state_life_ok hR (l := [c.lockout, c.halfLife, c.idle, c.absolute, c.quarantine, c.ticketLife]) ((Own.new intR (e := t_int) (b := 1) (cap := 6) (ex := true) (by rfl) rfl).rd intR) (by simp) ?_
    refine ⟨?_, _, rfl⟩
    simp only [cMay, e0, e1, e2, e3, e4, e5, List.all_cons, List.all_nil, Bool.true_and, Bool.and_true, Bool.and_assoc]
  · rintro _ g ⟨rfl, t, rfl⟩
    refine ⟨by simp, ?_⟩
    simp -implicitDefEqProofs
    exact Gives.cut hR (m := 1) (Nat.le_refl _) (by simp) rfl (by simp; exact low_cells rfl) ⟨_, rfl, _, ⟨rfl, rfl⟩, rfl⟩
/-! Pools. -/
theorem pool_userMay_ok (x : Int) {h : AHeap A} {K : AVal → AHeap A → Prop} (hk : K (.bool (decide (0 ≤ x ∧ x < 8))) h) : Tri Pr R n_pool_userMay [.int .i64 x] h K := by
  apply c_pool_userMay
  unfold p_pool_userMay
  by_cases h1 : 0 ≤ x
  · have h3 : x ≥ 0 := h1
    by_cases h2 : x < 8
    · simp only [h1, h2, and_self, decide_true] at hk; simp -implicitDefEqProofs [h1, h2]; exact hk
    · simp only [h1, h2, and_false, decide_false] at hk; simp -implicitDefEqProofs [h1, h2]; exact hk
  · simp only [h1, false_and, decide_false] at hk; simp -implicitDefEqProofs [h1]; exact hk
theorem pool_may_c1_ok (hR : R.Ok) (a : Adr) {h : AHeap A} {K : AVal → AHeap A → Prop} (hk : K (.bool (!adMay a)) h) : Tri Pr R n_pool_may_c1 [.agg a.row] h K := by
  refine Tri.fn1 hR _ rfl rfl ?_ hk
  apply c_pool_may_c1
  unfold p_pool_may_c1
  by_cases h1 : a.last = -1
  · have h1' : (a.last != -1) = false := by simp [h1]
    by_cases h3 : a.unt < 0
    · simp -implicitDefEqProofs [Adr.row, h1, h3]
      exact Ans.of (by congr 1; symm; simp [adMay]; omega)
    · simp -implicitDefEqProofs [Adr.row, h1, h3]
      exact Ans.of (by congr 1; symm; simp [adMay]; omega)
  · have h1' : (a.last != -1) = true := by simpa using h1
    simp -implicitDefEqProofs [Adr.row, h1']
    refine pool_userMay_ok _ ?_
    by_cases h2 : 0 ≤ a.last ∧ a.last < 8
    · have e2 : decide (0 ≤ a.last ∧ a.last < 8) = true := by simpa using h2
      rw [e2]
      by_cases h3 : a.unt < 0
      · simp -implicitDefEqProofs [h3]
        exact Ans.of (by congr 1; symm; simp [adMay]; omega)
      · simp -implicitDefEqProofs [h3]
        exact Ans.of (by congr 1; symm; simp [adMay]; omega)
    · have e2 : decide (0 ≤ a.last ∧ a.last < 8) = false := by simpa using h2
      rw [e2]
      simp -implicitDefEqProofs
      exact Ans.of (by congr 1; symm; simp [adMay]; omega)
theorem pool_may_ok (hR : R.Ok) {a : AVal} {l : List Adr} (ha : IsFz Adr.row a l) (hn : l.length ≤ 1000000) {h : AHeap A} {K : AVal → AHeap A → Prop} (hk : K (.bool (poolMay l)) h) : Tri Pr R n_pool_may [a] h K := by
  have rd := ha.rd adrR h
  apply c_pool_may
  unfold p_pool_may
  by_cases h1 : 1 ≤ l.length
  · have h1' : (l.length : Int) ≥ 1 := by omega
    by_cases h2 : l.length ≤ 16
    · have h2' : (l.length : Int) ≤ 16 := by omega
      simp -implicitDefEqProofs [rd.len, h1', h2']
      apply c_slices_ContainsFunc_api_Address
      unfold p_slices_ContainsFunc_api_Address
      refine IndexFunc_api_Address_ok hR rd hn (by kernel_rfl) (fun a => !adMay a) (fun u _ K hK => pool_may_c1_ok hR u hK) ?_
      have e : (decide (idx1 (l.findIdx? fun a => !adMay a) ≥ 0)) = !(poolMay l) := by
        unfold poolMay
        have e0 : decide (1 ≤ l.length ∧ l.length ≤ 16) = true := by simp; omega
        rw [e0, Bool.true_and]
        cases hf : l.findIdx? fun a => !adMay a with
        | none =>
          rw [List.findIdx?_eq_none_iff] at hf
          have : l.all adMay = true := List.all_eq_true.2 fun x hx => by simpa using hf x hx
          rw [this]; rfl
        | some i =>
          rw [List.findIdx?_eq_some_iff_getElem] at hf
          obtain ⟨hi, hq, _⟩ := hf
          have : l.all adMay = false := by
            rw [Bool.eq_false_iff]; intro hc; rw [List.all_eq_true] at hc
            rw [hc _ (List.getElem_mem hi)] at hq; simp at hq
          rw [this]; simp [idx1]
      simp -implicitDefEqProofs
      rw [e]
      simp -implicitDefEqProofs
      exact hk
    · have h2' : ¬ (l.length : Int) ≤ 16 := by omega
      have e : poolMay l = false := by simp [poolMay, h2]
      rw [e] at hk
      simp -implicitDefEqProofs [rd.len, h1', h2']
      exact hk
  · have h1' : ¬ (l.length : Int) ≥ 1 := by omega
    have e : poolMay l = false := by simp [poolMay, h1]
    rw [e] at hk
    simp -implicitDefEqProofs [rd.len, h1']
    exact hk
theorem pool_there_ok {a : AVal} {l : List Adr} (ha : IsFz Adr.row a l) (x : Int) {h : AHeap A} {K : AVal → AHeap A → Prop} (hk : K (.bool (decide (0 ≤ x ∧ x < l.length))) h) : Tri Pr R n_pool_there [a, .int .i64 x] h K := by
  have rd := ha.rd adrR h
  apply c_pool_there
  unfold p_pool_there
  by_cases h1 : 0 ≤ x
  · by_cases h2 : x < l.length
    · simp only [h1, h2, and_self, decide_true] at hk; simp -implicitDefEqProofs [h1, h2, rd.len]; exact hk
    · simp only [h1, h2, and_false, decide_false] at hk; simp -implicitDefEqProofs [h1, h2, rd.len]; exact hk
  · simp only [h1, false_and, decide_false] at hk; simp -implicitDefEqProofs [h1]; exact hk
end Go.AI

/- States: pools that are turned, locks. -/
set_option linter.all false
namespace Go.AI
variable {A : Type} {R : Adts A}
theorem pool_with_ok (hR : R.Ok) {a : AVal} {l : List Adr} (ha : IsFz Adr.row a l) (hn : l.length ≤ 1000000) {i : Int} (h0 : 0 ≤ i) (h1 : i < l.length) (x : Adr) {h : AHeap A} {K : AVal → AHeap A → Prop} (hk : ∀ a', IsFz Adr.row a' (l.set i.toNat x) → K a' h) : Tri Pr R n_pool_with [a, .int .i64 i, .agg x.row] h K := by
  have hax : ixs 0 [a, .int .i64 i, .agg x.row] = true := by
    have := ha.ix; simp only [ixs, Bool.and_true] at this ⊢; rw [this]; rfl
  refine Tri.fzfn hR (fun v => IsFz Adr.row v (l.set i.toNat x)) hax ?_ (fun v hv _ => hk v hv)
  obtain ⟨k, rfl⟩ : ∃ k : Nat, i = k := ⟨i.toNat, by omega⟩
  have hkl : k < l.length := by omega
  simp only [Int.toNat_natCast] at *
  apply c_pool_with
  unfold p_pool_with
  simp -implicitDefEqProofs [Adr.row]
  refine Clone_api_Address_own hR ha hn fun a' h' hown hs hl hbk => ?_
  obtain ⟨b, hb, hix, hat⟩ := hown.el adrR hkl
  have hbox : h'[0]? = some (.cells t_api_Address [.bool x.busy, .int .i64 x.last, .int .i64 x.unt]) := (hs 0 (by simp)).trans rfl
  simp -implicitDefEqProofs [hbox, AObj.read, hix]
  refine hown.sth adrR hkl hb (off := 0) (o := k * 3) (c := [.bool x.busy, .int .i64 x.last, .int .i64 x.unt]) x rfl (by simp) rfl rfl fun h2 hown2 _ _ => ?_
  exact Gives.fzO adrR (V := fun v => [v]) hown2 (fun b hb blk base spare cs => rfl) (Nat.zero_le _) fun a2 ha2 h3 _ _ => Gives.done (Nat.zero_le _) ⟨_, rfl, ha2, ha2.ix0⟩
theorem adr_get {l : List Adr} {i : Nat} (hi : i < l.length) : l.getD i adr0 = l[i] := by rw [List.getD_eq_getElem?_getD, List.getElem?_eq_getElem hi]; rfl
/-- What Free answers. -/
def pAns (o : Option (List Adr)) (K : AVal → AHeap A → Prop) (h : AHeap A) : Prop :=
  match o with
  | some l => ∀ a', IsFz Adr.row a' l → K (.tup [a', .int .i64 0]) h
  | none => K (.tup [.nils, .int .i64 1600]) h
theorem pool_Free_ok (hR : R.Ok) {a : AVal} {l : List Adr} (ha : IsFz Adr.row a l) (hn : l.length ≤ 1000000) (i u : Int) {h : AHeap A} {K : AVal → AHeap A → Prop} (hk : pAns (pFree l i u) K h) : Tri Pr R n_pool_Free [a, .int .i64 i, .int .i64 u] h K := by
  have rd := ha.rd adrR h
  apply c_pool_Free
  unfold p_pool_Free
  refine pool_may_ok hR ha hn ?_
  by_cases h1 : poolMay l = true
  · rw [h1]
    simp -implicitDefEqProofs
    refine pool_there_ok ha i ?_
    by_cases h2 : 0 ≤ i ∧ i < l.length
    · have e2 : decide (0 ≤ i ∧ i < (l.length : Int)) = true := by simpa using h2
      rw [e2]
      obtain ⟨k, rfl⟩ : ∃ k : Nat, i = k := ⟨i.toNat, by omega⟩
      have hkl : k < l.length := by omega
      obtain ⟨p, hp, hat⟩ := rd.get k hkl
      have c0 := hat.cell 0 (by simp [Adr.row])
      have c1 := hat.cell 1 (by simp [Adr.row])
      simp only [Adr.row, List.getElem_cons_zero, List.getElem_cons_succ] at c0 c1
      have eg : l.getD k adr0 = l[k] := adr_get hkl
      simp -implicitDefEqProofs [hp, hat.fad, c0]
      by_cases h3 : l[k].busy = true
      · rw [h3]
        by_cases h4 : u < 0
        · have e : pFree l k u = none := by unfold pFree; rw [if_neg]; rintro ⟨_, _, _, _, h⟩; omega
          rw [e] at hk
          simp -implicitDefEqProofs [h4]
          exact hk
        · have e : pFree l k u = some (l.set k ⟨false, l[k].last, u⟩) := by
            unfold pFree; rw [if_pos ⟨h1, by omega, by omega, by rw [Int.toNat_natCast, eg]; exact h3, by omega⟩, Int.toNat_natCast, eg]
          rw [e] at hk
          simp -implicitDefEqProofs [h4, hp, hat.fad, c1]
          refine pool_with_ok hR ha hn (by omega) (by omega) ⟨false, l[k].last, u⟩ fun a' ha' => ?_
          exact hk a' (by simpa using ha')
      · have h3' : l[k].busy = false := by simpa using h3
        have e : pFree l k u = none := by unfold pFree; rw [if_neg]; rintro ⟨_, _, _, h, _⟩; rw [Int.toNat_natCast, eg, h3'] at h; simp at h
        rw [e] at hk
        simp -implicitDefEqProofs [h3']
        exact hk
    · have e2 : decide (0 ≤ i ∧ i < (l.length : Int)) = false := by simpa using h2
      have e : pFree l i u = none := by unfold pFree; rw [if_neg]; rintro ⟨_, h, h', _⟩; exact h2 ⟨h, h'⟩
      rw [e2]
      rw [e] at hk
      simp -implicitDefEqProofs
      exact hk
  · have h1' : poolMay l = false := by simpa using h1
    have e : pFree l i u = none := by unfold pFree; rw [if_neg]; rintro ⟨h, _⟩; exact h1 h
    rw [e] at hk
    rw [h1']
    simp -implicitDefEqProofs
    exact hk
theorem pool_Take_ok (hR : R.Ok) {a : AVal} {l : List Adr} (ha : IsFz Adr.row a l) (hn : l.length ≤ 1000000) (i u : Int) {h : AHeap A} {K : AVal → AHeap A → Prop} (hk : pAns (pTake l i u) K h) : Tri Pr R n_pool_Take [a, .int .i64 i, .int .i64 u] h K := by
  have rd := ha.rd adrR h
  apply c_pool_Take
  unfold p_pool_Take
  refine pool_may_ok hR ha hn ?_
  by_cases h1 : poolMay l = true
  · rw [h1]
    simp -implicitDefEqProofs
    refine pool_userMay_ok _ ?_
    by_cases h4 : 0 ≤ u ∧ u < 8
    · have e4 : decide (0 ≤ u ∧ u < 8) = true := by simpa using h4
      rw [e4]
      simp -implicitDefEqProofs
      refine pool_there_ok ha i ?_
      by_cases h2 : 0 ≤ i ∧ i < l.length
      · have e2 : decide (0 ≤ i ∧ i < (l.length : Int)) = true := by simpa using h2
        rw [e2]
        obtain ⟨k, rfl⟩ : ∃ k : Nat, i = k := ⟨i.toNat, by omega⟩
        have hkl : k < l.length := by omega
        obtain ⟨p, hp, hat⟩ := rd.get k hkl
        have c0 := hat.cell 0 (by simp [Adr.row])
        simp only [Adr.row, List.getElem_cons_zero] at c0
        have eg : l.getD k adr0 = l[k] := adr_get hkl
        simp -implicitDefEqProofs [hp, hat.fad, c0]
        by_cases h3 : l[k].busy = true
        · have e : pTake l k u = none := by unfold pTake; rw [if_neg]; rintro ⟨_, _, _, _, _, h⟩; rw [Int.toNat_natCast, eg, h3] at h; simp at h
          rw [e] at hk
          simp -implicitDefEqProofs [h3]
          exact hk
        · have h3' : l[k].busy = false := by simpa using h3
          have e : pTake l k u = some (l.set k ⟨true, u, 0⟩) := by
            unfold pTake; rw [if_pos ⟨h1, h4.1, h4.2, by omega, by omega, by rw [Int.toNat_natCast, eg]; exact h3'⟩, Int.toNat_natCast]
          rw [e] at hk
          simp -implicitDefEqProofs [h3']
          refine pool_with_ok hR ha hn (by omega) (by omega) ⟨true, u, 0⟩ fun a' ha' => ?_
          exact hk a' (by simpa using ha')
      · have e2 : decide (0 ≤ i ∧ i < (l.length : Int)) = false := by simpa using h2
        have e : pTake l i u = none := by unfold pTake; rw [if_neg]; rintro ⟨_, _, _, h, h', _⟩; exact h2 ⟨h, h'⟩
        rw [e2]
        rw [e] at hk
        simp -implicitDefEqProofs
        exact hk
    · have e4 : decide (0 ≤ u ∧ u < 8) = false := by simpa using h4
      have e : pTake l i u = none := by unfold pTake; rw [if_neg]; rintro ⟨_, h, h', _⟩; exact h4 ⟨h, h'⟩
      rw [e4]
      rw [e] at hk
      simp -implicitDefEqProofs
      exact hk
  · have h1' : poolMay l = false := by simpa using h1
    have e : pTake l i u = none := by unfold pTake; rw [if_neg]; rintro ⟨h, _⟩; exact h1 h
    rw [e] at hk
    rw [h1']
    simp -implicitDefEqProofs
    exact hk
/-! Locks. -/
theorem lock_Open_ok (hR : R.Ok) (f u x : Int) {h : AHeap A} {K : AVal → AHeap A → Prop} (hk : K (.bool (decide (u ≤ x))) h) : Tri Pr R n_lock_Open [.agg [.int .i64 f, .int .i64 u], .int .i64 x] h K := by
  refine Tri.fn1 hR _ rfl rfl ?_ hk
  apply c_lock_Open
  unfold p_lock_Open
  simp -implicitDefEqProofs
  exact Ans.of (by congr 1)
def kAns (o : Option (Int × Int)) : AVal :=
  match o with
  | some k => .tup [.agg [.int .i64 k.1, .int .i64 k.2], .int .i64 0]
  | none => .tup [.agg [.int .i64 0, .int .i64 0], .int .i64 1300]
theorem lock_Fail_ok (hR : R.Ok) (f u tick most out : Int) {h : AHeap A} {K : AVal → AHeap A → Prop} (hk : K (kAns (kFail f u tick most out)) h) : Tri Pr R n_lock_Fail [.agg [.int .i64 f, .int .i64 u], .int .i64 tick, .int .i64 most, .int .i64 out] h K := by
  refine Tri.fn1 hR _ (by unfold kAns; split <;> rfl) rfl ?_ hk
  apply c_lock_Fail
  unfold p_lock_Fail
  by_cases g1 : f < 0
  · simp -implicitDefEqProofs [g1]
    exact Ans.of (by unfold kFail; rw [if_pos (by omega)]; rfl)
  by_cases g2 : 8 < f
  · have g2' : f > 8 := g2
    simp -implicitDefEqProofs [g1, g2']
    exact Ans.of (by unfold kFail; rw [if_pos (by omega)]; rfl)
  by_cases g3 : u < 0
  · have g2' : ¬ f > 8 := g2
    simp -implicitDefEqProofs [g1, g2', g3]
    exact Ans.of (by unfold kFail; rw [if_pos (by omega)]; rfl)
  by_cases g4 : 1114111 < u
  · have g2' : ¬ f > 8 := g2
    have g4' : u > 1114111 := g4
    simp -implicitDefEqProofs [g1, g2', g3, g4']
    exact Ans.of (by unfold kFail; rw [if_pos (by omega)]; rfl)
  have g2' : ¬ f > 8 := g2
  have g4' : ¬ u > 1114111 := g4
  simp -implicitDefEqProofs [g1, g2', g3, g4']
  refine totp_TickMay_ok _ ?_
  by_cases g5 : 0 ≤ tick ∧ tick ≤ 1048575
  case neg =>
    have e5 : tMay tick = false := by simpa [tMay] using g5
    rw [e5]
    simp -implicitDefEqProofs
    exact Ans.of (by unfold kFail; rw [if_pos (by omega)]; rfl)
  have e5 : tMay tick = true := by simpa [tMay] using g5
  rw [e5]
  by_cases g6 : most < 1
  · simp -implicitDefEqProofs [g6]
    exact Ans.of (by unfold kFail; rw [if_pos (by omega)]; rfl)
  by_cases g7 : 8 < most
  · have g7' : most > 8 := g7
    simp -implicitDefEqProofs [g6, g7']
    exact Ans.of (by unfold kFail; rw [if_pos (by omega)]; rfl)
  have g7' : ¬ most > 8 := g7
  by_cases g8 : out < 1
  · simp -implicitDefEqProofs [g6, g7', g8]
    exact Ans.of (by unfold kFail; rw [if_pos (by omega)]; rfl)
  by_cases g9 : 65536 < out
  · have g9' : out > 65536 := g9
    simp -implicitDefEqProofs [g6, g7', g8, g9']
    exact Ans.of (by unfold kFail; rw [if_pos (by omega)]; rfl)
  have g9' : ¬ out > 65536 := g9
  simp -implicitDefEqProofs [g6, g7', g8, g9']
  refine lock_Open_ok hR _ _ _ ?_
  by_cases g10 : u ≤ tick
  case neg =>
    have e10 : decide (u ≤ tick) = false := by simpa using g10
    rw [e10]
    simp -implicitDefEqProofs
    exact Ans.of (by unfold kFail; rw [if_pos (by omega)]; rfl)
  have e10 : decide (u ≤ tick) = true := by simpa using g10
  rw [e10]
  simp -implicitDefEqProofs
  have ek : kFail f u tick most out = some (if most ≤ f then 1 else f + 1, if (if most ≤ f then 1 else f + 1) = most then tick + out else u) := by
    unfold kFail; rw [if_neg (by omega)]
  refine joinP_all (fun vs g => vs = [] ∧ g = [.cells t_api_Lock [.int .i64 (if most ≤ f then 0 else f), .int .i64 u], .cells t_api_Lock [.int .i64 0, .int .i64 0]]) ?_ ?_
  · by_cases g11 : most ≤ f
    · have g11' : f ≥ most := g11
      simp -implicitDefEqProofs [g11']
      all_goals exact ⟨rfl, by simp [g11]⟩
    · have g11' : ¬ f ≥ most := g11
      simp -implicitDefEqProofs [g11']
      all_goals exact ⟨rfl, by simp [g11]⟩
  · rintro _ g ⟨rfl, rfl⟩
    refine ⟨by simp, ?_⟩
    have e1 := w64 (n := (if most ≤ f then 0 else f) + 1) (by split <;> omega)
    simp -implicitDefEqProofs [e1]
    refine joinP_all (fun vs g => vs = [] ∧ g = [.cells t_api_Lock [.int .i64 ((if most ≤ f then 0 else f) + 1), .int .i64 (if (if most ≤ f then 1 else f + 1) = most then tick + out else u)], .cells t_api_Lock [.int .i64 0, .int .i64 0]]) ?_ ?_
    · have e2 := w64 (n := tick + out) (by omega)
      have e3 : (if most ≤ f then 0 else f) + 1 = (if most ≤ f then 1 else f + 1) := by split <;> omega
      rw [e3]
      by_cases g12 : (if most ≤ f then 1 else f + 1) = most
      · simp -implicitDefEqProofs [g12, e2]
        all_goals exact ⟨rfl, rfl⟩
      · have g12' : ((if most ≤ f then 1 else f + 1) == most) = false := by simpa using g12
        simp -implicitDefEqProofs [g12', g12]
        all_goals exact ⟨rfl, rfl⟩
    · rintro _ g ⟨rfl, rfl⟩
      refine ⟨by simp, ?_⟩
      have e3 : (if most ≤ f then 0 else f) + 1 = (if most ≤ f then 1 else f + 1) := by split <;> omega
      simp -implicitDefEqProofs
      exact Ans.of (by rw [ek, e3]; rfl)
end Go.AI

/- States: copies, users and sessions that are found, addresses that are let free. -/
set_option linter.all false
namespace Go.AI
variable {A : Type} {R : Adts A}
theorem sc_cs {v : AVal} (h : v.scalar = true) : v.cs = [v] := by cases v <;> simp [AVal.scalar] at h <;> rfl
/-- A state's value. -/
structure IsSta (sv : AVal) (s : Sta) : Prop where
  ex : ∃ u x a p, sv = .agg [.int .i64 s.boots, .int .i64 s.epoch, .int .i64 s.next, u, x, a, p] ∧ IsFz Usr.row u s.users ∧ IsFz Ses.row x s.sess ∧ IsFz Adr.row a s.addrs ∧ IsFz iRow p s.spent
theorem sta0_is : IsSta (.agg [.int .i64 0, .int .i64 0, .int .i64 0, .nils, .nils, .nils, .nils]) sta0 := ⟨_, _, _, _, rfl, IsFz.nil, IsFz.nil, IsFz.nil, IsFz.nil⟩
theorem IsSta.ix {sv : AVal} {s : Sta} (h : IsSta sv s) : sv.ix 0 = true := by
  obtain ⟨u, x, a, p, rfl, h1, h2, h3, h4⟩ := h
  simp [AVal.ix, ixs, h1.ix0, h2.ix0, h3.ix0, h4.ix0]
/-- Slices are no longer than that. -/
structure StaLe (s : Sta) (n : Nat) : Prop where
  u : s.users.length ≤ n
  x : s.sess.length ≤ n
  a : s.addrs.length ≤ n
  p : s.spent.length ≤ n
/-- What a copy yields. -/
structure CopyAt (L : Nat) (h : AHeap A) (s : Sta) (xu xs xa xp : AVal) : Prop where
  u : Own Usr.row 9 t_api_User xu s.users h
  x : Own Ses.row 4 t_api_Session xs s.sess h
  a : IsFz Adr.row xa s.addrs
  p : Own iRow 1 t_int xp s.spent h
  bu : ∀ b, xu.blk = some b → L ≤ b
  bx : ∀ b, xs.blk = some b → L ≤ b
  bp : ∀ b, xp.blk = some b → L ≤ b
  ux : ∀ b, xu.blk = some b → xs.blk ≠ some b
  up : ∀ b, xu.blk = some b → xp.blk ≠ some b
  xp : ∀ b, xs.blk = some b → xp.blk ≠ some b
theorem Own.blt {α : Type} {f : α → List AVal} {w : Nat} {e : TypeId} {a : AVal} {l : List α} {h : AHeap A} (ha : Own f w e a l h) {b : Nat} (hb : a.blk = some b) : b < h.length := by
  obtain ⟨cs, hc⟩ := ha.at hb; exact (List.getElem?_eq_some_iff.1 hc).1
theorem state_Copy_ok (hR : R.Ok) {sv : AVal} {s : Sta} (hs : IsSta sv s) {n : Nat} (hn : StaLe s n) (hn2 : n ≤ 1000000) {h : AHeap A} {K : AVal → AHeap A → Prop}
    (hk : ∀ xu xs xa xp h', CopyAt h.length h' s xu xs xa xp → (∀ k, k < h.length → h'[k]? = h[k]?) → h.length ≤ h'.length → K (.agg [.int .i64 s.boots, .int .i64 s.epoch, .int .i64 s.next, xu, xs, xa, xp]) h') : Tri Pr R n_state_Copy [sv] h K := by
  obtain ⟨u, x, a, p, rfl, hu, hx, ha, hp⟩ := hs
  obtain ⟨n1, n2, n3, n4⟩ := hn
  have su := hu.sc
  have sx := hx.sc
  have sa := ha.sc
  have sp := hp.sc
  apply c_state_Copy
  unfold p_state_Copy
  simp -implicitDefEqProofs [su, sx, sa, sp]
  refine Clone_api_User_own hR hu (by omega) fun u' h1 o1 f1 l1 b1 => ?_
  have su' := o1.sc
  have cu' := sc_cs su'
  simp only [List.length_append, List.length_cons, List.length_nil] at f1 l1 b1
  have q0 : h1[h.length]? = some (.cells t_api_State [.int .i64 s.boots, .int .i64 s.epoch, .int .i64 s.next, u, x, a, p]) := (f1 _ (by omega)).trans (by simp)
  have q1 : h1[h.length + 1]? = some (.cells t_api_State [.int .i64 0, .int .i64 0, .int .i64 0, .nils, .nils, .nils, .nils]) := (f1 _ (by omega)).trans (by simp)
  simp -implicitDefEqProofs [q0, AObj.read]
  refine Clone_api_Session_own hR hx (by omega) fun x' h2 o2 f2 l2 b2 => ?_
  have sx' := o2.sc
  have cx' := sc_cs sx'
  have q0 := (f2 _ (by omega)).trans q0
  have q1 := (f2 _ (by omega)).trans q1
  have w1 : h.length < h2.length := by omega
  have r1 : ∀ o, (h2.set h.length o)[h.length]? = some o := fun o => List.getElem?_set_self w1
  simp -implicitDefEqProofs [q0, AObj.read, su', cu', sx', cx', r1]
  obtain ⟨h3, hh3⟩ : ∃ h3, h3 = (h2.set h.length (.cells t_api_State [.int .i64 s.boots, .int .i64 s.epoch, .int .i64 s.next, u', x', a, p])) := ⟨_, rfl⟩
  rw [← hh3]
  have q0 : h3[h.length]? = some (.cells t_api_State [.int .i64 s.boots, .int .i64 s.epoch, .int .i64 s.next, u', x', a, p]) := by rw [hh3, List.getElem?_set_self w1]
  have k3 : ∀ k, k ≠ h.length → h3[k]? = h2[k]? := fun k hk => by rw [hh3, List.getElem?_set_ne (Ne.symm hk)]
  have l3 : h3.length = h2.length := by rw [hh3, List.length_set]
  have q1 := (k3 _ (by omega)).trans q1
  clear hh3
  refine Clone_api_Address_ok hR ha (by omega) fun a' ha' => ?_
  have sa' := ha'.sc
  have ca' := sc_cs sa'
  simp -implicitDefEqProofs [q0, AObj.read]
  refine Clone_int_own hR hp (by omega) fun p' h4 o4 f4 l4 b4 => ?_
  have sp' := o4.sc
  have cp' := sc_cs sp'
  have q0 := (f4 _ (by omega)).trans q0
  have q1 := (f4 _ (by omega)).trans q1
  have w4 : h.length < h4.length := by omega
  have w5 : h.length + 1 < h4.length := by omega
  have r1 : ∀ o, (h4.set h.length o)[h.length]? = some o := fun o => List.getElem?_set_self w4
  have r2 : ∀ o, (h4.set h.length o)[h.length + 1]? = h4[h.length + 1]? := fun o => List.getElem?_set_ne (by omega)
  have r3 : ∀ o o', ((h4.set h.length o).set (h.length + 1) o')[h.length + 1]? = some o' := fun o o' => List.getElem?_set_self (by simpa using w5)
  simp -implicitDefEqProofs [q0, q1, AObj.read, sa', ca', sp', cp', r1, r2, r3, su', sx']
  refine hk u' x' a' p' _ ⟨?_, ?_, ha', ?_, fun b hb => ?_, fun b hb => ?_, fun b hb => ?_, fun b hb hb2 => ?_, fun b hb hb2 => ?_, fun b hb hb2 => ?_⟩ (fun k hk => ?_) (by simp; omega)
  · refine o1.move' fun b hb => ?_
    have := b1 b hb
    have := o1.blt hb
    rw [List.getElem?_set_ne (by omega), List.getElem?_set_ne (by omega), f4 b (by omega), k3 b (by omega), f2 b (by omega)]
  · refine o2.move' fun b hb => ?_
    have := b2 b hb
    have := o2.blt hb
    rw [List.getElem?_set_ne (by omega), List.getElem?_set_ne (by omega), f4 b (by omega), k3 b (by omega)]
  · refine o4.move' fun b hb => ?_
    have := b4 b hb
    rw [List.getElem?_set_ne (by omega), List.getElem?_set_ne (by omega)]
  · have := b1 b hb; omega
  · have := b2 b hb; omega
  · have := b4 b hb; omega
  · have := b2 b hb2; have := o1.blt hb; omega
  · have := b4 b hb2; have := o1.blt hb; omega
  · have := b4 b hb2; have := o2.blt hb; omega
  · rw [List.getElem?_set_ne (by omega), List.getElem?_set_ne (by omega), f4 k (by omega), k3 k (by omega), f2 k (by omega), f1 k (by omega), List.getElem?_append_left hk]
end Go.AI
