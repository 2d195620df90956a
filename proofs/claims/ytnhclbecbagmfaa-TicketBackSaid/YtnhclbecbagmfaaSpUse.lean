/- For use: what is cut off a heap; loops; lists of numbers handed over. -/
import Derived.Test.YtnhclbecbagmfaaSpBits
set_option linter.all false
namespace Go.AI
variable {A : Type} {P : Program} {R : Adts A}
mutual
theorem ren_low {m : Nat} {τ : Nat → Nat} (ht : ∀ k, k < m → τ k = k) : ∀ v : AVal, v.ix m = true → v.ren τ = v
  | .any, _ | .bool _, _ | .int _ _, _ | .str _, _ | .nilp, _ | .nils, _ | .nilm, _ | .nilf, _ | .nili, _ | .lst _ _ _ _ _, _ | .fp _ _ _, _ => by simp [AVal.ren]
  | .ptr b o, h | .sl b o _ _ _, h | .empt b o _, h | .map b, h => by simp [AVal.ix] at h; simp [AVal.ren, ht b h]
  | .fn f a c, h => by simp only [AVal.ix, Bool.and_eq_true] at h; simp [AVal.ren, rens_low ht a h.1, rens_low ht c h.2]
  | .iface t v, h => by simp only [AVal.ix] at h; simp [AVal.ren, ren_low ht v h]
  | .agg cs, h => by simp only [AVal.ix] at h; simp [AVal.ren, rens_low ht cs h]
  | .tup cs, h => by simp only [AVal.ix] at h; simp [AVal.ren, rens_low ht cs h]
theorem rens_low {m : Nat} {τ : Nat → Nat} (ht : ∀ k, k < m → τ k = k) : ∀ l : List AVal, ixs m l = true → rens τ l = l
  | [], _ => rfl
  | v :: r, h => by simp only [ixs, Bool.and_eq_true] at h; simp [rens, ren_low ht v h.1, rens_low ht r h.2]
end
/-- An object that names the first m places alone. -/
def AObj.low (R : Adts A) (m : Nat) (o : AObj A) : Prop := o.ix R m ∧ ∀ τ : Nat → Nat, (∀ k, k < m → τ k = k) → o.ren R τ = o
theorem low_cells {m : Nat} {e : TypeId} {cs : List AVal} (h : ixs m cs = true) : AObj.low R m (.cells e cs : AObj A) := ⟨h, fun τ ht => by simp [AObj.ren, rens_low ht cs h]⟩
theorem low_dead {m : Nat} : AObj.low R m (.dead : AObj A) := ⟨trivial, fun _ _ => rfl⟩
theorem low_map {m : Nat} {es : List AEnt} {ck : Nat} (h : ∀ e ∈ es, e.key.ix m = true ∧ e.val.ix m = true) : AObj.low R m (.map es ck : AObj A) := ⟨h, fun τ ht => by
  have : es.map (AEnt.ren τ) = es := by
    conv => rhs; rw [← List.map_id es]
    refine List.map_congr_left fun e he => ?_
    obtain ⟨h1, h2⟩ := h e he
    simp [AEnt.ren, ren_low ht _ h1, ren_low ht _ h2]
  simp [AObj.ren, this]⟩
/-- The first m objects alone are kept. -/
theorem Gives.cut (hR : R.Ok) {n m : Nat} {h : AHeap A} {vs : List AVal} {K : List AVal → AHeap A → Prop} (hn : n ≤ m) (hm : m ≤ h.length) (hx : ixs m vs = true) (ho : ∀ o ∈ h.take m, o.low R m) (hk : K vs (h.take m)) : Gives P R n h vs K := by
  have hl : (h.take m).length = m := by simp [Nat.min_eq_left hm]
  have hat : ∀ k, k < m → at_ (List.range m) h.length k = k := fun k hk => at_get (by simp [hk])
  refine Gives.keep hR (List.range m) (h2 := h.take m) (vs2 := vs) ⟨by simp [Nat.min_eq_left hm], List.nodup_range, fun k o hk => ?_, fun o ho' => ?_⟩ ?_ (by rw [hl]; exact hx) (fun k hk => by rw [List.getElem?_range (by omega)]) (Gives.done (by omega) hk)
  · have hkm : k < m := by
      have := (List.getElem?_eq_some_iff.1 hk).1
      rw [hl] at this; exact this
    refine ⟨k, by simp [hkm], ?_⟩
    rw [(ho o (List.mem_of_getElem? hk)).2 _ hat]
    rw [List.getElem?_take] at hk
    simpa [hkm] using hk
  · rw [hl]; exact (ho o ho').1
  · rw [rens_low hat vs hx]
/-- A loop, by an invariant with a measure. -/
theorem loopP_go {B : List AVal → AHeap A → (List AVal → AHeap A → Prop) → Prop} {x : List AVal} {h : AHeap A} (I : Nat → List AVal → AHeap A → Prop) (n : Nat) (h1 : Gives P R h.length h x (I n))
    (h2 : ∀ m y g, I m y g → B y g (fun y' g' => Gives P R h.length g' y' fun z k => ∃ m', m' < m ∧ I m' z k)) : loopP (Gives P R) B x h :=
  ⟨I, n, h1, fun m y g hi => ⟨_, h2 m y g hi, fun _ _ hj => hj⟩⟩
/-- A loop that is run round by round. -/
def unr (P : Program) (R : Adts A) (n : Nat) (B : List AVal → AHeap A → (List AVal → AHeap A → Prop) → Prop) : Nat → List AVal → AHeap A → Prop
  | 0, _, _ => False
  | m + 1, x, h => B x h fun y g => Gives P R n g y (unr P R n B m)
theorem loopP_unr (m : Nat) {B : List AVal → AHeap A → (List AVal → AHeap A → Prop) → Prop} {x : List AVal} {h : AHeap A} (hu : unr P R h.length B m x h) : loopP (Gives P R) B x h :=
  ⟨fun k y g => unr P R h.length B k y g, m, Gives.done (Nat.le_refl _) hu, fun k y g hk => match k, hk with
    | 0, hk => hk.elim
    | k + 1, hk => ⟨_, hk, fun _ _ hj => hj.mono fun _ _ _ hh => ⟨k, by omega, hh⟩⟩⟩
/-- A slice of whole numbers that is handed over. -/
def IsInts (a : AVal) (l : List Int) : Prop := (a = .nils ∧ l = []) ∨ ∃ b o cap, a = .lst b o l.length cap (l.map (.int .i64))
theorem IsInts.len {a : AVal} {l : List Int} (h : IsInts a l) (K : AVal → Prop) : lenP a K = K (.int .i64 l.length) := by
  rcases h with ⟨rfl, rfl⟩ | ⟨b, o, cap, rfl⟩ <;> simp
theorem IsInts.get {a : AVal} {l : List Int} (h : IsInts a l) {n : Int} (h0 : 0 ≤ n) (h1 : n < l.length) : ∃ b o cs, ∀ K, idxP 1 a (.int .i64 n) K = K (.fp b o (.int .i64 (l.getD n.toNat 0) :: cs)) := by
  rcases h with ⟨rfl, rfl⟩ | ⟨b, o, cap, rfl⟩
  · simp at h1; omega
  · refine ⟨b, o + n.toNat * 1, (l.map (.int .i64)).drop (n.toNat + 1), fun K => ?_⟩
    have h2 : n.toNat < l.length := by omega
    rw [idxP_l K 1 b o l.length cap _ .i64 n h0 h1, Nat.mul_one, List.drop_eq_getElem_cons (by simpa using h2)]
    simp [List.getD_eq_getElem?_getD, h2]
/-- A call that makes what it names. -/
theorem Tri.make (hR : R.Ok) {f : FuncId} {us : List AVal} (hx : ixs 0 us = true) {v0 : AVal} {h0 : AHeap A} (t : Tri P R f us [] fun v h => v = v0 ∧ h = h0) {h : AHeap A} {K : AVal → AHeap A → Prop}
    (hk : K (v0.ren (h.length + ·)) (h ++ h0.map (AObj.ren R (h.length + ·)))) : Tri P R f us h K := by
  have := Tri.frame hR (Sel.nil (R := R) h) (as2 := us) hx t
  rw [rens_ix0 _ _ hx] at this
  refine this.mono ?_
  rintro v H ⟨v1, h1, ⟨rfl, rfl⟩, _, rfl, rfl⟩
  have h2 : at_ [] h.length = (h.length + ·) := by funext k; simp [at_]
  rw [h2]
  simpa [splice, setAll, h2] using hk
/-- One cell is written. -/
theorem setO_one (h : AHeap A) (b o : Nat) (v : AVal) (e : TypeId) (cs : List AVal) (hv : v.scalar = true) (ho : o < cs.length) : setO h b o [v] (.cells e cs) = some (h.set b (.cells e (cs.set o v))) := by
  rw [setO_cells _ _ _ _ _ _ ⟨by simp; omega, by simp [hv]⟩]
  have h2 : over cs o [v] = cs.set o v := by rw [List.set_eq_take_append_cons_drop]; simp [over, ho]
  rw [h2]
mutual
theorem ren_agree {m : Nat} {τ τ' : Nat → Nat} (ht : ∀ k, k < m → τ k = τ' k) : ∀ v : AVal, v.ix m = true → v.ren τ = v.ren τ'
  | .any, _ | .bool _, _ | .int _ _, _ | .str _, _ | .nilp, _ | .nils, _ | .nilm, _ | .nilf, _ | .nili, _ | .lst _ _ _ _ _, _ | .fp _ _ _, _ => by simp [AVal.ren]
  | .ptr b o, h | .sl b o _ _ _, h | .empt b o _, h | .map b, h => by simp [AVal.ix] at h; simp [AVal.ren, ht b h]
  | .fn f a c, h => by simp only [AVal.ix, Bool.and_eq_true] at h; simp [AVal.ren, rens_agree ht a h.1, rens_agree ht c h.2]
  | .iface t v, h => by simp only [AVal.ix] at h; simp [AVal.ren, ren_agree ht v h]
  | .agg cs, h => by simp only [AVal.ix] at h; simp [AVal.ren, rens_agree ht cs h]
  | .tup cs, h => by simp only [AVal.ix] at h; simp [AVal.ren, rens_agree ht cs h]
theorem rens_agree {m : Nat} {τ τ' : Nat → Nat} (ht : ∀ k, k < m → τ k = τ' k) : ∀ l : List AVal, ixs m l = true → rens τ l = rens τ' l
  | [], _ => rfl
  | v :: r, h => by simp only [ixs, Bool.and_eq_true] at h; simp [rens, ren_agree ht v h.1, rens_agree ht r h.2]
end
mutual
theorem ix_mono {m n : Nat} (hmn : m ≤ n) : ∀ v : AVal, v.ix m = true → v.ix n = true
  | .any, _ | .bool _, _ | .int _ _, _ | .str _, _ | .nilp, _ | .nils, _ | .nilm, _ | .nilf, _ | .nili, _ | .lst _ _ _ _ _, _ | .fp _ _ _, _ => by simp [AVal.ix]
  | .ptr b o, h | .sl b o _ _ _, h | .empt b o _, h | .map b, h => by simp [AVal.ix] at h ⊢; omega
  | .fn f a c, h => by simp only [AVal.ix, Bool.and_eq_true] at h ⊢; exact ⟨ixs_mono hmn a h.1, ixs_mono hmn c h.2⟩
  | .iface t v, h => by simp only [AVal.ix] at h ⊢; exact ix_mono hmn v h
  | .agg cs, h => by simp only [AVal.ix] at h ⊢; exact ixs_mono hmn cs h
  | .tup cs, h => by simp only [AVal.ix] at h ⊢; exact ixs_mono hmn cs h
theorem ixs_mono {m n : Nat} (hmn : m ≤ n) : ∀ l : List AVal, ixs m l = true → ixs n l = true
  | [], _ => rfl
  | v :: r, h => by simp only [ixs, Bool.and_eq_true] at h ⊢; exact ⟨ix_mono hmn v h.1, ixs_mono hmn r h.2⟩
end
theorem AObj.ix_mono {m n : Nat} (hmn : m ≤ n) {o : AObj A} (h : o.ix R m) : o.ix R n := by
  cases o with
  | dead => trivial
  | cells e cs => exact ixs_mono hmn cs h
  | map es ck => exact fun e he => ⟨AI.ix_mono hmn _ (h e he).1, AI.ix_mono hmn _ (h e he).2⟩
  | adt a =>
    intro g hg
    obtain ⟨h1, h2⟩ := h g hg
    refine ⟨fun v hv => AI.ix_mono hmn v (h1 v hv), fun s hs => ?_⟩
    have := h2 s hs
    cases s with
    | dead => trivial
    | cells e cs => exact ixs_mono hmn cs this
    | map es ck => exact fun e he => ⟨AI.ix_mono hmn _ (this e he).1, AI.ix_mono hmn _ (this e he).2⟩
    | adt a => trivial
/-- The last object moves to the place behind the first ones. -/
theorem Gives.pick (hR : R.Ok) {n : Nat} (base mid : AHeap A) (o : AObj A) (vs vs2 : List AVal) {h : AHeap A} {K : List AVal → AHeap A → Prop} (he : h = base ++ (mid ++ [o])) (hn : n ≤ base.length) (hb : ∀ o ∈ base, o.low R base.length)
    (ho : o.ix R (base.length + 1) ∧ ∀ τ, o.ren R τ = o) (hv : vs = rens (fun k => if k = base.length then base.length + mid.length else k) vs2) (hx : ixs (base.length + 1) vs2 = true) (hk : K vs2 (base ++ [o])) : Gives P R n h vs K := by
  subst he
  have hl : (base ++ (mid ++ [o])).length = base.length + mid.length + 1 := by simp; omega
  have hat : ∀ k, k < base.length → at_ (List.range base.length ++ [base.length + mid.length]) (base ++ (mid ++ [o])).length k = k := fun k hk => at_get (by rw [List.getElem?_append_left (by simpa using hk)]; simp [hk])
  have hat2 : at_ (List.range base.length ++ [base.length + mid.length]) (base ++ (mid ++ [o])).length base.length = base.length + mid.length := at_get (by rw [List.getElem?_append_right (by simp)]; simp)
  refine Gives.keep hR (List.range base.length ++ [base.length + mid.length]) (h2 := base ++ [o]) (vs2 := vs2) ⟨by simp, ?_, fun k o' hk => ?_, fun o' ho' => ?_⟩ ?_ (by simpa using hx) (fun k hk => by rw [List.getElem?_append_left (by simp; omega), List.getElem?_range (by omega)]) (Gives.done (by simp; omega) hk)
  · rw [List.nodup_append]
    refine ⟨List.nodup_range, by simp, fun a ha b hb => ?_⟩
    simp at ha hb; omega
  · by_cases hkb : k < base.length
    · rw [List.getElem?_append_left hkb] at hk
      refine ⟨k, by rw [List.getElem?_append_left (by simpa using hkb)]; simp [hkb], ?_⟩
      rw [(hb o' (List.mem_of_getElem? hk)).2 _ hat, List.getElem?_append_left hkb, hk]
    · have hk2 : k < base.length + 1 := by have := (List.getElem?_eq_some_iff.1 hk).1; simpa using this
      obtain rfl : k = base.length := by omega
      simp at hk; subst hk
      refine ⟨base.length + mid.length, by simp, ?_⟩
      rw [ho.2, List.getElem?_append_right (by omega), List.getElem?_append_right (by omega)]
      simp
  · rcases List.mem_append.1 ho' with h1 | h1
    · have h2 := hb o' h1
      refine AObj.ix_mono (R := R) ?_ h2.1
      simp
    · simp at h1; subst h1; simpa using ho.1
  · rw [hv]
    refine rens_agree (m := base.length + 1) (fun k hk => ?_) vs2 hx
    by_cases hkb : k = base.length
    · subst hkb; rw [hat2, if_pos rfl]
    · rw [hat k (by omega), if_neg hkb]
end Go.AI
