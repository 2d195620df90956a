/- New disks. -/
import Derived.Test.YtlhmikjjnndjcaaSpRDisk
set_option linter.all false
namespace Go.AI
variable {A : Type} {R : Adts A}
/-- A sector of zeros. -/
def zSec : Bs := List.replicate 64 0
theorem z_read {K : AVal → Prop} {h : AHeap A} {b : Nat} {ex : Bool} {t : TypeId} {cs : List AVal} (hb : h[b]? = some (.cells t cs)) (hc : cs = (List.replicate 64 [AVal.int .u8 0]).flatten) (hk : K (.str zSec)) : b2sP (.sl b 0 64 64 ex) h K := by
  subst hc
  simp only [b2sP, cellsAt, hb, Option.bind_some, AObj.read]
  exact hk
section disk
variable {mk : List Bs → Ws → Bool → A}
theorem disk_New_ok (hR : R.Ok) (hB : HasDisk R mk) (n : Int) {h : AHeap A} {K : AVal → AHeap A → Prop}
    (hk : if 1 ≤ n ∧ n ≤ 256 then K (.tup [.ptr h.length 0, .int .i64 0]) (h ++ [.adt (mk (List.replicate n.toNat zSec) [] false)]) else K (.tup [.nilp, .int .i64 800]) h) : Tri Pr R n_disk_New [.int .i64 n] h K := by
  by_cases hm : 1 ≤ n ∧ n ≤ 256
  · rw [if_pos hm] at hk
    refine Tri.make hR rfl (v0 := .tup [.ptr 0 0, .int .i64 0]) (h0 := [.adt (mk (List.replicate n.toNat zSec) [] false)]) (Tri.post ?_) (by simpa [AVal.ren, rens, disk_ren hB] using hk)
    apply c_disk_New
    unfold p_disk_New
    have h1 : ¬ n < 1 := by omega
    have h2 : ¬ 256 < n := by omega
    simp [h1, h2, mkslP]
    refine ⟨⟨by omega, by omega⟩, ?_⟩
    have e0 : max n 0 = n := by omega
    have hnn : ((n.toNat : Nat) : Int) = n := by omega
    rw [e0]
    refine loopP_go (fun m y g => ∃ i : Nat, y = [.int .i64 i] ∧ g = [.cells t_string ((List.replicate i zSec ++ List.replicate (n.toNat - i) []).map .str), .cells t_disk_Disk [.sl 0 0 n.toNat n.toNat true, .nils, .bool false]] ∧ i ≤ n.toNat ∧ m = n.toNat - i) n.toNat
      (Gives.done (by simp) ⟨0, rfl, by simp, by omega, by omega⟩) ?_
    rintro m y g ⟨i, rfl, rfl, hi, rfl⟩
    simp
    refine iteP_of (fun h3 => ?_) (fun h3 => ?_)
    · simp at h3
      have e1 := w64 (n := (i : Int) + 1) (by omega)
      refine z_read (by rfl) (by rfl) ?_
      have h4 : (i : Int) < n := h3
      have hil : i < n.toNat := by omega
      have hso := fun g : AHeap A => setO_one g 0 i (.str zSec) t_string ((List.replicate i zSec ++ List.replicate (n.toNat - i) []).map .str) rfl (by simp; omega)
      simp at hso
      simp [hnn, h4, hso, e1]
      obtain ⟨c, hc⟩ : ∃ c, n.toNat - i = c + 1 := ⟨n.toNat - (i + 1), by omega⟩
      have hc2 : n.toNat - (i + 1) = c := by omega
      have hix : ∀ l : List AVal, (∀ v ∈ l, v.ix 2 = true) → ixs 2 l = true := fun l hl => by rw [ixs_all]; simpa using hl
      refine Gives.cut hR (m := 2) (by omega) (by simp) rfl (by simp; exact ⟨low_cells (hix _ fun v hv => by
        rw [hc] at hv; simp [List.replicate_succ] at hv; rcases hv with ⟨_, rfl⟩ | rfl | ⟨_, rfl⟩ <;> rfl), low_cells rfl⟩) ?_
      refine ⟨c, by omega, i + 1, by simp, ?_, by omega, hc2.symm⟩
      rw [hc, hc2]
      simp [List.replicate_succ]
      rw [← List.cons_append, ← List.replicate_succ, List.replicate_succ']
      simp
    · simp at h3
      obtain rfl : i = n.toNat := by omega
      simp
      have hg : (diskG (List.replicate n.toNat zSec) [] false : Grp A) = { e := t_disk_Disk, cs := [.sl 0 0 n.toNat n.toNat true, .g .nils, .g (.bool false)], subs := [.cells t_string (List.replicate n.toNat (.str zSec))] } := by simp [diskG]
      refine Gives.shut 1 [0] (mk (List.replicate n.toNat zSec) [] false) _ ((hB.lay _ _ _ _).2 hg.symm) rfl rfl (fun i s hs => ?_) (by simp) (by simp; omega) (by simp) ?_
      · match i, hs with
        | 0, hs => simp at hs; subst hs; exact ⟨rfl, rfl⟩
        | i + 1, hs => simp at hs
      · refine Gives.pick hR [] [.dead] (.adt (mk (List.replicate n.toNat zSec) [] false)) _ [.tup [.ptr 0 0, .int .i64 0]] rfl (by simp) (by simp) ⟨disk_ix hB _ _ _ _, disk_ren hB _ _ _⟩ (by simp [rens, AVal.ren]) rfl ?_
        exact ⟨_, rfl, rfl, rfl⟩
  · rw [if_neg hm] at hk
    refine Tri.fn1 hR _ rfl rfl ?_ hk
    apply c_disk_New
    unfold p_disk_New
    simp
    refine iteP_of (fun h1 => iteP_of (fun h2 => Ans.rfl' _) (fun h2 => ?_)) (fun h1 => Ans.rfl' _)
    simp at h1 h2; omega
end disk
end Go.AI
