/- What a disk's calls do, told by equations. -/
import Derived.Test.YtlhmikjjnndjcaaSpDD
set_option linter.all false
namespace Go.AI
variable {A : Type} {R : Adts A}
theorem dOk_new {n : Int} (h : 1 ≤ n ∧ n ≤ 256) : dOk (List.replicate n.toNat zSec) [] := ⟨by simp; omega, fun s hs => by simp at hs; rw [hs.2]; rfl, by simp⟩
theorem dWrite_good {k : List Bs} {w : Ws} {x : Int} {s : Bs} (h : 0 ≤ x ∧ x < k.length ∧ s.length = 64) : dWrite k w false x s = (w ++ [(x, s)], 0) := by
  unfold dWrite; rw [if_neg (by simp), if_neg (by omega)]
theorem dWrite_bad {k : List Bs} {w : Ws} {x : Int} {s : Bs} (h : x < 0 ∨ (k.length : Int) ≤ x ∨ s.length ≠ 64) : dWrite k w false x s = (w, 800) := by
  unfold dWrite; rw [if_neg (by simp), if_pos h]
theorem dOk_write {k : List Bs} {w : Ws} {x : Int} {s : Bs} (h : dOk k w) (h2 : 0 ≤ x ∧ x < k.length ∧ s.length = 64) : dOk k (w ++ [(x, s)]) :=
  ⟨h.size, h.full, fun a ha => by rcases List.mem_append.1 ha with h1 | h1; exact h.wait a h1; simp at h1; subst h1; exact h2⟩
theorem dOk_any {k : List Bs} {w : Ws} {d : Bool} {x : Int} {s : Bs} (h : dOk k w) : dOk k (dWrite k w d x s).1 ∧ (dWrite k w d x s).1.length ≤ w.length + 1 := by
  unfold dWrite
  split
  · exact ⟨h, by simp⟩
  · split
    · exact ⟨h, by simp⟩
    · exact ⟨dOk_write h (by omega), by simp⟩
theorem dOk_put {k : List Bs} {w : Ws} (h : dOk k w) : dOk (dPut k w) [] := ⟨by rw [dPut_len]; exact h.size, dPut_full h, by simp⟩
theorem dOk_lost {k : List Bs} {w : Ws} {mask torn : Int} (h : dOk k w) (ht : 0 ≤ torn) : dOk (dLost mask torn k w) [] := ⟨by unfold dLost; rw [dCr_len]; exact h.size, dCr_full h ht _ (Nat.le_refl _), by simp⟩
section disk
variable {mk : List Bs → Ws → Bool → A}
theorem disk_Write_at (hR : R.Ok) (hB : HasDisk R mk) {k : List Bs} {w w' : Ws} {d : Bool} {x e : Int} {s : Bs} (hok : dOk k w) (hw : w.length ≤ 1000) (he : dWrite k w d x s = (w', e)) {h : AHeap A} {b : Nat} (hb : h[b]? = some (.adt (mk k w d))) {K : AVal → AHeap A → Prop}
    (hk : K (.int .i64 e) (h.set b (.adt (mk k w' d)))) : Tri Pr R n_disk_Disk_Write [.ptr b 0, .int .i64 x, .str s] h K := by
  refine disk_Write_ok hR hB hok hw x s hb ?_
  rw [he]; exact hk
theorem disk_Flush_at (hR : R.Ok) (hB : HasDisk R mk) {k k' : List Bs} {w : Ws} (hok : dOk k w) (hw : w.length ≤ 1000) (he : dPut k w = k') {h : AHeap A} {b : Nat} (hb : h[b]? = some (.adt (mk k w false))) {K : AVal → AHeap A → Prop}
    (hk : K (.int .i64 0) (h.set b (.adt (mk k' [] false)))) : Tri Pr R n_disk_Disk_Flush [.ptr b 0] h K := by
  refine disk_Flush_ok hR hB hok hw hb ?_
  rw [if_neg (by simp), he]; exact hk
theorem disk_Flush_down (hR : R.Ok) (hB : HasDisk R mk) {k : List Bs} {w : Ws} (hok : dOk k w) (hw : w.length ≤ 1000) {h : AHeap A} {b : Nat} (hb : h[b]? = some (.adt (mk k w true))) {K : AVal → AHeap A → Prop}
    (hk : K (.int .i64 801) h) : Tri Pr R n_disk_Disk_Flush [.ptr b 0] h K := by
  refine disk_Flush_ok hR hB hok hw hb ?_
  rw [if_pos rfl]; exact hk
theorem disk_Read_at (hR : R.Ok) (hB : HasDisk R mk) {k : List Bs} {w : Ws} {d : Bool} {x e : Int} {s : Bs} (hok : dOk k w) (hw : w.length ≤ 1000) (he : dRead k w d x = (s, e)) {h : AHeap A} {b : Nat} (hb : h[b]? = some (.adt (mk k w d))) {K : AVal → AHeap A → Prop}
    (hk : K (.tup [.str s, .int .i64 e]) h) : Tri Pr R n_disk_Disk_Read [.ptr b 0, .int .i64 x] h K := by
  refine disk_Read_ok hR hB hok hw x hb ?_
  rw [he]; exact hk
theorem disk_Crash_at (hR : R.Ok) (hB : HasDisk R mk) {k k' : List Bs} {w : Ws} {mask torn : Int} (hok : dOk k w) (hw : w.length ≤ 1000) (h0 : 0 ≤ mask ∧ 0 ≤ torn) (he : dLost mask torn k w = k') {h : AHeap A} {b : Nat} (hb : h[b]? = some (.adt (mk k w false))) {K : AVal → AHeap A → Prop}
    (hk : K (.int .i64 0) (h.set b (.adt (mk k' [] true)))) : Tri Pr R n_disk_Disk_Crash [.ptr b 0, .int .i64 mask, .int .i64 torn] h K := by
  refine disk_Crash_ok hR hB hok hw mask torn hb ?_
  rw [if_neg (by simp), if_neg (by omega), he]; exact hk
theorem disk_Crash_bad (hR : R.Ok) (hB : HasDisk R mk) {k : List Bs} {w : Ws} {mask torn : Int} (hok : dOk k w) (hw : w.length ≤ 1000) (h0 : mask < 0 ∨ torn < 0) {h : AHeap A} {b : Nat} (hb : h[b]? = some (.adt (mk k w false))) {K : AVal → AHeap A → Prop}
    (hk : K (.int .i64 800) h) : Tri Pr R n_disk_Disk_Crash [.ptr b 0, .int .i64 mask, .int .i64 torn] h K := by
  refine disk_Crash_ok hR hB hok hw mask torn hb ?_
  rw [if_neg (by simp), if_pos h0]; exact hk
theorem disk_Crash_down (hR : R.Ok) (hB : HasDisk R mk) {k : List Bs} {w : Ws} {mask torn : Int} (hok : dOk k w) (hw : w.length ≤ 1000) {h : AHeap A} {b : Nat} (hb : h[b]? = some (.adt (mk k w true))) {K : AVal → AHeap A → Prop}
    (hk : K (.int .i64 801) h) : Tri Pr R n_disk_Disk_Crash [.ptr b 0, .int .i64 mask, .int .i64 torn] h K := by
  refine disk_Crash_ok hR hB hok hw mask torn hb ?_
  rw [if_pos rfl]; exact hk
theorem disk_Restart_at (hR : R.Ok) (hB : HasDisk R mk) {k : List Bs} {w : Ws} {h : AHeap A} {b : Nat} (hb : h[b]? = some (.adt (mk k w true))) {K : AVal → AHeap A → Prop}
    (hk : K (.int .i64 0) (h.set b (.adt (mk k w false)))) : Tri Pr R n_disk_Disk_Restart [.ptr b 0] h K := by
  refine disk_Restart_ok hR hB hb ?_
  rw [if_pos rfl]; exact hk
theorem disk_Restart_up (hR : R.Ok) (hB : HasDisk R mk) {k : List Bs} {w : Ws} {h : AHeap A} {b : Nat} (hb : h[b]? = some (.adt (mk k w false))) {K : AVal → AHeap A → Prop}
    (hk : K (.int .i64 800) h) : Tri Pr R n_disk_Disk_Restart [.ptr b 0] h K := by
  refine disk_Restart_ok hR hB hb ?_
  rw [if_neg (by simp), set_same hb]; exact hk
theorem disk_New_at (hR : R.Ok) (hB : HasDisk R mk) {n : Int} {k : List Bs} (hn : 1 ≤ n ∧ n ≤ 256) (he : List.replicate n.toNat zSec = k) {h : AHeap A} {K : AVal → AHeap A → Prop}
    (hk : K (.tup [.ptr h.length 0, .int .i64 0]) (h ++ [.adt (mk k [] false)])) : Tri Pr R n_disk_New [.int .i64 n] h K := by
  refine disk_New_ok hR hB n ?_
  rw [if_pos hn, he]; exact hk
theorem disk_New_bad (hR : R.Ok) (hB : HasDisk R mk) {n : Int} (hn : ¬ (1 ≤ n ∧ n ≤ 256)) {h : AHeap A} {K : AVal → AHeap A → Prop}
    (hk : K (.tup [.nilp, .int .i64 800]) h) : Tri Pr R n_disk_New [.int .i64 n] h K := by
  refine disk_New_ok hR hB n ?_
  rw [if_neg hn]; exact hk
theorem disk_Waits_at (hR : R.Ok) (hB : HasDisk R mk) {k : List Bs} {w : Ws} {d : Bool} {n : Int} (he : (w.length : Int) = n) {h : AHeap A} {b : Nat} (hb : h[b]? = some (.adt (mk k w d))) {K : AVal → AHeap A → Prop}
    (hk : K (.int .i64 n) h) : Tri Pr R n_disk_Disk_Waits [.ptr b 0] h K := by
  refine disk_Waits_ok hR hB hb ?_
  rw [he]; exact hk
end disk
end Go.AI
