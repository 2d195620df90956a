/- RecordRows. -/
import Derived.Test.YtkipdpamkchnoaaSpLaw9d
import Derived.Test.YtkipdpamkchnoaaSpSel
import Derived.Test.YtkipdpamkchnoaaSpRecT
set_option linter.all false
namespace Go.AI
variable {A : Type} {R : Adts A}
def prevOf (j : Nat) : Int := if j = 0 then 0 else (j : Int) - 1
def prevL (n : Nat) : List Int := (List.range (n + 1)).map prevOf
theorem prevL_len (n : Nat) : (prevL n).length = n + 1 := by simp [prevL]
theorem prevL_get {n j : Nat} (h : j ≤ n) : (prevL n)[j]? = some (prevOf j) := by simp [prevL, List.getElem?_range (show j < n + 1 by omega)]
theorem prevL_snoc (n : Nat) : prevL (n + 1) = prevL n ++ [(n : Int)] := by
  rw [prevL, List.range_succ, List.map_append]
  simp [prevL, prevOf]
/-- Records that are chained, and their sectors. -/
structure RState (rs : List Rec) (ss : List Bs) : Prop where
  len : ss.length = rs.length
  may : ∀ (j : Nat) r, rs[j]? = some r → recMay r = true ∧ r.seq = (j : Int) + 1 ∧ r.prev = prevOf j
  sec : ∀ (j : Nat) r, rs[j]? = some r → ss[j]? = some (pad (recBody r ++ nS j))
  few : rs.length ≤ 20
theorem RState.none : RState [] [] := ⟨rfl, by simp, by simp, by simp⟩
theorem RState.new {rs : List Rec} {ss : List Bs} (h : RState rs ss) {r : Rec} (hr : recMay r = true) (hs : r.seq = (rs.length : Int) + 1) : recT r ∉ rs.map recT := by
  intro hm
  obtain ⟨q, hq, he⟩ := List.mem_map.1 hm
  obtain ⟨j, hj, rfl⟩ := List.getElem_of_mem hq
  obtain ⟨m1, m2, _⟩ := h.may j _ (List.getElem?_eq_getElem hj)
  have := recBody_seq (recMay_all m1).2.2.1 (recMay_all hr).2.2.1 he
  omega
theorem RState.put {rs : List Rec} {ss : List Bs} (h : RState rs ss) {r : Rec} (hr : recMay r = true) (hs : r.seq = (rs.length : Int) + 1) (hf : rs.length < 20) : recPut 99 (rs.map recT) r = ((rs ++ [r]).map recT, pad (recBody r ++ nS (rs.length : Int)), (rs.length : Int), 0) := by
  have := recPut_new (m := 99) hr (h.new hr hs) (by simp; omega) (by simp; omega)
  rw [this]; simp
theorem RState.snoc {rs : List Rec} {ss : List Bs} (h : RState rs ss) {r : Rec} (hr : recMay r = true) (hs : r.seq = (rs.length : Int) + 1) (hp : r.prev = prevOf rs.length) (hf : rs.length < 20) : RState (rs ++ [r]) (ss ++ [pad (recBody r ++ nS (rs.length : Int))]) := by
  have hl := h.len
  refine ⟨by simp [hl], fun j q hq => ?_, fun j q hq => ?_, by simp; omega⟩
  · by_cases hj : j < rs.length
    · rw [List.getElem?_append_left hj] at hq; exact h.may j q hq
    · rw [List.getElem?_append_right (by omega)] at hq
      obtain rfl : j = rs.length := by
        have := (List.getElem?_eq_some_iff.1 hq).1; simp at this; omega
      simp at hq; subst hq; exact ⟨hr, hs, hp⟩
  · by_cases hj : j < rs.length
    · rw [List.getElem?_append_left hj] at hq; rw [List.getElem?_append_left (by omega)]; exact h.sec j q hq
    · rw [List.getElem?_append_right (by omega)] at hq
      obtain rfl : j = rs.length := by
        have := (List.getElem?_eq_some_iff.1 hq).1; simp at this; omega
      simp at hq; subst hq
      rw [List.getElem?_append_right (by omega), hl]; simp
theorem RState.nodup {rs : List Rec} {ss : List Bs} (h : RState rs ss) : (rs.map recT).Nodup := by
  unfold List.Nodup
  rw [List.pairwise_iff_getElem]
  intro i j hi hj hij he
  simp only [List.length_map] at hi hj
  simp only [List.getElem_map] at he
  obtain ⟨m1, m2, _⟩ := h.may i _ (List.getElem?_eq_getElem (by omega))
  obtain ⟨n1, n2, _⟩ := h.may j _ (List.getElem?_eq_getElem hj)
  have := recBody_seq (recMay_all m1).2.2.1 (recMay_all n1).2.2.1 he
  omega
theorem RState.get {rs : List Rec} {ss : List Bs} (h : RState rs ss) {i j : Nat} {r : Rec} (hi : rs[i]? = some r) (hj : j < rs.length) : recGet (rs.map recT) (pad (recBody r ++ nS i)) ((j : Int) + 1) (prevOf j) = if i = j then (r, (i : Int), 0) else (rec0, 0, 901) := by
  obtain ⟨m1, m2, m3⟩ := h.may i r hi
  have hil := (List.getElem?_eq_some_iff.1 hi).1
  have hf := h.few
  have l1 := recBody_len m1
  have nm : nMay (i : Int) = true := by simp [nMay]; omega
  have l2 : (nS (i : Int)).length ≤ 2 := by
    simp only [nS, nm, if_true, nE]
    split
    · simp
    · rw [if_pos (by omega)]; simp
  have hr : recRead (rs.map recT) (pad (recBody r ++ nS i)) = some (r, (i : Int)) := recRead_dec h.nodup m1 nm (bTerm_get (by rw [List.getElem?_map, hi]; rfl)) (by rw [List.length_append]; omega)
  unfold recGet
  rw [hr]
  by_cases e : i = j
  · subst e; simp [m2, m3]
  · rw [if_neg e]
    simp only
    rw [if_pos (.inl (by omega))]
theorem RState.sec_len {rs : List Rec} {ss : List Bs} (h : RState rs ss) {i : Nat} {r : Rec} (hi : rs[i]? = some r) : (pad (recBody r ++ nS (i : Int))).length = 64 := by
  obtain ⟨m1, _⟩ := h.may i r hi
  have hil := (List.getElem?_eq_some_iff.1 hi).1
  have hf := h.few
  have l1 := recBody_len m1
  have nm : nMay (i : Int) = true := by simp [nMay]; omega
  apply pad_len
  have : (nS (i : Int)).length ≤ 2 := by
    simp only [nS, nm, if_true, nE]
    split
    · simp
    · rw [if_pos (by omega)]; simp
  rw [List.length_append]; omega
end Go.AI
