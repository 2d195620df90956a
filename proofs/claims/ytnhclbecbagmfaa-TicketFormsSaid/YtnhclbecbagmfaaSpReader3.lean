/- Readers. -/
import Derived.Test.YtnhclbecbagmfaaSpReader2
set_option linter.all false
namespace Go.AI
variable {A : Type} {R : Adts A}
def fRead (s : Bs0) (at_ : Int) (e : AVal) : AObj A := .cells t_field_Reader [.str s, .int .i64 at_, e]
def rRead (s : Bs0) (at_ : Int) (bad : Bool) : AObj A := .cells t_bastionref1_Reader [.str s, .int .i64 at_, .bool bad]
@[simp] theorem fRead_read (s : Bs0) (a : Int) (e : AVal) : (fRead s a e : AObj A).read = some [.str s, .int .i64 a, e] := rfl
@[simp] theorem rRead_read (s : Bs0) (a : Int) (b : Bool) : (rRead s a b : AObj A).read = some [.str s, .int .i64 a, .bool b] := rfl
theorem fReader_ok (hR : R.Ok) (s : Bs0) (hs : s.length < 9000000000000000000) (at_ : Int) (ha : -9000000000000000000 ≤ at_ ∧ at_ < 9000000000000000000) {o : AObj A} {r : AHeap A} {K : AVal → AHeap A → Prop}
    (hk : if (gNum s at_).2.2 = 0 then K (.int .i64 (gNum s at_).1) (o :: fRead s (gNum s at_).2.1 .nili :: r) else ∀ a e, K (.int .i64 0) (o :: fRead s 0 (.iface t_p_field_Fault (.ptr (r.length + 2) 0)) :: (r ++ [faultO a e]))) :
    Tri Pr R n_field_Reader_Num [.ptr 1 0] (o :: fRead s at_ .nili :: r) K := by
  apply c_field_Reader_Num
  unfold p_field_Reader_Num
  simp -implicitDefEqProofs [fRead]
  refine field_num_ok hR s hs at_ ha ?_
  by_cases h : (gNum s at_).2.2 = 0
  · rw [if_pos h] at hk ⊢
    simp -implicitDefEqProofs
    exact hk
  · rw [if_neg h] at hk ⊢
    intro a e
    simp -implicitDefEqProofs
    simpa [fRead] using hk a e
theorem fReader_bad (hR : R.Ok) (s : Bs0) (at_ : Int) (t : TypeId) (v : AVal) {o : AObj A} {r : AHeap A} {K : AVal → AHeap A → Prop}
    (hk : K (.int .i64 0) (o :: fRead s at_ (.iface t v) :: r)) : Tri Pr R n_field_Reader_Num [.ptr 1 0] (o :: fRead s at_ (.iface t v) :: r) K := by
  apply c_field_Reader_Num
  unfold p_field_Reader_Num
  simp -implicitDefEqProofs [fRead]
  exact hk
theorem rReader_ok (hR : R.Ok) (s : Bs0) (hs : s.length < 9000000000000000000) (at_ : Int) (ha : -9000000000000000000 ≤ at_ ∧ at_ < 9000000000000000000) (bad : Bool) {o : AObj A} {r : AHeap A} {K : AVal → AHeap A → Prop}
    (hk : if bad = false ∧ (gNum s at_).2.2 = 0 then K (.int .i64 (gNum s at_).1) (o :: rRead s (gNum s at_).2.1 false :: r) else K (.int .i64 0) (o :: rRead s at_ true :: r)) :
    Tri Pr R n_ref1_Reader_Num [.ptr 1 0] (o :: rRead s at_ bad :: r) K := by
  apply c_ref1_Reader_Num
  unfold p_ref1_Reader_Num
  simp -implicitDefEqProofs [rRead]
  refine ref1_GetNum_ok hR s hs at_ ha ?_
  simp -implicitDefEqProofs
  cases bad with
  | true =>
    simp at hk
    simp -implicitDefEqProofs
    exact hk
  | false =>
    by_cases h : (gNum s at_).2.2 = 0
    · simp [h] at hk
      simp -implicitDefEqProofs [h]
      exact hk
    · simp [h] at hk
      have h' : ((gNum s at_).2.2 != 0) = true := by simpa using h
      simp -implicitDefEqProofs [h']
      exact hk
end Go.AI
