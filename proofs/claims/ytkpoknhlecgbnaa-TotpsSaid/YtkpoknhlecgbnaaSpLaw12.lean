/- Codes by time: the statements. -/
import Derived.Test.YtkpoknhlecgbnaaSpTotp
import Derived.Test.YtkpoknhlecgbnaaSpTw12
set_option linter.all false
namespace Go.AI
variable {A : Type} {R : Adts A}
section
variable {bk rbk : Int → List Bs → A}
theorem awake12_ok (hR : R.Ok) (hB : HasBook R bk) (hB' : HasRBook R rbk) {h : AHeap A} {K : AVal → AHeap A → Prop} (hk : K (.bool true) h) : Tri Pr R n_law12_awake [] h K := by
  refine Tri.fn1 hR _ rfl rfl ?_ hk
  apply c_law12_awake
  unfold p_law12_awake
  refine law12_twin_ok hR hB hB' 9 ?_
  rw [if_pos (by omega)]
  simp -implicitDefEqProofs
  have b0 : bOk 9 [] := bOk_nil (by omega)
  obtain ⟨t1, e1⟩ : ∃ t : List Bs, t = [77 :: (nS 5 ++ cTerm 3)] := ⟨_, rfl⟩
  have k1 : tCode 9 [] 5 3 = (t1, 0, 0) := by rw [e1]; decide +kernel
  have b1 := bOk_code b0 k1
  have k2 : tCode 9 t1 5 0 = (t1, 0, 1200) := rfl
  have k3 : tAccept (fun s => cIsMac t1 5 (cTerm s) 0) 0 30 = (3, true) := by rw [e1]; decide +kernel
  have k4 : tAccept (fun s => cIsMac t1 5 (cTerm s) 0) 3 30 = (0, false) := by rw [e1]; decide +kernel
  have k5 : tAccept (fun s => cIsMac t1 5 (cTerm s) 0) 0 120 = (0, false) := by rw [e1]; decide +kernel
  have k6 : tAccept (fun s => cIsMac t1 6 (cTerm s) 0) 0 60 = (0, false) := by rw [e1]; decide +kernel
  have k7 : (t1.length : Int) = 1 := by rw [e1]; rfl
  clear e1
  refine Code_at hR hB b0 k1 rfl ?_
  simp -implicitDefEqProofs
  refine Code_at hR hB b1 k2 rfl ?_
  simp -implicitDefEqProofs
  refine Accept_at hR hB k3 rfl ?_
  simp -implicitDefEqProofs
  refine Accept_at hR hB k4 rfl ?_
  simp -implicitDefEqProofs
  refine Accept_at hR hB k5 rfl ?_
  simp -implicitDefEqProofs
  refine Accept_at hR hB k6 rfl ?_
  simp -implicitDefEqProofs
  refine Step_at (n := 1) rfl ?_
  simp -implicitDefEqProofs
  refine Step_at (n := 2) rfl ?_
  simp -implicitDefEqProofs
  refine Step_at (n := 0) rfl ?_
  simp -implicitDefEqProofs
  repeat (refine num14_ok ?_; simp -implicitDefEqProofs)
  refine Len_at hR hB k7 rfl ?_
  simp -implicitDefEqProofs
  exact Ans.rfl' _
end
end Go.AI
