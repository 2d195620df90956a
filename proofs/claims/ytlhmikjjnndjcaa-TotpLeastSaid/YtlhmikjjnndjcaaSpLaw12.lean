/- Codes by time: the statements. -/
import Derived.Test.YtlhmikjjnndjcaaSpTotp
import Derived.Test.YtlhmikjjnndjcaaSpTw12
set_option linter.all false
namespace Go.AI
variable {A : Type} {R : Adts A}
section
variable {bk rbk : Int → List Bs → A}
theorem awake12_ok (hR : R.Ok) (hB : HasBook R bk) (hB' : HasRBook R rbk) {h : AHeap A} {K : AVal → AHeap A → Prop} (hk : K (.bool true) h) : Tri Pr R n_law12_awake [] h K := by
  refine Tri.fn1 hR _ rfl rfl ?_ hk
  apply c_law12_awake
  unfold p_law12_awake
  refine law12_twin_ok hR hB hB' 9 ?_
  rw [if_pos (by omega)]
  simp -implicitDefEqProofs
  have b0 : bOk 9 [] := bOk_nil (by omega)
  obtain ⟨t1, e1⟩ : ∃ t : List Bs, t = [77 :: (nS 5 ++ cTerm 3)] := ⟨_, rfl⟩
  have k1 : tCode 9 [] 5 3 = (t1, 0, 0) := by rw [e1]; decide +kernel
  have b1 := bOk_code b0 k1
  have k2 : tCode 9 t1 5 0 = (t1, 0, 1200) := rfl
  have k3 : tAccept (fun s => cIsMac t1 5 (cTerm s) 0) 0 30 = (3, true) := by rw [e1]; decide +kernel
  have k4 : tAccept (fun s => cIsMac t1 5 (cTerm s) 0) 3 30 = (0, false) := by rw [e1]; decide +kernel
  have k5 : tAccept (fun s => cIsMac t1 5 (cTerm s) 0) 0 120 = (0, false) := by rw [e1]; decide +kernel
  have k6 : tAccept (fun s => cIsMac t1 6 (cTerm s) 0) 0 60 = (0, false) := by rw [e1]; decide +kernel
  have k7 : (t1.length : Int) = 1 := by rw [e1]; rfl
  clear e1
  refine Code_at hR hB b0 k1 rfl ?_
  simp -implicitDefEqProofs
  refine Code_at hR hB b1 k2 rfl ?_
  simp -implicitDefEqProofs
  refine Accept_at hR hB k3 rfl ?_
  simp -implicitDefEqProofs
  refine Accept_at hR hB k4 rfl ?_
  simp -implicitDefEqProofs
  refine Accept_at hR hB k5 rfl ?_
  simp -implicitDefEqProofs
  refine Accept_at hR hB k6 rfl ?_
  simp -implicitDefEqProofs
  refine Step_at (n := 1) rfl ?_
  simp -implicitDefEqProofs
  refine Step_at (n := 2) rfl ?_
  simp -implicitDefEqProofs
  refine Step_at (n := 0) rfl ?_
  simp -implicitDefEqProofs
  repeat (refine num14_ok ?_; simp -implicitDefEqProofs)
  refine Len_at hR hB k7 rfl ?_
  simp -implicitDefEqProofs
  exact Ans.rfl' _
theorem TotpForms_ok (hR : R.Ok) (hB : HasBook R bk) (hB' : HasRBook R rbk) (x tick : Int) : Tri Pr R n_law12_TotpForms [.int .i64 x, .int .i64 tick] [] fun u _ => u = .bool true := by
  apply c_law12_TotpForms
  unfold p_law12_TotpForms
  refine awake12_ok hR hB hB' ?_
  simp -implicitDefEqProofs
  rw [bits_mask x 10 (by omega) 1023 (by decide)]
  obtain ⟨d0, hd, d1, d2⟩ : ∃ d, x % 2 ^ 10 = d ∧ 0 ≤ d ∧ d < 1024 := ⟨_, rfl, by omega, by omega⟩
  rw [hd]
  have e1 := w64 (n := 1 + d0) (by omega)
  have e2 := w64 (n := 1 - (1 + d0)) (by omega)
  have e3 := w64 (n := 1048575 + (1 + d0)) (by omega)
  have e4 := w64 (n := -(1 + d0)) (by omega)
  refine law12_twin_ok hR hB hB' 1 ?_
  rw [if_pos (by omega)]
  simp -implicitDefEqProofs [e1, e2, e3, e4]
  have b0 : bOk 1 [] := bOk_nil (by omega)
  have m1 : nMay (-(1 + d0)) = false := by simp [nMay]; omega
  obtain ⟨t1, f1⟩ : ∃ t : List Bs, t = [77 :: (nS 5 ++ cTerm 1)] := ⟨_, rfl⟩
  have k1 : tCode 1 [] 5 (1 - (1 + d0)) = ([], 0, 1200) := by rw [tCode, if_neg (by omega)]
  have k2 : tCode 1 [] 5 (1048575 + (1 + d0)) = ([], 0, 1200) := by rw [tCode, if_neg (by omega)]
  have k3 : tCode 1 [] (-(1 + d0)) 1 = ([], 0, 1200) := by simp [tCode, cKey, m1]
  have k4 : tCode 1 [] 5 1 = (t1, 0, 0) := by rw [f1]; decide +kernel
  have k5 : tCode 1 t1 5 2 = (t1, 0, 1200) := by rw [f1]; decide +kernel
  have b1 := bOk_code b0 k4
  have k6 : tAccept (fun s => cIsMac t1 5 (cTerm s) 0) 0 (-(1 + d0)) = (0, false) := by rw [tAccept, if_pos (by rw [tStep, if_neg (by omega)])]
  have k7 : tAccept (fun s => cIsMac t1 5 (cTerm s) 0) 0 (1048575 + (1 + d0)) = (0, false) := by rw [tAccept, if_pos (by rw [tStep, if_neg (by omega)])]
  have k8 : tAccept (fun s => cIsMac t1 5 (cTerm s) 0) 0 29 = (1, true) := by rw [f1]; decide +kernel
  have k9 : (t1.length : Int) = 1 := by rw [f1]; rfl
  have s1 : tStep (-(1 + d0)) = 0 := by rw [tStep, if_neg (by omega)]
  have s2 : tStep (1048575 + (1 + d0)) = 0 := by rw [tStep, if_neg (by omega)]
  clear f1
  refine Code_at hR hB b0 k1 rfl ?_
  simp -implicitDefEqProofs [e3]
  refine Code_at hR hB b0 k2 rfl ?_
  simp -implicitDefEqProofs [e4]
  refine Code_at hR hB b0 k3 rfl ?_
  simp -implicitDefEqProofs
  refine totp_Code_nil hR _ _ ?_
  simp -implicitDefEqProofs
  refine Code_at hR hB b0 k4 rfl ?_
  simp -implicitDefEqProofs
  refine Code_at hR hB b1 k5 rfl ?_
  simp -implicitDefEqProofs [e4]
  refine Accept_at hR hB k6 rfl ?_
  simp -implicitDefEqProofs [e3]
  refine Accept_at hR hB k7 rfl ?_
  simp -implicitDefEqProofs
  refine totp_Accept_nil hR _ _ _ _ ?_
  simp -implicitDefEqProofs
  refine Accept_at hR hB k8 rfl ?_
  simp -implicitDefEqProofs
  rw [bits_mask tick 20 (by omega) 1048575 (by decide)]
  obtain ⟨p, hp, p1, p2⟩ : ∃ d, tick % 2 ^ 20 = d ∧ 0 ≤ d ∧ d < 1048576 := ⟨_, rfl, by omega, by omega⟩
  rw [hp]
  have s3 : tStep p = p / 30 + 1 := by rw [tStep, if_pos (by omega)]
  have g1 : p.tdiv 30 = p / 30 := Int.tdiv_eq_ediv_of_nonneg p1
  have g2 := w64 (n := p / 30) (by omega)
  have g3 := w64 (n := p / 30 + 1) (by omega)
  repeat (refine num14_ok ?_; simp -implicitDefEqProofs)
  refine Step_at s1 ?_
  simp -implicitDefEqProofs [e3]
  refine Step_at s2 ?_
  simp -implicitDefEqProofs
  refine Step_at s3 ?_
  simp -implicitDefEqProofs [g1, g2, g3]
  refine Len_at hR hB k9 rfl ?_
  simp -implicitDefEqProofs
end
end Go.AI
