/- Totps. -/
import Derived.Test.YtkpoknhlecgbnaaSpTotpR
import Derived.Test.YtkpoknhlecgbnaaSpLaw12
set_option linter.all false
namespace Go.AI
variable {A : Type} {R : Adts A}
section
variable {bk rbk : Int → List Bs → A}
def TotpsI (bk rbk : Int → List Bs → A) (most : Int) (m : Nat) (y : List AVal) (g : AHeap A) : Prop :=
  ∃ (i : Int) (ts : List Bs), y = [.int .i64 i] ∧ g = [.adt (bk most ts), .adt (rbk most ts)] ∧ bOk most ts ∧ 0 ≤ i ∧ i ≤ 20 ∧ m = (20 - i).toNat
theorem Totps_ok (hR : R.Ok) (hB : HasBook R bk) (hB' : HasRBook R rbk) (most secret : Int) (a : AVal) (l : List Int) (ha : IsInts a l) (last tick code : Int) :
    Tri Pr R n_law12_Totps [.int .i64 most, .int .i64 secret, a, .int .i64 last, .int .i64 tick, .int .i64 code] [] fun u _ => u = .bool true := by
  apply c_law12_Totps
  unfold p_law12_Totps
  refine law12_twin_ok hR hB hB' most ?_
  by_cases hm : 1 ≤ most ∧ most ≤ 65536
  · rw [if_pos hm]
    simp -implicitDefEqProofs
    refine loopP_go (TotpsI bk rbk most) 20 (Gives.done (by simp) ⟨0, [], rfl, rfl, bOk_nil hm, by omega, by omega, rfl⟩) ?_
    rintro m y g ⟨i, ts, rfl, rfl, hok, i0, i1, rfl⟩
    have e2 := w64 (n := i + 1) (by omega)
    simp -implicitDefEqProofs [ha.len]
    refine iteP_of (fun h1 => iteP_of (fun h2 => ?_) (fun h2 => ?_)) (fun h1 => ?_)
    · simp at h1 h2
      obtain ⟨bb, oo, cs, hg⟩ := ha.get i0 h1
      generalize l.getD i.toNat 0 = s at hg
      simp -implicitDefEqProofs [hg]
      refine totp_Code_ok hR hB hok secret s rfl ?_
      simp -implicitDefEqProofs [hg]
      refine ref12_Code_ok hR hB' hok secret s rfl ?_
      simp -implicitDefEqProofs
      have hok' := tCode_ok (secret := secret) (step := s) hok
      generalize tCode most ts secret s = r at *
      refine totp_Accept_ok hR hB secret last tick _ rfl ?_
      simp -implicitDefEqProofs
      refine ref12_Accept_ok hR hB' hok' secret last tick _ rfl ?_
      simp -implicitDefEqProofs
      refine num14_ok ?_
      simp -implicitDefEqProofs [e2]
      exact Gives.done (by simp) ⟨(20 - (i + 1)).toNat, by omega, i + 1, r.1, rfl, rfl, hok', by omega, by omega, rfl⟩
    all_goals
      refine totp_Accept_ok hR hB secret last tick code rfl ?_
      simp -implicitDefEqProofs
      refine ref12_Accept_ok hR hB' hok secret last tick code rfl ?_
      simp -implicitDefEqProofs
      refine totp_Step_ok tick ?_
      refine ref12_Step_ok tick ?_
      simp -implicitDefEqProofs
      refine same12_ok hR hB hB' hok ?_
      simp -implicitDefEqProofs
      refine awake12_ok hR hB hB' ?_
      simp -implicitDefEqProofs
  · rw [if_neg hm]
    simp -implicitDefEqProofs
    refine awake12_ok hR hB hB' ?_
    simp -implicitDefEqProofs
end
end Go.AI
