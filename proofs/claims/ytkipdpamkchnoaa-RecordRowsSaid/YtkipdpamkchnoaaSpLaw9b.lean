/- RecordForms (printed by gen/law9b.py). -/
import Derived.Test.YtkipdpamkchnoaaSpLaw9
set_option linter.all false
namespace Go.AI
variable {A : Type} {R : Adts A}
theorem recPut_bad {m : Int} {ts : List Bs} {r : Rec} (h : ¬ recMay r = true) : recPut m ts r = (ts, [], 0, 900) := by unfold recPut; rw [if_neg h]
theorem recBody_seq {r q : Rec} (hr : nMay r.seq = true) (hq : nMay q.seq = true) (h : recT r = recT q) : r.seq = q.seq := by
  have h1 : recBody r = recBody q := by simpa [recT] using h
  have e : ∀ x : Rec, recBody x = nS x.seq ++ (nS x.boot ++ (nS x.prev ++ (nS (evPut x.ev).length ++ evPut x.ev))) := fun x => by simp [recBody, nAll]
  rw [e, e] at h1
  exact (nS_head hr hq h1).1
def FJ (ts : List Bs) (o : AHeap A) (vs : List AVal) (g : AHeap A) : Prop := ∃ r : Rec, recPut 1 ts r = (ts, [], 0, 900) ∧ g = o ++ [.cells t_api_Record r.row]
section
variable {bk rbk : Int → List Bs → A}
theorem RecordForms_ok (hR : R.Ok) (hB : HasBook R bk) (hB' : HasRBook R rbk) (which x : Int) : Tri Pr R n_law9_RecordForms [.int .i64 which, .int .i64 x] [] fun u _ => u = .bool true := by
  apply c_law9_RecordForms
  unfold p_law9_RecordForms
  rw [reps11]
  refine awake9_ok hR hB hB' ?_
  simp -implicitDefEqProofs
  rw [bits_mask x 10 (by omega) 1023 (by decide)]
  obtain ⟨d0, hd, d1, d2⟩ : ∃ d, x % 2 ^ 10 = d ∧ 0 ≤ d ∧ d < 1024 := ⟨_, rfl, by omega, by omega⟩
  rw [hd]
  have e1 := w64 (n := 1 + d0) (by omega)
  have e2 := w64 (n := 1 - (1 + d0)) (by omega)
  have e3 := w64 (n := 1073741823 + (1 + d0)) (by omega)
  have e4 := w64 (n := -(1 + d0)) (by omega)
  have e5 := w64 (n := 9 + (1 + d0)) (by omega)
  have e6 := w64 (n := 1073741823 - (1 + d0)) (by omega)
  refine book_New_ok hR hB 1 ?_
  rw [if_pos (by omega)]
  simp -implicitDefEqProofs
  refine num14_ok ?_
  simp -implicitDefEqProofs [e1]
  have b0 : bOk 1 [] := bOk_nil (by omega)
  obtain ⟨t1, f1⟩ : ∃ t : List Bs, t = [recT ⟨1073741823, 1073741823, 1073741823, ⟨6, 0, 1073741823, 0, 1073741823, 4, 0, 1048575⟩⟩] := ⟨_, rfl⟩
  obtain ⟨s, f2⟩ : ∃ t : Bs, t = pad (recBody ⟨1073741823, 1073741823, 1073741823, ⟨6, 0, 1073741823, 0, 1073741823, 4, 0, 1048575⟩⟩ ++ [0]) := ⟨_, rfl⟩
  have k1 : recPut 1 [] ⟨1073741823, 1073741823, 1073741823, ⟨6, 0, 1073741823, 0, 1073741823, 4, 0, 1048575⟩⟩ = (t1, s, 0, 0) := by rw [f1, f2]; decide +kernel
  have b1 := bOk_rput b0 k1
  have k2 : recGet t1 s 1073741823 1073741823 = (⟨1073741823, 1073741823, 1073741823, ⟨6, 0, 1073741823, 0, 1073741823, 4, 0, 1048575⟩⟩, 0, 0) := by rw [f1, f2]; decide +kernel
  have l1 : s.length = 64 := by rw [f2]; decide +kernel
  have k6 : (t1.length : Int) = 1 := by rw [f1]; rfl
  have hfull : ∀ r : Rec, r.seq = 1073741823 - (1 + d0) → recPut 1 t1 r = (t1, [], 0, 900) := by
    intro r hr
    by_cases hm : recMay r = true
    · have hnot : recT r ∉ t1 := by
        rw [f1]
        simp only [List.mem_singleton]
        intro h
        have := recBody_seq (recMay_all hm).2.2.1 (by rfl) h
        simp only at this
        omega
      unfold recPut
      rw [if_pos hm, cMade_full hnot (by omega)]
      rfl
    · exact recPut_bad hm
  clear f1 f2
  refine RPut_at (r := ⟨1073741823, 1073741823, 1073741823, ⟨6, 0, 1073741823, 0, 1073741823, 4, 0, 1048575⟩⟩) hR hB b0 k1 rfl ?_
  simp -implicitDefEqProofs
  refine joinP_all (FJ t1 [.adt (bk 1 t1), .cells t_api_Record (Rec.row ⟨1073741823, 1073741823, 1073741823, ⟨6, 0, 1073741823, 0, 1073741823, 4, 0, 1048575⟩⟩)]) ?_ ?_
  · obtain ⟨k, hk, k0', k9⟩ : ∃ k, (IntKind.u64.wrap which).tmod 9 = k ∧ 0 ≤ k ∧ k < 9 := by
      have h1 : 0 ≤ IntKind.u64.wrap which := by simp [IntKind.wrap, IntKind.signed, IntKind.bits]; omega
      exact ⟨_, rfl, Int.tmod_nonneg _ h1, Int.tmod_lt_of_pos _ (by omega)⟩
    simp -implicitDefEqProofs [hk, e1, e2, e3, e4, e5, e6]
    refine iteP_of (fun _ => ?_) (fun _ => iteP_of (fun _ => ?_) (fun _ => iteP_of (fun _ => ?_) (fun _ => iteP_of (fun _ => ?_) (fun _ => iteP_of (fun _ => ?_) (fun _ => iteP_of (fun _ => ?_) (fun _ => iteP_of (fun _ => ?_) (fun _ => iteP_of (fun _ => ?_) (fun _ => ?_))))))))
    · exact ⟨⟨1 - (1 + d0), 1073741823, 1073741823, ⟨6, 0, 1073741823, 0, 1073741823, 4, 0, 1048575⟩⟩, recPut_bad (fun h => by have := (recMay_all h).2.1; simp only at this; omega), rfl⟩
    · exact ⟨⟨1073741823 + (1 + d0), 1073741823, 1073741823, ⟨6, 0, 1073741823, 0, 1073741823, 4, 0, 1048575⟩⟩, recPut_bad (fun h => by have := (recMay_all h).2.2.1; simp [nMay] at this; omega), rfl⟩
    · exact ⟨⟨1073741823, 1 - (1 + d0), 1073741823, ⟨6, 0, 1073741823, 0, 1073741823, 4, 0, 1048575⟩⟩, recPut_bad (fun h => by have := (recMay_all h).2.2.2.1; simp only at this; omega), rfl⟩
    · exact ⟨⟨1073741823, 1073741823 + (1 + d0), 1073741823, ⟨6, 0, 1073741823, 0, 1073741823, 4, 0, 1048575⟩⟩, recPut_bad (fun h => by have := (recMay_all h).2.2.2.2.1; simp [nMay] at this; omega), rfl⟩
    · exact ⟨⟨1073741823, 1073741823, -(1 + d0), ⟨6, 0, 1073741823, 0, 1073741823, 4, 0, 1048575⟩⟩, recPut_bad (fun h => by have := (recMay_all h).2.2.2.2.2.1; simp [nMay] at this; omega), rfl⟩
    · exact ⟨⟨1073741823, 1073741823, 1073741823 + (1 + d0), ⟨6, 0, 1073741823, 0, 1073741823, 4, 0, 1048575⟩⟩, recPut_bad (fun h => by have := (recMay_all h).2.2.2.2.2.1; simp [nMay] at this; omega), rfl⟩
    · exact ⟨⟨1073741823, 1073741823, 1073741823, ⟨9 + (1 + d0), 0, 1073741823, 0, 1073741823, 4, 0, 1048575⟩⟩, recPut_bad (fun h => by have := evMay_kind (recMay_all h).1; simp only at this; omega), rfl⟩
    · exact ⟨⟨1073741823, 1073741823, 1073741823, ⟨6, 1 + d0, 1073741823, 0, 1073741823, 4, 0, 1048575⟩⟩, recPut_bad (fun h => by have := evMay_plain (recMay_all h).1; simp [evPlain, evOf, evParts, ev0] at this; omega), rfl⟩
    · exact ⟨⟨1073741823 - (1 + d0), 1073741823, 1073741823, ⟨6, 0, 1073741823, 0, 1073741823, 4, 0, 1048575⟩⟩, hfull _ rfl, rfl⟩
  rintro vs _ ⟨r, hr, rfl⟩
  refine ⟨by simp, ?_⟩
  simp -implicitDefEqProofs [Rec.row, Ev.row]
  refine RPut_at (r := r) hR hB b1 hr rfl ?_
  simp -implicitDefEqProofs
  refine RGet_at hR hB (by omega) k2 rfl ?_
  have hs := shRec ⟨1073741823, 1073741823, 1073741823, ⟨6, 0, 1073741823, 0, 1073741823, 4, 0, 1048575⟩⟩ ⟨1073741823, 1073741823, 1073741823, ⟨6, 0, 1073741823, 0, 1073741823, 4, 0, 1048575⟩⟩
  simp only [Rec.row, Ev.row] at hs
  simp -implicitDefEqProofs [Rec.row, Ev.row, l1, hs]
  repeat (refine num14_ok ?_; simp -implicitDefEqProofs [l1, hs])
  refine Len_at hR hB k6 rfl ?_
  simp -implicitDefEqProofs
end
end Go.AI
