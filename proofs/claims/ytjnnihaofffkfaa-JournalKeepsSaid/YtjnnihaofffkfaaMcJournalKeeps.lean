/- The document's events are written, are read (printed by gen/event_gen4.py). -/
import Derived.Test.YtjnnihaofffkfaaMbJournalKeeps
set_option linter.all false
namespace Go.AI
variable {A : Type} {R : Adts A}
theorem ref1_GetEvent_0 (hR : R.Ok) (s : Bs0) (hs : s.length < 8000000000000000000) (t0 : Int) (hg : gNum s 0 = (0, t0, 0)) {h : AHeap A} {K : AVal → AHeap A → Prop} (hk : K (evTup (evGet s)) h) : Tri Pr R n_ref1_GetEvent [.str s] h K := by
  refine Tri.fn1 hR _ (evTup_ix _) rfl ?_ hk
  have q := gNum_enc hg
  apply c_ref1_GetEvent
  unfold p_ref1_GetEvent
  simp -implicitDefEqProofs
  have hf : (.cells t_bastionref1_Reader [.str s, .int .i64 0, .bool false] : AObj A) = rRead s 0 false := rfl
  rw [hf]
  refine rReader_ok hR s (by omega) 0 (by omega) false ?_
  rw [hg]
  dsimp only
  rw [if_pos ⟨rfl, rfl⟩]
  simp -implicitDefEqProofs
  repeat (first | refine joinP_go ?_ | simp -implicitDefEqProofs)
  refine rReader_ok hR s (by omega) t0 (by omega) false ?_
  obtain ⟨x0, t1, e0, hg0⟩ : ∃ x t e, gNum s t0 = (x, t, e) := ⟨_, _, _, rfl⟩
  rw [hg0]
  dsimp only
  by_cases he0 : e0 = 0
  · subst he0
    have q0 := gNum_enc hg0
    rw [if_pos ⟨rfl, rfl⟩]
    simp -implicitDefEqProofs
    by_cases hl : t1 = s.length
    · have hl' : (t1 != (s.length : Int)) = false := by simp [hl]
      simp -implicitDefEqProofs [hl']
      refine ref1_EventMay_ok hR ⟨0, 0, 0, 0, 0, 0, 0, x0⟩ ?_
      have hev : evGet s = if evMay ⟨0, 0, 0, 0, 0, 0, 0, x0⟩ = true then some ⟨0, 0, 0, 0, 0, 0, 0, x0⟩ else none := by simp [evGet, rNums, evCount, evOf, ev0, hg, hg0, hl]
      cases hm : evMay ⟨0, 0, 0, 0, 0, 0, 0, x0⟩ with
      | true => rw [hm] at hev; simp at hev; simp -implicitDefEqProofs; rw [hev]; exact Ans.rfl' _
      | false => rw [hm] at hev; simp at hev; simp -implicitDefEqProofs; rw [hev]; exact Ans.rfl' _
    · have hl' : (t1 != (s.length : Int)) = true := by simpa using hl
      have hev : evGet s = none := by simp [evGet, rNums, evCount, hg, hg0, hl]
      rw [hev]
      simp -implicitDefEqProofs [hl']
      exact Ans.rfl' _
  · rw [if_neg (by simp [he0])]
    simp -implicitDefEqProofs
    have hev : evGet s = none := by simp [evGet, rNums, evCount, hg, hg0, he0]
    rw [hev]
    exact Ans.rfl' _
theorem ref1_GetEvent_1 (hR : R.Ok) (s : Bs0) (hs : s.length < 8000000000000000000) (t0 : Int) (hg : gNum s 0 = (1, t0, 0)) {h : AHeap A} {K : AVal → AHeap A → Prop} (hk : K (evTup (evGet s)) h) : Tri Pr R n_ref1_GetEvent [.str s] h K := by
  refine Tri.fn1 hR _ (evTup_ix _) rfl ?_ hk
  have q := gNum_enc hg
  apply c_ref1_GetEvent
  unfold p_ref1_GetEvent
  simp -implicitDefEqProofs
  have hf : (.cells t_bastionref1_Reader [.str s, .int .i64 0, .bool false] : AObj A) = rRead s 0 false := rfl
  rw [hf]
  refine rReader_ok hR s (by omega) 0 (by omega) false ?_
  rw [hg]
  dsimp only
  rw [if_pos ⟨rfl, rfl⟩]
  simp -implicitDefEqProofs
  repeat (first | refine joinP_go ?_ | simp -implicitDefEqProofs)
  refine rReader_ok hR s (by omega) t0 (by omega) false ?_
  obtain ⟨x0, t1, e0, hg0⟩ : ∃ x t e, gNum s t0 = (x, t, e) := ⟨_, _, _, rfl⟩
  rw [hg0]
  dsimp only
  by_cases he0 : e0 = 0
  · subst he0
    have q0 := gNum_enc hg0
    rw [if_pos ⟨rfl, rfl⟩]
    simp -implicitDefEqProofs
    refine rReader_ok hR s (by omega) t1 (by omega) false ?_
    obtain ⟨x1, t2, e1, hg1⟩ : ∃ x t e, gNum s t1 = (x, t, e) := ⟨_, _, _, rfl⟩
    rw [hg1]
    dsimp only
    by_cases he1 : e1 = 0
    · subst he1
      have q1 := gNum_enc hg1
      rw [if_pos ⟨rfl, rfl⟩]
      simp -implicitDefEqProofs
      refine rReader_ok hR s (by omega) t2 (by omega) false ?_
      obtain ⟨x2, t3, e2, hg2⟩ : ∃ x t e, gNum s t2 = (x, t, e) := ⟨_, _, _, rfl⟩
      rw [hg2]
      dsimp only
      by_cases he2 : e2 = 0
      · subst he2
        have q2 := gNum_enc hg2
        rw [if_pos ⟨rfl, rfl⟩]
        simp -implicitDefEqProofs
        refine rReader_ok hR s (by omega) t3 (by omega) false ?_
        obtain ⟨x3, t4, e3, hg3⟩ : ∃ x t e, gNum s t3 = (x, t, e) := ⟨_, _, _, rfl⟩
        rw [hg3]
        dsimp only
        by_cases he3 : e3 = 0
        · subst he3
          have q3 := gNum_enc hg3
          rw [if_pos ⟨rfl, rfl⟩]
          simp -implicitDefEqProofs
          by_cases hl : t4 = s.length
          · have hl' : (t4 != (s.length : Int)) = false := by simp [hl]
            simp -implicitDefEqProofs [hl']
            refine ref1_EventMay_ok hR ⟨1, x0, 0, 0, x1, x2, x3, 0⟩ ?_
            have hev : evGet s = if evMay ⟨1, x0, 0, 0, x1, x2, x3, 0⟩ = true then some ⟨1, x0, 0, 0, x1, x2, x3, 0⟩ else none := by simp [evGet, rNums, evCount, evOf, ev0, hg, hg0, hg1, hg2, hg3, hl]
            cases hm : evMay ⟨1, x0, 0, 0, x1, x2, x3, 0⟩ with
            | true => rw [hm] at hev; simp at hev; simp -implicitDefEqProofs; rw [hev]; exact Ans.rfl' _
            | false => rw [hm] at hev; simp at hev; simp -implicitDefEqProofs; rw [hev]; exact Ans.rfl' _
          · have hl' : (t4 != (s.length : Int)) = true := by simpa using hl
            have hev : evGet s = none := by simp [evGet, rNums, evCount, hg, hg0, hg1, hg2, hg3, hl]
            rw [hev]
            simp -implicitDefEqProofs [hl']
            exact Ans.rfl' _
        · rw [if_neg (by simp [he3])]
          simp -implicitDefEqProofs
          have hev : evGet s = none := by simp [evGet, rNums, evCount, hg, hg0, hg1, hg2, hg3, he3]
          rw [hev]
          exact Ans.rfl' _
      · rw [if_neg (by simp [he2])]
        simp -implicitDefEqProofs
        refine rReader_ok hR s (by omega) t2 (by omega) true ?_
        rw [if_neg (by simp)]
        simp -implicitDefEqProofs
        have hev : evGet s = none := by simp [evGet, rNums, evCount, hg, hg0, hg1, hg2, he2]
        rw [hev]
        exact Ans.rfl' _
    · rw [if_neg (by simp [he1])]
      simp -implicitDefEqProofs
      refine rReader_ok hR s (by omega) t1 (by omega) true ?_
      rw [if_neg (by simp)]
      simp -implicitDefEqProofs
      refine rReader_ok hR s (by omega) t1 (by omega) true ?_
      rw [if_neg (by simp)]
      simp -implicitDefEqProofs
      have hev : evGet s = none := by simp [evGet, rNums, evCount, hg, hg0, hg1, he1]
      rw [hev]
      exact Ans.rfl' _
  · rw [if_neg (by simp [he0])]
    simp -implicitDefEqProofs
    refine rReader_ok hR s (by omega) t0 (by omega) true ?_
    rw [if_neg (by simp)]
    simp -implicitDefEqProofs
    refine rReader_ok hR s (by omega) t0 (by omega) true ?_
    rw [if_neg (by simp)]
    simp -implicitDefEqProofs
    refine rReader_ok hR s (by omega) t0 (by omega) true ?_
    rw [if_neg (by simp)]
    simp -implicitDefEqProofs
    have hev : evGet s = none := by simp [evGet, rNums, evCount, hg, hg0, he0]
    rw [hev]
    exact Ans.rfl' _
theorem ref1_GetEvent_2 (hR : R.Ok) (s : Bs0) (hs : s.length < 8000000000000000000) (t0 : Int) (hg : gNum s 0 = (2, t0, 0)) {h : AHeap A} {K : AVal → AHeap A → Prop} (hk : K (evTup (evGet s)) h) : Tri Pr R n_ref1_GetEvent [.str s] h K := by
  refine Tri.fn1 hR _ (evTup_ix _) rfl ?_ hk
  have q := gNum_enc hg
  apply c_ref1_GetEvent
  unfold p_ref1_GetEvent
  simp -implicitDefEqProofs
  have hf : (.cells t_bastionref1_Reader [.str s, .int .i64 0, .bool false] : AObj A) = rRead s 0 false := rfl
  rw [hf]
  refine rReader_ok hR s (by omega) 0 (by omega) false ?_
  rw [hg]
  dsimp only
  rw [if_pos ⟨rfl, rfl⟩]
  simp -implicitDefEqProofs
  repeat (first | refine joinP_go ?_ | simp -implicitDefEqProofs)
  refine rReader_ok hR s (by omega) t0 (by omega) false ?_
  obtain ⟨x0, t1, e0, hg0⟩ : ∃ x t e, gNum s t0 = (x, t, e) := ⟨_, _, _, rfl⟩
  rw [hg0]
  dsimp only
  by_cases he0 : e0 = 0
  · subst he0
    have q0 := gNum_enc hg0
    rw [if_pos ⟨rfl, rfl⟩]
    simp -implicitDefEqProofs
    refine rReader_ok hR s (by omega) t1 (by omega) false ?_
    obtain ⟨x1, t2, e1, hg1⟩ : ∃ x t e, gNum s t1 = (x, t, e) := ⟨_, _, _, rfl⟩
    rw [hg1]
    dsimp only
    by_cases he1 : e1 = 0
    · subst he1
      have q1 := gNum_enc hg1
      rw [if_pos ⟨rfl, rfl⟩]
      simp -implicitDefEqProofs
      by_cases hl : t2 = s.length
      · have hl' : (t2 != (s.length : Int)) = false := by simp [hl]
        simp -implicitDefEqProofs [hl']
        refine ref1_EventMay_ok hR ⟨2, x0, 0, 0, 0, 0, 0, x1⟩ ?_
        have hev : evGet s = if evMay ⟨2, x0, 0, 0, 0, 0, 0, x1⟩ = true then some ⟨2, x0, 0, 0, 0, 0, 0, x1⟩ else none := by simp [evGet, rNums, evCount, evOf, ev0, hg, hg0, hg1, hl]
        cases hm : evMay ⟨2, x0, 0, 0, 0, 0, 0, x1⟩ with
        | true => rw [hm] at hev; simp at hev; simp -implicitDefEqProofs; rw [hev]; exact Ans.rfl' _
        | false => rw [hm] at hev; simp at hev; simp -implicitDefEqProofs; rw [hev]; exact Ans.rfl' _
      · have hl' : (t2 != (s.length : Int)) = true := by simpa using hl
        have hev : evGet s = none := by simp [evGet, rNums, evCount, hg, hg0, hg1, hl]
        rw [hev]
        simp -implicitDefEqProofs [hl']
        exact Ans.rfl' _
    · rw [if_neg (by simp [he1])]
      simp -implicitDefEqProofs
      have hev : evGet s = none := by simp [evGet, rNums, evCount, hg, hg0, hg1, he1]
      rw [hev]
      exact Ans.rfl' _
  · rw [if_neg (by simp [he0])]
    simp -implicitDefEqProofs
    refine rReader_ok hR s (by omega) t0 (by omega) true ?_
    rw [if_neg (by simp)]
    simp -implicitDefEqProofs
    have hev : evGet s = none := by simp [evGet, rNums, evCount, hg, hg0, he0]
    rw [hev]
    exact Ans.rfl' _
theorem ref1_GetEvent_3 (hR : R.Ok) (s : Bs0) (hs : s.length < 8000000000000000000) (t0 : Int) (hg : gNum s 0 = (3, t0, 0)) {h : AHeap A} {K : AVal → AHeap A → Prop} (hk : K (evTup (evGet s)) h) : Tri Pr R n_ref1_GetEvent [.str s] h K := by
  refine Tri.fn1 hR _ (evTup_ix _) rfl ?_ hk
  have q := gNum_enc hg
  apply c_ref1_GetEvent
  unfold p_ref1_GetEvent
  simp -implicitDefEqProofs
  have hf : (.cells t_bastionref1_Reader [.str s, .int .i64 0, .bool false] : AObj A) = rRead s 0 false := rfl
  rw [hf]
  refine rReader_ok hR s (by omega) 0 (by omega) false ?_
  rw [hg]
  dsimp only
  rw [if_pos ⟨rfl, rfl⟩]
  simp -implicitDefEqProofs
  repeat (first | refine joinP_go ?_ | simp -implicitDefEqProofs)
  refine rReader_ok hR s (by omega) t0 (by omega) false ?_
  obtain ⟨x0, t1, e0, hg0⟩ : ∃ x t e, gNum s t0 = (x, t, e) := ⟨_, _, _, rfl⟩
  rw [hg0]
  dsimp only
  by_cases he0 : e0 = 0
  · subst he0
    have q0 := gNum_enc hg0
    rw [if_pos ⟨rfl, rfl⟩]
    simp -implicitDefEqProofs
    refine rReader_ok hR s (by omega) t1 (by omega) false ?_
    obtain ⟨x1, t2, e1, hg1⟩ : ∃ x t e, gNum s t1 = (x, t, e) := ⟨_, _, _, rfl⟩
    rw [hg1]
    dsimp only
    by_cases he1 : e1 = 0
    · subst he1
      have q1 := gNum_enc hg1
      rw [if_pos ⟨rfl, rfl⟩]
      simp -implicitDefEqProofs
      by_cases hl : t2 = s.length
      · have hl' : (t2 != (s.length : Int)) = false := by simp [hl]
        simp -implicitDefEqProofs [hl']
        refine ref1_EventMay_ok hR ⟨3, x0, 0, 0, x1, 0, 0, 0⟩ ?_
        have hev : evGet s = if evMay ⟨3, x0, 0, 0, x1, 0, 0, 0⟩ = true then some ⟨3, x0, 0, 0, x1, 0, 0, 0⟩ else none := by simp [evGet, rNums, evCount, evOf, ev0, hg, hg0, hg1, hl]
        cases hm : evMay ⟨3, x0, 0, 0, x1, 0, 0, 0⟩ with
        | true => rw [hm] at hev; simp at hev; simp -implicitDefEqProofs; rw [hev]; exact Ans.rfl' _
        | false => rw [hm] at hev; simp at hev; simp -implicitDefEqProofs; rw [hev]; exact Ans.rfl' _
      · have hl' : (t2 != (s.length : Int)) = true := by simpa using hl
        have hev : evGet s = none := by simp [evGet, rNums, evCount, hg, hg0, hg1, hl]
        rw [hev]
        simp -implicitDefEqProofs [hl']
        exact Ans.rfl' _
    · rw [if_neg (by simp [he1])]
      simp -implicitDefEqProofs
      have hev : evGet s = none := by simp [evGet, rNums, evCount, hg, hg0, hg1, he1]
      rw [hev]
      exact Ans.rfl' _
  · rw [if_neg (by simp [he0])]
    simp -implicitDefEqProofs
    refine rReader_ok hR s (by omega) t0 (by omega) true ?_
    rw [if_neg (by simp)]
    simp -implicitDefEqProofs
    have hev : evGet s = none := by simp [evGet, rNums, evCount, hg, hg0, he0]
    rw [hev]
    exact Ans.rfl' _
theorem ref1_GetEvent_4 (hR : R.Ok) (s : Bs0) (hs : s.length < 8000000000000000000) (t0 : Int) (hg : gNum s 0 = (4, t0, 0)) {h : AHeap A} {K : AVal → AHeap A → Prop} (hk : K (evTup (evGet s)) h) : Tri Pr R n_ref1_GetEvent [.str s] h K := by
  refine Tri.fn1 hR _ (evTup_ix _) rfl ?_ hk
  have q := gNum_enc hg
  apply c_ref1_GetEvent
  unfold p_ref1_GetEvent
  simp -implicitDefEqProofs
  have hf : (.cells t_bastionref1_Reader [.str s, .int .i64 0, .bool false] : AObj A) = rRead s 0 false := rfl
  rw [hf]
  refine rReader_ok hR s (by omega) 0 (by omega) false ?_
  rw [hg]
  dsimp only
  rw [if_pos ⟨rfl, rfl⟩]
  simp -implicitDefEqProofs
  repeat (first | refine joinP_go ?_ | simp -implicitDefEqProofs)
  refine rReader_ok hR s (by omega) t0 (by omega) false ?_
  obtain ⟨x0, t1, e0, hg0⟩ : ∃ x t e, gNum s t0 = (x, t, e) := ⟨_, _, _, rfl⟩
  rw [hg0]
  dsimp only
  by_cases he0 : e0 = 0
  · subst he0
    have q0 := gNum_enc hg0
    rw [if_pos ⟨rfl, rfl⟩]
    simp -implicitDefEqProofs
    by_cases hl : t1 = s.length
    · have hl' : (t1 != (s.length : Int)) = false := by simp [hl]
      simp -implicitDefEqProofs [hl']
      refine ref1_EventMay_ok hR ⟨4, x0, 0, 0, 0, 0, 0, 0⟩ ?_
      have hev : evGet s = if evMay ⟨4, x0, 0, 0, 0, 0, 0, 0⟩ = true then some ⟨4, x0, 0, 0, 0, 0, 0, 0⟩ else none := by simp [evGet, rNums, evCount, evOf, ev0, hg, hg0, hl]
      cases hm : evMay ⟨4, x0, 0, 0, 0, 0, 0, 0⟩ with
      | true => rw [hm] at hev; simp at hev; simp -implicitDefEqProofs; rw [hev]; exact Ans.rfl' _
      | false => rw [hm] at hev; simp at hev; simp -implicitDefEqProofs; rw [hev]; exact Ans.rfl' _
    · have hl' : (t1 != (s.length : Int)) = true := by simpa using hl
      have hev : evGet s = none := by simp [evGet, rNums, evCount, hg, hg0, hl]
      rw [hev]
      simp -implicitDefEqProofs [hl']
      exact Ans.rfl' _
  · rw [if_neg (by simp [he0])]
    simp -implicitDefEqProofs
    have hev : evGet s = none := by simp [evGet, rNums, evCount, hg, hg0, he0]
    rw [hev]
    exact Ans.rfl' _
theorem ref1_GetEvent_5 (hR : R.Ok) (s : Bs0) (hs : s.length < 8000000000000000000) (t0 : Int) (hg : gNum s 0 = (5, t0, 0)) {h : AHeap A} {K : AVal → AHeap A → Prop} (hk : K (evTup (evGet s)) h) : Tri Pr R n_ref1_GetEvent [.str s] h K := by
  refine Tri.fn1 hR _ (evTup_ix _) rfl ?_ hk
  have q := gNum_enc hg
  apply c_ref1_GetEvent
  unfold p_ref1_GetEvent
  simp -implicitDefEqProofs
  have hf : (.cells t_bastionref1_Reader [.str s, .int .i64 0, .bool false] : AObj A) = rRead s 0 false := rfl
  rw [hf]
  refine rReader_ok hR s (by omega) 0 (by omega) false ?_
  rw [hg]
  dsimp only
  rw [if_pos ⟨rfl, rfl⟩]
  simp -implicitDefEqProofs
  repeat (first | refine joinP_go ?_ | simp -implicitDefEqProofs)
  refine rReader_ok hR s (by omega) t0 (by omega) false ?_
  obtain ⟨x0, t1, e0, hg0⟩ : ∃ x t e, gNum s t0 = (x, t, e) := ⟨_, _, _, rfl⟩
  rw [hg0]
  dsimp only
  by_cases he0 : e0 = 0
  · subst he0
    have q0 := gNum_enc hg0
    rw [if_pos ⟨rfl, rfl⟩]
    simp -implicitDefEqProofs
    refine rReader_ok hR s (by omega) t1 (by omega) false ?_
    obtain ⟨x1, t2, e1, hg1⟩ : ∃ x t e, gNum s t1 = (x, t, e) := ⟨_, _, _, rfl⟩
    rw [hg1]
    dsimp only
    by_cases he1 : e1 = 0
    · subst he1
      have q1 := gNum_enc hg1
      rw [if_pos ⟨rfl, rfl⟩]
      simp -implicitDefEqProofs
      refine rReader_ok hR s (by omega) t2 (by omega) false ?_
      obtain ⟨x2, t3, e2, hg2⟩ : ∃ x t e, gNum s t2 = (x, t, e) := ⟨_, _, _, rfl⟩
      rw [hg2]
      dsimp only
      by_cases he2 : e2 = 0
      · subst he2
        have q2 := gNum_enc hg2
        rw [if_pos ⟨rfl, rfl⟩]
        simp -implicitDefEqProofs
        refine rReader_ok hR s (by omega) t3 (by omega) false ?_
        obtain ⟨x3, t4, e3, hg3⟩ : ∃ x t e, gNum s t3 = (x, t, e) := ⟨_, _, _, rfl⟩
        rw [hg3]
        dsimp only
        by_cases he3 : e3 = 0
        · subst he3
          have q3 := gNum_enc hg3
          rw [if_pos ⟨rfl, rfl⟩]
          simp -implicitDefEqProofs
          by_cases hl : t4 = s.length
          · have hl' : (t4 != (s.length : Int)) = false := by simp [hl]
            simp -implicitDefEqProofs [hl']
            refine ref1_EventMay_ok hR ⟨5, x1, x0, x2, 0, 0, 0, x3⟩ ?_
            have hev : evGet s = if evMay ⟨5, x1, x0, x2, 0, 0, 0, x3⟩ = true then some ⟨5, x1, x0, x2, 0, 0, 0, x3⟩ else none := by simp [evGet, rNums, evCount, evOf, ev0, hg, hg0, hg1, hg2, hg3, hl]
            cases hm : evMay ⟨5, x1, x0, x2, 0, 0, 0, x3⟩ with
            | true => rw [hm] at hev; simp at hev; simp -implicitDefEqProofs; rw [hev]; exact Ans.rfl' _
            | false => rw [hm] at hev; simp at hev; simp -implicitDefEqProofs; rw [hev]; exact Ans.rfl' _
          · have hl' : (t4 != (s.length : Int)) = true := by simpa using hl
            have hev : evGet s = none := by simp [evGet, rNums, evCount, hg, hg0, hg1, hg2, hg3, hl]
            rw [hev]
            simp -implicitDefEqProofs [hl']
            exact Ans.rfl' _
        · rw [if_neg (by simp [he3])]
          simp -implicitDefEqProofs
          have hev : evGet s = none := by simp [evGet, rNums, evCount, hg, hg0, hg1, hg2, hg3, he3]
          rw [hev]
          exact Ans.rfl' _
      · rw [if_neg (by simp [he2])]
        simp -implicitDefEqProofs
        refine rReader_ok hR s (by omega) t2 (by omega) true ?_
        rw [if_neg (by simp)]
        simp -implicitDefEqProofs
        have hev : evGet s = none := by simp [evGet, rNums, evCount, hg, hg0, hg1, hg2, he2]
        rw [hev]
        exact Ans.rfl' _
    · rw [if_neg (by simp [he1])]
      simp -implicitDefEqProofs
      refine rReader_ok hR s (by omega) t1 (by omega) true ?_
      rw [if_neg (by simp)]
      simp -implicitDefEqProofs
      refine rReader_ok hR s (by omega) t1 (by omega) true ?_
      rw [if_neg (by simp)]
      simp -implicitDefEqProofs
      have hev : evGet s = none := by simp [evGet, rNums, evCount, hg, hg0, hg1, he1]
      rw [hev]
      exact Ans.rfl' _
  · rw [if_neg (by simp [he0])]
    simp -implicitDefEqProofs
    refine rReader_ok hR s (by omega) t0 (by omega) true ?_
    rw [if_neg (by simp)]
    simp -implicitDefEqProofs
    refine rReader_ok hR s (by omega) t0 (by omega) true ?_
    rw [if_neg (by simp)]
    simp -implicitDefEqProofs
    refine rReader_ok hR s (by omega) t0 (by omega) true ?_
    rw [if_neg (by simp)]
    simp -implicitDefEqProofs
    have hev : evGet s = none := by simp [evGet, rNums, evCount, hg, hg0, he0]
    rw [hev]
    exact Ans.rfl' _
theorem ref1_GetEvent_6 (hR : R.Ok) (s : Bs0) (hs : s.length < 8000000000000000000) (t0 : Int) (hg : gNum s 0 = (6, t0, 0)) {h : AHeap A} {K : AVal → AHeap A → Prop} (hk : K (evTup (evGet s)) h) : Tri Pr R n_ref1_GetEvent [.str s] h K := by
  refine Tri.fn1 hR _ (evTup_ix _) rfl ?_ hk
  have q := gNum_enc hg
  apply c_ref1_GetEvent
  unfold p_ref1_GetEvent
  simp -implicitDefEqProofs
  have hf : (.cells t_bastionref1_Reader [.str s, .int .i64 0, .bool false] : AObj A) = rRead s 0 false := rfl
  rw [hf]
  refine rReader_ok hR s (by omega) 0 (by omega) false ?_
  rw [hg]
  dsimp only
  rw [if_pos ⟨rfl, rfl⟩]
  simp -implicitDefEqProofs
  repeat (first | refine joinP_go ?_ | simp -implicitDefEqProofs)
  refine rReader_ok hR s (by omega) t0 (by omega) false ?_
  obtain ⟨x0, t1, e0, hg0⟩ : ∃ x t e, gNum s t0 = (x, t, e) := ⟨_, _, _, rfl⟩
  rw [hg0]
  dsimp only
  by_cases he0 : e0 = 0
  · subst he0
    have q0 := gNum_enc hg0
    rw [if_pos ⟨rfl, rfl⟩]
    simp -implicitDefEqProofs
    refine rReader_ok hR s (by omega) t1 (by omega) false ?_
    obtain ⟨x1, t2, e1, hg1⟩ : ∃ x t e, gNum s t1 = (x, t, e) := ⟨_, _, _, rfl⟩
    rw [hg1]
    dsimp only
    by_cases he1 : e1 = 0
    · subst he1
      have q1 := gNum_enc hg1
      rw [if_pos ⟨rfl, rfl⟩]
      simp -implicitDefEqProofs
      refine rReader_ok hR s (by omega) t2 (by omega) false ?_
      obtain ⟨x2, t3, e2, hg2⟩ : ∃ x t e, gNum s t2 = (x, t, e) := ⟨_, _, _, rfl⟩
      rw [hg2]
      dsimp only
      by_cases he2 : e2 = 0
      · subst he2
        have q2 := gNum_enc hg2
        rw [if_pos ⟨rfl, rfl⟩]
        simp -implicitDefEqProofs
        refine rReader_ok hR s (by omega) t3 (by omega) false ?_
        obtain ⟨x3, t4, e3, hg3⟩ : ∃ x t e, gNum s t3 = (x, t, e) := ⟨_, _, _, rfl⟩
        rw [hg3]
        dsimp only
        by_cases he3 : e3 = 0
        · subst he3
          have q3 := gNum_enc hg3
          rw [if_pos ⟨rfl, rfl⟩]
          simp -implicitDefEqProofs
          by_cases hl : t4 = s.length
          · have hl' : (t4 != (s.length : Int)) = false := by simp [hl]
            simp -implicitDefEqProofs [hl']
            refine ref1_EventMay_ok hR ⟨6, 0, x0, 0, x1, x2, 0, x3⟩ ?_
            have hev : evGet s = if evMay ⟨6, 0, x0, 0, x1, x2, 0, x3⟩ = true then some ⟨6, 0, x0, 0, x1, x2, 0, x3⟩ else none := by simp [evGet, rNums, evCount, evOf, ev0, hg, hg0, hg1, hg2, hg3, hl]
            cases hm : evMay ⟨6, 0, x0, 0, x1, x2, 0, x3⟩ with
            | true => rw [hm] at hev; simp at hev; simp -implicitDefEqProofs; rw [hev]; exact Ans.rfl' _
            | false => rw [hm] at hev; simp at hev; simp -implicitDefEqProofs; rw [hev]; exact Ans.rfl' _
          · have hl' : (t4 != (s.length : Int)) = true := by simpa using hl
            have hev : evGet s = none := by simp [evGet, rNums, evCount, hg, hg0, hg1, hg2, hg3, hl]
            rw [hev]
            simp -implicitDefEqProofs [hl']
            exact Ans.rfl' _
        · rw [if_neg (by simp [he3])]
          simp -implicitDefEqProofs
          have hev : evGet s = none := by simp [evGet, rNums, evCount, hg, hg0, hg1, hg2, hg3, he3]
          rw [hev]
          exact Ans.rfl' _
      · rw [if_neg (by simp [he2])]
        simp -implicitDefEqProofs
        refine rReader_ok hR s (by omega) t2 (by omega) true ?_
        rw [if_neg (by simp)]
        simp -implicitDefEqProofs
        have hev : evGet s = none := by simp [evGet, rNums, evCount, hg, hg0, hg1, hg2, he2]
        rw [hev]
        exact Ans.rfl' _
    · rw [if_neg (by simp [he1])]
      simp -implicitDefEqProofs
      refine rReader_ok hR s (by omega) t1 (by omega) true ?_
      rw [if_neg (by simp)]
      simp -implicitDefEqProofs
      refine rReader_ok hR s (by omega) t1 (by omega) true ?_
      rw [if_neg (by simp)]
      simp -implicitDefEqProofs
      have hev : evGet s = none := by simp [evGet, rNums, evCount, hg, hg0, hg1, he1]
      rw [hev]
      exact Ans.rfl' _
  · rw [if_neg (by simp [he0])]
    simp -implicitDefEqProofs
    refine rReader_ok hR s (by omega) t0 (by omega) true ?_
    rw [if_neg (by simp)]
    simp -implicitDefEqProofs
    refine rReader_ok hR s (by omega) t0 (by omega) true ?_
    rw [if_neg (by simp)]
    simp -implicitDefEqProofs
    refine rReader_ok hR s (by omega) t0 (by omega) true ?_
    rw [if_neg (by simp)]
    simp -implicitDefEqProofs
    have hev : evGet s = none := by simp [evGet, rNums, evCount, hg, hg0, he0]
    rw [hev]
    exact Ans.rfl' _
theorem ref1_GetEvent_7 (hR : R.Ok) (s : Bs0) (hs : s.length < 8000000000000000000) (t0 : Int) (hg : gNum s 0 = (7, t0, 0)) {h : AHeap A} {K : AVal → AHeap A → Prop} (hk : K (evTup (evGet s)) h) : Tri Pr R n_ref1_GetEvent [.str s] h K := by
  refine Tri.fn1 hR _ (evTup_ix _) rfl ?_ hk
  have q := gNum_enc hg
  apply c_ref1_GetEvent
  unfold p_ref1_GetEvent
  simp -implicitDefEqProofs
  have hf : (.cells t_bastionref1_Reader [.str s, .int .i64 0, .bool false] : AObj A) = rRead s 0 false := rfl
  rw [hf]
  refine rReader_ok hR s (by omega) 0 (by omega) false ?_
  rw [hg]
  dsimp only
  rw [if_pos ⟨rfl, rfl⟩]
  simp -implicitDefEqProofs
  repeat (first | refine joinP_go ?_ | simp -implicitDefEqProofs)
  refine rReader_ok hR s (by omega) t0 (by omega) false ?_
  obtain ⟨x0, t1, e0, hg0⟩ : ∃ x t e, gNum s t0 = (x, t, e) := ⟨_, _, _, rfl⟩
  rw [hg0]
  dsimp only
  by_cases he0 : e0 = 0
  · subst he0
    have q0 := gNum_enc hg0
    rw [if_pos ⟨rfl, rfl⟩]
    simp -implicitDefEqProofs
    by_cases hl : t1 = s.length
    · have hl' : (t1 != (s.length : Int)) = false := by simp [hl]
      simp -implicitDefEqProofs [hl']
      refine ref1_EventMay_ok hR ⟨7, x0, 0, 0, 0, 0, 0, 0⟩ ?_
      have hev : evGet s = if evMay ⟨7, x0, 0, 0, 0, 0, 0, 0⟩ = true then some ⟨7, x0, 0, 0, 0, 0, 0, 0⟩ else none := by simp [evGet, rNums, evCount, evOf, ev0, hg, hg0, hl]
      cases hm : evMay ⟨7, x0, 0, 0, 0, 0, 0, 0⟩ with
      | true => rw [hm] at hev; simp at hev; simp -implicitDefEqProofs; rw [hev]; exact Ans.rfl' _
      | false => rw [hm] at hev; simp at hev; simp -implicitDefEqProofs; rw [hev]; exact Ans.rfl' _
    · have hl' : (t1 != (s.length : Int)) = true := by simpa using hl
      have hev : evGet s = none := by simp [evGet, rNums, evCount, hg, hg0, hl]
      rw [hev]
      simp -implicitDefEqProofs [hl']
      exact Ans.rfl' _
  · rw [if_neg (by simp [he0])]
    simp -implicitDefEqProofs
    have hev : evGet s = none := by simp [evGet, rNums, evCount, hg, hg0, he0]
    rw [hev]
    exact Ans.rfl' _
theorem ref1_GetEvent_8 (hR : R.Ok) (s : Bs0) (hs : s.length < 8000000000000000000) (t0 : Int) (hg : gNum s 0 = (8, t0, 0)) {h : AHeap A} {K : AVal → AHeap A → Prop} (hk : K (evTup (evGet s)) h) : Tri Pr R n_ref1_GetEvent [.str s] h K := by
  refine Tri.fn1 hR _ (evTup_ix _) rfl ?_ hk
  have q := gNum_enc hg
  apply c_ref1_GetEvent
  unfold p_ref1_GetEvent
  simp -implicitDefEqProofs
  have hf : (.cells t_bastionref1_Reader [.str s, .int .i64 0, .bool false] : AObj A) = rRead s 0 false := rfl
  rw [hf]
  refine rReader_ok hR s (by omega) 0 (by omega) false ?_
  rw [hg]
  dsimp only
  rw [if_pos ⟨rfl, rfl⟩]
  simp -implicitDefEqProofs
  repeat (first | refine joinP_go ?_ | simp -implicitDefEqProofs)
  by_cases hl : t0 = s.length
  · have hl' : (t0 != (s.length : Int)) = false := by simp [hl]
    simp -implicitDefEqProofs [hl']
    refine ref1_EventMay_ok hR ⟨8, 0, 0, 0, 0, 0, 0, 0⟩ ?_
    have hev : evGet s = if evMay ⟨8, 0, 0, 0, 0, 0, 0, 0⟩ = true then some ⟨8, 0, 0, 0, 0, 0, 0, 0⟩ else none := by simp [evGet, rNums, evCount, evOf, ev0, hg, hl]
    cases hm : evMay ⟨8, 0, 0, 0, 0, 0, 0, 0⟩ with
    | true => rw [hm] at hev; simp at hev; simp -implicitDefEqProofs; rw [hev]; exact Ans.rfl' _
    | false => rw [hm] at hev; simp at hev; simp -implicitDefEqProofs; rw [hev]; exact Ans.rfl' _
  · have hl' : (t0 != (s.length : Int)) = true := by simpa using hl
    have hev : evGet s = none := by simp [evGet, rNums, evCount, hg, hl]
    rw [hev]
    simp -implicitDefEqProofs [hl']
    exact Ans.rfl' _
theorem ref1_GetEvent_9 (hR : R.Ok) (s : Bs0) (hs : s.length < 8000000000000000000) (t0 : Int) (hg : gNum s 0 = (9, t0, 0)) {h : AHeap A} {K : AVal → AHeap A → Prop} (hk : K (evTup (evGet s)) h) : Tri Pr R n_ref1_GetEvent [.str s] h K := by
  refine Tri.fn1 hR _ (evTup_ix _) rfl ?_ hk
  have q := gNum_enc hg
  apply c_ref1_GetEvent
  unfold p_ref1_GetEvent
  simp -implicitDefEqProofs
  have hf : (.cells t_bastionref1_Reader [.str s, .int .i64 0, .bool false] : AObj A) = rRead s 0 false := rfl
  rw [hf]
  refine rReader_ok hR s (by omega) 0 (by omega) false ?_
  rw [hg]
  dsimp only
  rw [if_pos ⟨rfl, rfl⟩]
  simp -implicitDefEqProofs
  repeat (first | refine joinP_go ?_ | simp -implicitDefEqProofs)
  refine rReader_ok hR s (by omega) t0 (by omega) false ?_
  obtain ⟨x0, t1, e0, hg0⟩ : ∃ x t e, gNum s t0 = (x, t, e) := ⟨_, _, _, rfl⟩
  rw [hg0]
  dsimp only
  by_cases he0 : e0 = 0
  · subst he0
    have q0 := gNum_enc hg0
    rw [if_pos ⟨rfl, rfl⟩]
    simp -implicitDefEqProofs
    by_cases hl : t1 = s.length
    · have hl' : (t1 != (s.length : Int)) = false := by simp [hl]
      simp -implicitDefEqProofs [hl']
      refine ref1_EventMay_ok hR ⟨9, 0, x0, 0, 0, 0, 0, 0⟩ ?_
      have hev : evGet s = if evMay ⟨9, 0, x0, 0, 0, 0, 0, 0⟩ = true then some ⟨9, 0, x0, 0, 0, 0, 0, 0⟩ else none := by simp [evGet, rNums, evCount, evOf, ev0, hg, hg0, hl]
      cases hm : evMay ⟨9, 0, x0, 0, 0, 0, 0, 0⟩ with
      | true => rw [hm] at hev; simp at hev; simp -implicitDefEqProofs; rw [hev]; exact Ans.rfl' _
      | false => rw [hm] at hev; simp at hev; simp -implicitDefEqProofs; rw [hev]; exact Ans.rfl' _
    · have hl' : (t1 != (s.length : Int)) = true := by simpa using hl
      have hev : evGet s = none := by simp [evGet, rNums, evCount, hg, hg0, hl]
      rw [hev]
      simp -implicitDefEqProofs [hl']
      exact Ans.rfl' _
  · rw [if_neg (by simp [he0])]
    simp -implicitDefEqProofs
    have hev : evGet s = none := by simp [evGet, rNums, evCount, hg, hg0, he0]
    rw [hev]
    exact Ans.rfl' _
theorem ref1_GetEvent_ok (hR : R.Ok) (s : Bs0) (hs : s.length < 8000000000000000000) {h : AHeap A} {K : AVal → AHeap A → Prop} (hk : K (evTup (evGet s)) h) : Tri Pr R n_ref1_GetEvent [.str s] h K := by
  obtain ⟨k, t0, e, hg⟩ : ∃ k t e, gNum s 0 = (k, t, e) := ⟨_, _, _, rfl⟩
  by_cases he : e = 0
  · subst he
    have q := gNum_enc hg
    have hk0 : 0 ≤ k := by have := q.1; simp [nMay] at this; omega
    by_cases h9 : 9 < k
    · have f0 : (k == 0) = false := by simp; omega
      have f1 : (k == 1) = false := by simp; omega
      have f2 : (k == 2) = false := by simp; omega
      have f3 : (k == 3) = false := by simp; omega
      have f4 : (k == 4) = false := by simp; omega
      have f5 : (k == 5) = false := by simp; omega
      have f6 : (k == 6) = false := by simp; omega
      have f7 : (k == 7) = false := by simp; omega
      have f9 : (k == 9) = false := by simp; omega
      have hmf : ∀ l, evMay (evOf k l) = false := by
        intro l
        cases hm : evMay (evOf k l) with
        | false => rfl
        | true => have := evMay_kind hm; rw [evOf_kind] at this; omega
      have hc : evCount k = 0 := by unfold evCount; rw [if_neg (by omega), if_neg (by omega), if_neg (by omega)]
      have hev : evGet s = none := by simp [evGet, rNums, hg, hc, hmf]
      rw [hev] at hk
      refine Tri.fn1 hR _ (evTup_ix none) rfl ?_ hk
      apply c_ref1_GetEvent
      unfold p_ref1_GetEvent
      simp -implicitDefEqProofs
      have hf : (.cells t_bastionref1_Reader [.str s, .int .i64 0, .bool false] : AObj A) = rRead s 0 false := rfl
      rw [hf]
      refine rReader_ok hR s (by omega) 0 (by omega) false ?_
      rw [hg]
      dsimp only
      rw [if_pos ⟨rfl, rfl⟩]
      simp -implicitDefEqProofs
      repeat (first | refine joinP_go ?_ | simp -implicitDefEqProofs [f0, f1, f2, f3, f4, f5, f6, f7, f9])
      by_cases hl : t0 = s.length
      · have hl' : (t0 != (s.length : Int)) = false := by simp [hl]
        simp -implicitDefEqProofs [hl']
        refine ref1_EventMay_ok hR ⟨k, 0, 0, 0, 0, 0, 0, 0⟩ ?_
        have hm : evMay ⟨k, 0, 0, 0, 0, 0, 0, 0⟩ = false := by
          cases hm : evMay ⟨k, 0, 0, 0, 0, 0, 0, 0⟩ with
          | false => rfl
          | true => have := evMay_kind hm; simp at this; omega
        rw [hm]
        simp -implicitDefEqProofs
        exact Ans.rfl' _
      · have hl' : (t0 != (s.length : Int)) = true := by simpa using hl
        simp -implicitDefEqProofs [hl']
        exact Ans.rfl' _
    · have hc2 : k = 0 ∨ k = 1 ∨ k = 2 ∨ k = 3 ∨ k = 4 ∨ k = 5 ∨ k = 6 ∨ k = 7 ∨ k = 8 ∨ k = 9 := by omega
      rcases hc2 with rfl | rfl | rfl | rfl | rfl | rfl | rfl | rfl | rfl | rfl
      · exact ref1_GetEvent_0 hR s hs t0 hg hk
      · exact ref1_GetEvent_1 hR s hs t0 hg hk
      · exact ref1_GetEvent_2 hR s hs t0 hg hk
      · exact ref1_GetEvent_3 hR s hs t0 hg hk
      · exact ref1_GetEvent_4 hR s hs t0 hg hk
      · exact ref1_GetEvent_5 hR s hs t0 hg hk
      · exact ref1_GetEvent_6 hR s hs t0 hg hk
      · exact ref1_GetEvent_7 hR s hs t0 hg hk
      · exact ref1_GetEvent_8 hR s hs t0 hg hk
      · exact ref1_GetEvent_9 hR s hs t0 hg hk
  · have hev : evGet s = none := by simp [evGet, rNums, hg, he]
    rw [hev] at hk
    refine Tri.fn1 hR _ (evTup_ix none) rfl ?_ hk
    apply c_ref1_GetEvent
    unfold p_ref1_GetEvent
    simp -implicitDefEqProofs
    have hf : (.cells t_bastionref1_Reader [.str s, .int .i64 0, .bool false] : AObj A) = rRead s 0 false := rfl
    rw [hf]
    refine rReader_ok hR s (by omega) 0 (by omega) false ?_
    rw [hg]
    dsimp only
    rw [if_neg (by simp [he])]
    simp -implicitDefEqProofs
    repeat (first | refine joinP_go ?_ | simp -implicitDefEqProofs)
    refine rReader_ok hR s (by omega) 0 (by omega) true ?_
    rw [if_neg (by simp)]
    simp -implicitDefEqProofs
    exact Ans.rfl' _
end Go.AI

/- Texts; readers behind two objects. -/
set_option linter.all false
namespace Go.AI
variable {A : Type} {R : Adts A}
theorem field_All_ok (hR : R.Ok) (l : List Int) (hl : l.length ≤ 1000) (ex : Bool) {t : TypeId} {h : AHeap A} {b : Nat} (hb : h[b]? = some (.cells t (l.map (.int .i64)))) {K : AVal → AHeap A → Prop} (hk : if l.all nMay = true then K (.tup [.str (nAll l), .bool true]) h else K (.tup [.str [], .bool false]) h) :
    Tri Pr R n_field_All [.sl b 0 l.length l.length ex] h K := by
  have hren : ∀ τ, (AObj.cells t (l.map (.int .i64)) : AObj A).ren R τ = .cells t (l.map (.int .i64)) := fun τ => by
    simp only [AObj.ren]; rw [rens_ix0 τ _ (by simp [ixs_all, AVal.ix])]
  have hix : (AObj.cells t (l.map (.int .i64)) : AObj A).ix R 1 := by show ixs 1 _ = true; simp [ixs_all, AVal.ix]
  refine Tri.own hR (as2 := [.sl 0 0 l.length l.length ex]) (Q := fun v o => v = (if l.all nMay = true then .tup [.str (nAll l), .bool true] else .tup [.str [], .bool false]) ∧ o = .cells t (l.map (.int .i64))) rfl hix ?_ hren ?_ hb (by simp [rens, AVal.ren]) ?_
  · rintro _ _ ⟨rfl, rfl⟩; exact ⟨by split <;> rfl, hren⟩
  · obtain ⟨v0, hv0⟩ : ∃ v0 : AVal, (if l.all nMay = true then .tup [.str (nAll l), .bool true] else .tup [.str [], .bool false]) = v0 := ⟨_, rfl⟩
    rw [hv0]
    apply c_field_All
    unfold p_field_All
    refine loopP_go (fun m y g => ∃ i : Nat, y = [.str (nAll (l.take i)), .int .i64 i] ∧ g = [.cells t (l.map (.int .i64))] ∧ i ≤ l.length ∧ m = l.length - i ∧ (l.take i).all nMay = true) l.length (Gives.done (by simp) ⟨0, by simp [nAll], rfl, by omega, by omega, rfl⟩) ?_
    rintro m y g ⟨i, rfl, rfl, hi, rfl, hall⟩
    by_cases h1 : i < l.length
    · have e1 := w64 (n := (i : Int) + 1) (by omega)
      have hlen := nAll_len (l.take i)
      have hlen2 := nS_len l[i]
      have htk : (l.take i).length = i := by simp; omega
      have hsp : nAll (l.take (i + 1)) = nAll (l.take i) ++ nS l[i] := by rw [← List.take_append_getElem h1]; simp only [nAll, List.flatMap_append]; simp
      have hadd : (nAll (l.take i)).length + (nS l[i]).length < 9223372036854775808 := by omega
      simp -implicitDefEqProofs [h1]
      refine field_Num_any hR _ ?_
      cases hc : nMay l[i] with
      | true =>
        simp -implicitDefEqProofs [e1, hadd]
        refine Gives.done (by simp) ⟨l.length - (i + 1), by omega, i + 1, by rw [hsp]; simp, rfl, by omega, rfl, ?_⟩
        intro x hx
        rw [← List.take_append_getElem h1] at hx
        rcases List.mem_append.1 hx with hx | hx
        · exact List.all_eq_true.1 hall x hx
        · simp at hx; subst hx; exact hc
      | false =>
        have : l.all nMay = false := by
          rw [Bool.eq_false_iff]
          intro h2
          have := List.all_eq_true.1 h2 l[i] (List.getElem_mem h1)
          rw [hc] at this; simp at this
        rw [this] at hv0
        simp at hv0
        subst hv0
        simp -implicitDefEqProofs
    · obtain rfl : i = l.length := by omega
      rw [List.take_length] at hall
      rw [hall] at hv0
      simp at hv0
      subst hv0
      simp -implicitDefEqProofs
  · rintro _ _ ⟨rfl, rfl⟩
    have : h.set b (.cells t (l.map (.int .i64))) = h := set_same hb
    rw [this]
    split at hk <;> rename_i h1 <;> simp [h1] <;> exact hk
theorem field_Text_ok (hR : R.Ok) (s : Bs0) (hs : s.length ≤ 65536) {h : AHeap A} {K : AVal → AHeap A → Prop} (hk : K (.tup [.str (nS s.length ++ s), .int .i64 0]) h) : Tri Pr R n_field_Text [.str s] h K := by
  refine Tri.fn1 hR _ rfl rfl ?_ hk
  apply c_field_Text
  unfold p_field_Text
  have h1 : ¬ (65536 : Int) < s.length := by omega
  have hl := nS_len (s.length : Int)
  have h2 : (nS (s.length : Int)).length + s.length < 9223372036854775808 := by omega
  have hm : nMay (s.length : Int) = true := by simp [nMay]; omega
  simp -implicitDefEqProofs [h1]
  refine field_Num_any hR _ ?_
  simp -implicitDefEqProofs [h2, hm]
  exact Ans.rfl' _
theorem ref1_GetText_ok (hR : R.Ok) (s : Bs0) (hs : s.length < 8000000000000000000) (at_ : Int) (ha : -8000000000000000000 ≤ at_ ∧ at_ < 8000000000000000000) {h : AHeap A} {K : AVal → AHeap A → Prop}
    (hk : K (.tup [.str (gText s at_).1, .int .i64 (gText s at_).2.1, .int .i64 (gText s at_).2.2]) h) : Tri Pr R n_ref1_GetText [.str s, .int .i64 at_] h K := by
  refine Tri.fn1 hR _ rfl rfl ?_ hk
  apply c_ref1_GetText
  unfold p_ref1_GetText
  refine ref1_GetNum_ok hR s (by omega) at_ (by omega) ?_
  obtain ⟨r, hr⟩ : ∃ r, gText s at_ = r := ⟨_, rfl⟩
  rw [hr]
  unfold gText at hr
  obtain ⟨n, t1, e, hg⟩ : ∃ x t1 e, gNum s at_ = (x, t1, e) := ⟨_, _, _, rfl⟩
  rw [hg] at hr ⊢
  dsimp only at hr ⊢
  by_cases c1 : e = 0
  · subst c1
    obtain ⟨q1, q2, q3, q4, q5⟩ := gNum_enc hg
    have hn : 0 ≤ n ∧ n ≤ 1073741823 := by simpa [nMay] using q1
    rw [if_neg (by simp)] at hr
    have e1 := w64 (n := (s.length : Int) - t1) (by omega)
    have e2 := w64 (n := t1 + n) (by omega)
    by_cases c2 : 65536 < n
    · rw [if_pos c2] at hr; subst hr
      simp -implicitDefEqProofs [c2]; exact Ans.rfl' _
    · rw [if_neg c2] at hr
      by_cases c3 : (s.length : Int) - t1 < n
      · rw [if_pos c3] at hr; subst hr
        simp -implicitDefEqProofs [c2, e1, c3]; exact Ans.rfl' _
      · rw [if_neg c3] at hr; subst hr
        have d1 : 0 ≤ t1 := by omega
        have d2 : t1 ≤ t1 + n := by omega
        have d3 : t1 + n ≤ s.length := by omega
        have d4 : 0 ≤ n := by omega
        have d5 : (t1 + n).toNat = t1.toNat + n.toNat := by omega
        simp -implicitDefEqProofs [c2, e1, c3, e2, d1, d2, d3, d4, d5]
        exact Ans.of (by rw [List.drop_take]; simp)
  · rw [if_pos c1] at hr; subst hr
    have c1' : (e != 0) = true := by simpa using c1
    simp -implicitDefEqProofs [c1']; exact Ans.rfl' _
theorem field_text_ok (hR : R.Ok) (s : Bs0) (hs : s.length < 8000000000000000000) (at_ : Int) (ha : -8000000000000000000 ≤ at_ ∧ at_ < 8000000000000000000) {h : AHeap A} {K : AVal → AHeap A → Prop}
    (hk : if (gText s at_).2.2 = 0 then K (.tup [.str (gText s at_).1, .int .i64 (gText s at_).2.1, .nili]) h else (∀ f : AObj A, K (.tup [.str [], .int .i64 0, .iface t_p_field_Fault (.ptr h.length 0)]) (h ++ [f])) ∧ ∀ f g : AObj A, K (.tup [.str [], .int .i64 0, .iface t_p_field_Fault (.ptr (h.length + 1) 0)]) (h ++ [f, g])) : Tri Pr R n_field_text [.str s, .int .i64 at_] h K := by
  apply c_field_text
  unfold p_field_text
  refine field_num_ok hR s (by omega) at_ (by omega) ?_
  unfold gText at hk
  obtain ⟨n, t1, e, hg⟩ : ∃ x t1 e, gNum s at_ = (x, t1, e) := ⟨_, _, _, rfl⟩
  rw [hg] at hk ⊢
  dsimp only at hk ⊢
  by_cases c1 : e = 0
  · subst c1
    obtain ⟨q1, q2, q3, q4, q5⟩ := gNum_enc hg
    have hn : 0 ≤ n ∧ n ≤ 1073741823 := by simpa [nMay] using q1
    rw [if_pos rfl]
    rw [if_neg (show ¬ (0 : Int) ≠ 0 by simp)] at hk
    have e1 := w64 (n := (s.length : Int) - t1) (by omega)
    have e2 := w64 (n := t1 + n) (by omega)
    by_cases c2 : 65536 < n
    · rw [if_pos c2] at hk
      simp at hk
      simp -implicitDefEqProofs [c2, mkiP]
      exact hk.1 _
    · rw [if_neg c2] at hk
      by_cases c3 : (s.length : Int) - t1 < n
      · rw [if_pos c3] at hk
        simp at hk
        simp -implicitDefEqProofs [c2, e1, c3, mkiP]
        exact hk.1 _
      · rw [if_neg c3] at hk
        simp at hk
        have d1 : 0 ≤ t1 := by omega
        have d2 : t1 ≤ t1 + n := by omega
        have d3 : t1 + n ≤ s.length := by omega
        have d4 : 0 ≤ n := by omega
        have d5 : (t1 + n).toNat = t1.toNat + n.toNat := by omega
        simp -implicitDefEqProofs [c2, e1, c3, e2, d1, d2, d3, d4, d5]
        rw [List.drop_take]
        simpa using hk
  · rw [if_neg c1]
    rw [if_pos c1] at hk
    simp [c1] at hk
    intro a e'
    simp -implicitDefEqProofs [mkiP]
    exact hk.2 _ _
theorem fReader2_ok (hR : R.Ok) (s : Bs0) (hs : s.length < 9000000000000000000) (at_ : Int) (ha : -9000000000000000000 ≤ at_ ∧ at_ < 9000000000000000000) {o o1 : AObj A} {r : AHeap A} {K : AVal → AHeap A → Prop}
    (hk : if (gNum s at_).2.2 = 0 then K (.int .i64 (gNum s at_).1) (o :: o1 :: fRead s (gNum s at_).2.1 .nili :: r) else ∀ a e, K (.int .i64 0) (o :: o1 :: fRead s 0 (.iface t_p_field_Fault (.ptr (r.length + 3) 0)) :: (r ++ [faultO a e]))) :
    Tri Pr R n_field_Reader_Num [.ptr 2 0] (o :: o1 :: fRead s at_ .nili :: r) K := by
  apply c_field_Reader_Num
  unfold p_field_Reader_Num
  simp -implicitDefEqProofs [fRead]
  refine field_num_ok hR s hs at_ ha ?_
  by_cases h : (gNum s at_).2.2 = 0
  · rw [if_pos h] at hk ⊢
    simp -implicitDefEqProofs
    exact hk
  · rw [if_neg h] at hk ⊢
    intro a e
    simp -implicitDefEqProofs
    simpa [fRead] using hk _ _
theorem fReader2_bad (hR : R.Ok) (s : Bs0) (at_ : Int) (t : TypeId) (v : AVal) {o o1 : AObj A} {r : AHeap A} {K : AVal → AHeap A → Prop}
    (hk : K (.int .i64 0) (o :: o1 :: fRead s at_ (.iface t v) :: r)) : Tri Pr R n_field_Reader_Num [.ptr 2 0] (o :: o1 :: fRead s at_ (.iface t v) :: r) K := by
  apply c_field_Reader_Num
  unfold p_field_Reader_Num
  simp -implicitDefEqProofs [fRead]
  exact hk
theorem fText2_ok (hR : R.Ok) (s : Bs0) (hs : s.length < 8000000000000000000) (at_ : Int) (ha : -8000000000000000000 ≤ at_ ∧ at_ < 8000000000000000000) {o o1 : AObj A} {r : AHeap A} {K : AVal → AHeap A → Prop}
    (hk : if (gText s at_).2.2 = 0 then K (.str (gText s at_).1) (o :: o1 :: fRead s (gText s at_).2.1 .nili :: r) else (∀ f : AObj A, K (.str []) (o :: o1 :: fRead s 0 (.iface t_p_field_Fault (.ptr (r.length + 3) 0)) :: (r ++ [f]))) ∧ ∀ f g : AObj A, K (.str []) (o :: o1 :: fRead s 0 (.iface t_p_field_Fault (.ptr (r.length + 4) 0)) :: (r ++ [f, g]))) :
    Tri Pr R n_field_Reader_Text [.ptr 2 0] (o :: o1 :: fRead s at_ .nili :: r) K := by
  apply c_field_Reader_Text
  unfold p_field_Reader_Text
  simp -implicitDefEqProofs [fRead]
  refine field_text_ok hR s hs at_ ha ?_
  by_cases h : (gText s at_).2.2 = 0
  · rw [if_pos h] at hk ⊢
    simp -implicitDefEqProofs
    exact hk
  · rw [if_neg h] at hk ⊢
    refine ⟨fun f => ?_, fun f g => ?_⟩
    · simp -implicitDefEqProofs
      simpa [fRead] using hk.1 f
    · simp -implicitDefEqProofs
      simpa [fRead] using hk.2 f g
theorem fText2_bad (hR : R.Ok) (s : Bs0) (at_ : Int) (t : TypeId) (v : AVal) {o o1 : AObj A} {r : AHeap A} {K : AVal → AHeap A → Prop}
    (hk : K (.str []) (o :: o1 :: fRead s at_ (.iface t v) :: r)) : Tri Pr R n_field_Reader_Text [.ptr 2 0] (o :: o1 :: fRead s at_ (.iface t v) :: r) K := by
  apply c_field_Reader_Text
  unfold p_field_Reader_Text
  simp -implicitDefEqProofs [fRead]
  exact hk
theorem rReader2_ok (hR : R.Ok) (s : Bs0) (hs : s.length < 9000000000000000000) (at_ : Int) (ha : -9000000000000000000 ≤ at_ ∧ at_ < 9000000000000000000) (bad : Bool) {o o1 : AObj A} {r : AHeap A} {K : AVal → AHeap A → Prop}
    (hk : if bad = false ∧ (gNum s at_).2.2 = 0 then K (.int .i64 (gNum s at_).1) (o :: o1 :: rRead s (gNum s at_).2.1 false :: r) else K (.int .i64 0) (o :: o1 :: rRead s at_ true :: r)) :
    Tri Pr R n_ref1_Reader_Num [.ptr 2 0] (o :: o1 :: rRead s at_ bad :: r) K := by
  apply c_ref1_Reader_Num
  unfold p_ref1_Reader_Num
  simp -implicitDefEqProofs [rRead]
  refine ref1_GetNum_ok hR s hs at_ ha ?_
  simp -implicitDefEqProofs
  cases bad with
  | true =>
    simp at hk
    simp -implicitDefEqProofs
    exact hk
  | false =>
    by_cases h : (gNum s at_).2.2 = 0
    · simp [h] at hk
      simp -implicitDefEqProofs [h]
      exact hk
    · simp [h] at hk
      have h' : ((gNum s at_).2.2 != 0) = true := by simpa using h
      simp -implicitDefEqProofs [h']
      exact hk
theorem rText2_ok (hR : R.Ok) (s : Bs0) (hs : s.length < 8000000000000000000) (at_ : Int) (ha : -8000000000000000000 ≤ at_ ∧ at_ < 8000000000000000000) (bad : Bool) {o o1 : AObj A} {r : AHeap A} {K : AVal → AHeap A → Prop}
    (hk : if bad = false ∧ (gText s at_).2.2 = 0 then K (.str (gText s at_).1) (o :: o1 :: rRead s (gText s at_).2.1 false :: r) else K (.str []) (o :: o1 :: rRead s at_ true :: r)) :
    Tri Pr R n_ref1_Reader_Text [.ptr 2 0] (o :: o1 :: rRead s at_ bad :: r) K := by
  apply c_ref1_Reader_Text
  unfold p_ref1_Reader_Text
  simp -implicitDefEqProofs [rRead]
  refine ref1_GetText_ok hR s hs at_ ha ?_
  simp -implicitDefEqProofs
  cases bad with
  | true =>
    simp at hk
    simp -implicitDefEqProofs
    exact hk
  | false =>
    by_cases h : (gText s at_).2.2 = 0
    · simp [h] at hk
      simp -implicitDefEqProofs [h]
      exact hk
    · simp [h] at hk
      have h' : ((gText s at_).2.2 != 0) = true := by simpa using h
      simp -implicitDefEqProofs [h']
      exact hk
end Go.AI

/- Records. -/
set_option linter.all false
namespace Go.AI
variable {A : Type} {R : Adts A}
theorem recRow_ix (r : Rec) (n : Nat) : ixs n r.row = true := rfl
theorem record_body_ok (hR : R.Ok) (r : Rec) {h : AHeap A} {b : Nat} (hb : h[b]? = some (.cells t_api_Record r.row)) {K : AVal → AHeap A → Prop}
    (hk : if recMay r = true then K (.tup [.str (recBody r), .bool true]) h else K (.tup [.str [], .bool false]) h) : Tri Pr R n_record_body [.ptr b 0] h K := by
  have hren : ∀ τ, (AObj.cells t_api_Record r.row : AObj A).ren R τ = .cells t_api_Record r.row := fun τ => by
    simp only [AObj.ren]; rw [rens_ix0 τ _ (recRow_ix r 0)]
  refine Tri.own hR (as2 := [.ptr 0 0]) (Q := fun v o => v = (if recMay r = true then .tup [.str (recBody r), .bool true] else .tup [.str [], .bool false]) ∧ o = .cells t_api_Record r.row) rfl (show (AObj.cells t_api_Record r.row : AObj A).ix R 1 from recRow_ix r 1) ?_ hren ?_ hb (by simp [rens, AVal.ren]) ?_
  · rintro _ _ ⟨rfl, rfl⟩; exact ⟨by split <;> rfl, hren⟩
  · obtain ⟨v0, hv0⟩ : ∃ v0 : AVal, (if recMay r = true then .tup [.str (recBody r), .bool true] else .tup [.str [], .bool false]) = v0 := ⟨_, rfl⟩
    rw [hv0]
    have fin : ∀ (rs : AHeap A), v0.ix 0 = true → Gives Pr R 1 (.cells t_api_Record r.row :: rs) [v0] fun vs h2 => ∃ v, vs = [v] ∧ ∃ o', (v = v0 ∧ o' = .cells t_api_Record r.row) ∧ h2 = [o'] := fun rs hv =>
      Gives.cut hR (m := 1) (by omega) (by simp) (by simp [ixs, ix_mono (Nat.zero_le 1) _ hv]) (by simp; exact ⟨recRow_ix r 1, fun τ _ => hren τ⟩) ⟨_, rfl, _, ⟨rfl, rfl⟩, rfl⟩
    have hvix : v0.ix 0 = true := by rw [← hv0]; split <;> rfl
    refine Tri.post ?_
    apply c_record_body
    unfold p_record_body
    have bad : recMay r = false → v0 = .tup [.str [], .bool false] := fun h => by rw [← hv0, h]; rfl
    simp -implicitDefEqProofs [Rec.row, Ev.row]
    refine event_Put_ok hR r.ev ?_
    have go : ∀ (s : Bs0) (e : Int), ((e = 0 ∧ evMay r.ev = true ∧ s = evPut r.ev) ∨ (e ≠ 0 ∧ evMay r.ev = false)) → True := fun _ _ _ => trivial
    cases hm : evMay r.ev with
    | false =>
      have hr : recMay r = false := by simp [recMay, hm]
      have hv := bad hr
      rw [if_neg (by simp)]
      simp -implicitDefEqProofs
      refine field_All_ok hR [r.seq, r.boot, r.prev] (by simp) true (t := t_int) (by simp) ?_
      split
      · simp -implicitDefEqProofs; rw [← hv]; exact fin _ hvix
      · simp -implicitDefEqProofs; rw [← hv]; exact fin _ hvix
    | true =>
      rw [if_pos rfl]
      simp -implicitDefEqProofs
      refine field_All_ok hR [r.seq, r.boot, r.prev] (by simp) true (t := t_int) (by simp) ?_
      cases ha : [r.seq, r.boot, r.prev].all nMay with
      | false =>
        have hr : recMay r = false := by
          rw [Bool.eq_false_iff]
          intro h
          obtain ⟨_, _, a1, _, a2, a3, _⟩ := recMay_all h
          simp [a1, a2, a3] at ha
        have hv := bad hr
        rw [if_neg (by simp)]
        simp -implicitDefEqProofs; rw [← hv]; exact fin _ hvix
      | true =>
        rw [if_pos rfl]
        have hl := evPut_len hm
        have c3 : ¬ (44 : Int) < (evPut r.ev).length := by omega
        by_cases c1 : r.seq < 1
        · have hr : recMay r = false := by
            rw [Bool.eq_false_iff]; intro h
            have := (recMay_all h).2.1; omega
          have hv := bad hr
          simp -implicitDefEqProofs [c1]; rw [← hv]; exact fin _ hvix
        by_cases c2 : r.boot < 1
        · have hr : recMay r = false := by
            rw [Bool.eq_false_iff]; intro h
            have := (recMay_all h).2.2.2.1; omega
          have hv := bad hr
          simp -implicitDefEqProofs [c1, c2]; rw [← hv]; exact fin _ hvix
        have hr : recMay r = true := by
          simp at ha
          simp [recMay, hm, ha]; omega
        rw [if_pos hr] at hv0
        simp -implicitDefEqProofs [c1, c2, c3]
        refine field_Text_ok hR _ (by omega) ?_
        have l1 := nAll_len [r.seq, r.boot, r.prev]
        have l2 := nS_len ((evPut r.ev).length : Int)
        simp only [List.length_cons, List.length_nil] at l1
        have g : (nAll [r.seq, r.boot, r.prev]).length + ((nS ((evPut r.ev).length : Int)).length + (evPut r.ev).length) < 9223372036854775808 := by omega
        simp -implicitDefEqProofs [g]
        have hv1 : AVal.tup [.str (nAll [r.seq, r.boot, r.prev] ++ (nS (evPut r.ev).length ++ evPut r.ev)), .bool true] = v0 := hv0
        rw [hv1]
        exact fin _ hvix
  · rintro _ _ ⟨rfl, rfl⟩
    rw [set_same hb]
    split at hk <;> rename_i h1 <;> simp [h1] <;> exact hk
section
variable {mk : Int → List Bs → A}
theorem record_Put_ok (hR : R.Ok) (hB : HasBook R mk) {m : Int} {ts : List Bs} (hok : bOk m ts) (r : Rec) {h : AHeap A} {b : Nat} (hb : h[b]? = some (.adt (mk m ts))) {K : AVal → AHeap A → Prop}
    (hk : K (.tup [.str (recPut m ts r).2.1, .int .i64 (recPut m ts r).2.2.1, .int .i64 (recPut m ts r).2.2.2]) (h.set b (.adt (mk m (recPut m ts r).1)))) : Tri Pr R n_record_Put [.ptr b 0, .agg r.row] h K := by
  refine book_own hR hB rfl rfl ?_ hb hk
  apply c_record_Put
  unfold p_record_Put
  obtain ⟨q, hq⟩ : ∃ q, recPut m ts r = q := ⟨_, rfl⟩
  rw [hq]
  unfold recPut at hq
  simp -implicitDefEqProofs [Rec.row, Ev.row]
  refine record_body_ok hR r rfl ?_
  cases hm : recMay r with
  | false =>
    rw [hm] at hq
    simp at hq; subst hq
    rw [if_neg (by simp)]
    simp -implicitDefEqProofs
  | true =>
    rw [if_pos hm] at hq
    rw [if_pos rfl]
    have hl := recBody_len hm
    have g1 : 6 + (recBody r).length < 9223372036854775808 := by omega
    simp -implicitDefEqProofs [g1]
    refine craft_Hash_ok hR hB hok _ (by simp; omega) rfl ?_
    have hc : 72 :: 114 :: 101 :: 99 :: 111 :: 114 :: 100 :: recBody r = recT r := rfl
    rw [hc]
    by_cases h5 : (cMade m ts (recT r)).2.2 = 0
    · rw [if_pos h5] at hq
      have hl2 := nS_len (cMade m ts (recT r)).2.1
      have g2 : (recBody r).length + (nS (cMade m ts (recT r)).2.1).length < 9223372036854775808 := by omega
      simp -implicitDefEqProofs [h5]
      refine field_Num_any hR _ ?_
      simp -implicitDefEqProofs [g2]
      by_cases h6 : (recBody r ++ nS (cMade m ts (recT r)).2.1).length ≤ 64
      · rw [if_pos h6] at hq; subst hq
        refine record_Fill_ok hR _ h6 ?_
        simp -implicitDefEqProofs
      · rw [if_neg h6] at hq; subst hq
        apply c_record_Fill
        unfold p_record_Fill
        have h7 : (64 : Int) < (recBody r).length + (nS (cMade m ts (recT r)).2.1).length := by simp at h6; omega
        simp -implicitDefEqProofs [h7]
    · rw [if_neg h5] at hq; subst hq
      have h6 : ((cMade m ts (recT r)).2.2 != 0) = true := by simpa using h5
      simp -implicitDefEqProofs [h6]
end
end Go.AI

/- Records are read. -/
set_option linter.all false
namespace Go.AI
variable {A : Type} {R : Adts A}
theorem reps11 : reps 11 (AVal.int IntKind.i64 0) = [.int .i64 0, .int .i64 0, .int .i64 0, .int .i64 0, .int .i64 0, .int .i64 0, .int .i64 0, .int .i64 0, .int .i64 0, .int .i64 0, .int .i64 0] := rfl
def recTup (o : Option (Rec × Int)) : AVal := match o with | some (r, n) => .tup [.agg r.row, .int .i64 n, .bool true] | none => .tup [.agg rec0.row, .int .i64 0, .bool false]
theorem recTup_ix (o : Option (Rec × Int)) : (recTup o).ix 0 = true := by
  match o with
  | some (r, n) => rfl
  | none => rfl
theorem take_two {s x y : Bs0} {t u : Int} (h0 : 0 ≤ t) (h1 : t ≤ u) (hx : s.take t.toNat = x) (hy : (s.drop t.toNat).take (u - t).toNat = y) : s.take u.toNat = x ++ y := by
  rw [← hx, ← hy, ← List.take_add]
  congr 1; omega
section
variable {mk : Int → List Bs → A}
theorem record_read_ok (hR : R.Ok) (hB : HasBook R mk) {m : Int} {ts : List Bs} (s : Bs) (hs : s.length < 7000000000000000000) {h : AHeap A} {b : Nat} (hb : h[b]? = some (.adt (mk m ts))) {K : AVal → AHeap A → Prop}
    (hk : K (recTup (recRead ts s)) h) : Tri Pr R n_record_read [.ptr b 0, .str s] h K := by
  refine book_own hR hB (ts' := ts) rfl (recTup_ix _) ?_ hb (by rw [set_same hb]; exact hk)
  apply c_record_read
  unfold p_record_read
  rw [reps11]
  obtain ⟨o, ho⟩ : ∃ o, recRead ts s = o := ⟨_, rfl⟩
  rw [ho]
  unfold recRead at ho
  simp -implicitDefEqProofs
  have hf : (.cells t_field_Reader [.str s, .int .i64 0, .nili] : AObj A) = fRead s 0 .nili := rfl
  rw [hf]
  have hnil : evGet [] = none := rfl
  obtain ⟨q, t1, e1, hg1⟩ : ∃ x t e, gNum s 0 = (x, t, e) := ⟨_, _, _, rfl⟩
  obtain ⟨bo, t2, e2, hg2⟩ : ∃ x t e, gNum s t1 = (x, t, e) := ⟨_, _, _, rfl⟩
  obtain ⟨p, t3, e3, hg3⟩ : ∃ x t e, gNum s t2 = (x, t, e) := ⟨_, _, _, rfl⟩
  refine fReader2_ok hR s (by omega) 0 (by omega) ?_
  rw [hg1]
  dsimp only
  rcases (by omega : e1 ≠ 0 ∨ e1 = 0) with c1 | c1
  · rw [if_neg c1]
    have : o = none := by rw [← ho]; simp [rNums, hg1, c1]
    subst this
    intro p1 r1
    simp -implicitDefEqProofs
    refine fReader2_bad hR s 0 _ _ ?_
    simp -implicitDefEqProofs
    refine fReader2_bad hR s 0 _ _ ?_
    simp -implicitDefEqProofs
    refine fText2_bad hR s 0 _ _ ?_
    refine event_Get_ok hR [] (by decide) ?_
    rw [hnil]
    simp -implicitDefEqProofs [evTup, Ev.row, ev0]
    refine fReader2_bad hR s 0 _ _ ?_
    simp -implicitDefEqProofs [recTup, rec0, Rec.row, Ev.row, ev0]
  subst c1
  have q1 := gNum_enc hg1
  rw [if_pos rfl]
  refine fReader2_ok hR s (by omega) t1 (by omega) ?_
  rw [hg2]
  dsimp only
  rcases (by omega : e2 ≠ 0 ∨ e2 = 0) with c2 | c2
  · rw [if_neg c2]
    have : o = none := by rw [← ho]; simp [rNums, hg1, hg2, c2]
    subst this
    intro p1 r1
    simp -implicitDefEqProofs
    refine fReader2_bad hR s 0 _ _ ?_
    simp -implicitDefEqProofs
    refine fText2_bad hR s 0 _ _ ?_
    refine event_Get_ok hR [] (by decide) ?_
    rw [hnil]
    simp -implicitDefEqProofs [evTup, Ev.row, ev0]
    refine fReader2_bad hR s 0 _ _ ?_
    simp -implicitDefEqProofs [recTup, rec0, Rec.row, Ev.row, ev0]
  subst c2
  have q2 := gNum_enc hg2
  rw [if_pos rfl]
  refine fReader2_ok hR s (by omega) t2 (by omega) ?_
  rw [hg3]
  dsimp only
  rcases (by omega : e3 ≠ 0 ∨ e3 = 0) with c3 | c3
  · rw [if_neg c3]
    have : o = none := by rw [← ho]; simp [rNums, hg1, hg2, hg3, c3]
    subst this
    intro p1 r1
    simp -implicitDefEqProofs
    refine fText2_bad hR s 0 _ _ ?_
    refine event_Get_ok hR [] (by decide) ?_
    rw [hnil]
    simp -implicitDefEqProofs [evTup, Ev.row, ev0]
    refine fReader2_bad hR s 0 _ _ ?_
    simp -implicitDefEqProofs [recTup, rec0, Rec.row, Ev.row, ev0]
  subst c3
  have q3 := gNum_enc hg3
  rw [if_pos rfl]
  have hn3 : rNums s 3 0 = some ([q, bo, p], t3) := by simp [rNums, hg1, hg2, hg3]
  rw [hn3] at ho
  dsimp only at ho
  simp -implicitDefEqProofs
  refine fText2_ok hR s (by omega) t3 (by omega) ?_
  obtain ⟨x, u, e4, hx⟩ : ∃ x t e, gText s t3 = (x, t, e) := ⟨_, _, _, rfl⟩
  rw [hx] at ho ⊢
  dsimp only at ho ⊢
  rcases (by omega : e4 ≠ 0 ∨ e4 = 0) with c4 | c4
  · rw [if_neg c4]
    rw [if_pos c4] at ho
    subst ho
    refine ⟨fun f => ?_, fun f g => ?_⟩
    · simp -implicitDefEqProofs
      refine event_Get_ok hR [] (by decide) ?_
      rw [hnil]
      simp -implicitDefEqProofs [evTup, Ev.row, ev0]
      refine fReader2_bad hR s 0 _ _ ?_
      simp -implicitDefEqProofs [recTup, rec0, Rec.row, Ev.row, ev0]
    · simp -implicitDefEqProofs
      refine event_Get_ok hR [] (by decide) ?_
      rw [hnil]
      simp -implicitDefEqProofs [evTup, Ev.row, ev0]
      refine fReader2_bad hR s 0 _ _ ?_
      simp -implicitDefEqProofs [recTup, rec0, Rec.row, Ev.row, ev0]
  subst c4
  have q4 := gText_enc hx
  rw [if_pos rfl]
  rw [if_neg (show ¬ (0 : Int) ≠ 0 by simp)] at ho
  have hxl : x.length < 8000000000000000000 := by have := q4.1; simp [nMay] at this; omega
  refine event_Get_ok hR x hxl ?_
  cases hev : evGet x with
  | none =>
    rw [hev] at ho
    dsimp only at ho
    subst ho
    simp -implicitDefEqProofs [evTup, Ev.row, ev0]
    refine fReader2_ok hR s (by omega) u (by omega) ?_
    split
    · simp -implicitDefEqProofs [recTup, rec0, Rec.row, Ev.row, ev0]
    · intro p1 r1
      simp -implicitDefEqProofs [recTup, rec0, Rec.row, Ev.row, ev0]
  | some e =>
    rw [hev] at ho
    dsimp only at ho
    obtain ⟨q5, q6⟩ := evGet_enc hev
    obtain ⟨n, v, e5, hn⟩ : ∃ x t e, gNum s u = (x, t, e) := ⟨_, _, _, rfl⟩
    rw [hn] at ho
    dsimp only at ho
    simp -implicitDefEqProofs [evTup, Ev.row]
    refine fReader2_ok hR s (by omega) u (by omega) ?_
    rw [hn]
    dsimp only
    rcases (by omega : e5 ≠ 0 ∨ e5 = 0) with c5 | c5
    · rw [if_neg c5]
      rw [if_pos c5] at ho
      subst ho
      intro p1 r1
      simp -implicitDefEqProofs [recTup, rec0, Rec.row, Ev.row, ev0]
    subst c5
    have q7 := gNum_enc hn
    rw [if_pos rfl]
    rw [if_neg (show ¬ (0 : Int) ≠ 0 by simp)] at ho
    rcases (by omega : s.length ≠ 64 ∨ s.length = 64) with c6 | c6
    · rw [if_pos (.inl c6)] at ho
      subst ho
      have c6' : ((s.length : Int) != 64) = true := by simp; omega
      simp -implicitDefEqProofs [c6', recTup, rec0, Rec.row, Ev.row, ev0]
    simp -implicitDefEqProofs [c6]
    refine record_body_ok hR ⟨q, bo, p, e⟩ rfl ?_
    cases hm : recMay ⟨q, bo, p, e⟩ with
    | false =>
      rw [if_pos (.inr (.inl hm))] at ho
      subst ho
      rw [if_neg (by simp)]
      simp -implicitDefEqProofs
      refine joinP_go ?_
      simp -implicitDefEqProofs [recTup, rec0, Rec.row, Ev.row, ev0]
    | true =>
      rw [if_pos rfl]
      simp -implicitDefEqProofs
      refine joinP_go ?_
      have hbl := recBody_len hm
      have w0 : s.take t3.toNat = nAll [q, bo, p] := by
        have := (rNums_enc hn3 (by omega)).2.2.2.1
        simpa using this
      have hown : s.take u.toNat = recBody ⟨q, bo, p, e⟩ := by
        rw [take_two (by omega) (by omega) w0 q4.2.2.2.2, q5]
        rfl
      have f1 : 0 ≤ u := by omega
      have f2 : u ≤ 64 := by omega
      have g1 : 6 + (recBody ⟨q, bo, p, e⟩).length < 9223372036854775808 := by omega
      have hc : 72 :: 114 :: 101 :: 99 :: 111 :: 114 :: 100 :: recBody ⟨q, bo, p, e⟩ = recT ⟨q, bo, p, e⟩ := rfl
      simp -implicitDefEqProofs [f1, f2, c6, hown, g1]
      refine craft_IsHash_ok hR hB _ (by simp; omega) n rfl ?_
      rw [hc]
      cases c7 : cIs ts (recT ⟨q, bo, p, e⟩) n with
      | false =>
        rw [if_pos (.inr (.inr (.inl c7)))] at ho
        subst ho
        simp -implicitDefEqProofs [recTup, rec0, Rec.row, Ev.row, ev0]
      | true =>
        have f3 : 0 ≤ v := by omega
        have f4 : v ≤ 64 := by omega
        have e6 := w64 (n := 64 - v) (by omega)
        obtain ⟨z, hz⟩ : ∃ n : Nat, (64 - v).toNat = n := ⟨_, rfl⟩
        have hz2 : 64 - v.toNat = z := by omega
        rw [hz2] at ho
        have f5 : 64 - v ≤ 140737488355328 := by omega
        simp -implicitDefEqProofs [c6, f3, f4, e6, mkslP, f5, hz]
        refine z_readn (by rfl) (zCells_eq z).symm ?_
        by_cases c8 : s.drop v.toNat = List.replicate z 0
        · rw [if_neg (by rintro (h | h | h | h); exact h c6; rw [hm] at h; simp at h; rw [c7] at h; simp at h; exact h c8)] at ho
          subst ho
          simp -implicitDefEqProofs [c8, recTup, Rec.row, Ev.row]
        · rw [if_pos (.inr (.inr (.inr c8)))] at ho
          subst ho
          have c8' : (s.drop v.toNat != List.replicate z 0) = true := by simpa using c8
          simp -implicitDefEqProofs [c8', recTup, rec0, Rec.row, Ev.row, ev0]
def recGTup (x : Rec × Int × Int) : AVal := .tup [.agg x.1.row, .int .i64 x.2.1, .int .i64 x.2.2]
theorem record_Get_ok (hR : R.Ok) (hB : HasBook R mk) {m : Int} {ts : List Bs} (s : Bs) (hs : s.length < 7000000000000000000) (seq prev : Int) {h : AHeap A} {b : Nat} (hb : h[b]? = some (.adt (mk m ts))) {K : AVal → AHeap A → Prop}
    (hk : K (recGTup (recGet ts s seq prev)) h) : Tri Pr R n_record_Get [.ptr b 0, .str s, .int .i64 seq, .int .i64 prev] h K := by
  refine book_own hR hB (ts' := ts) rfl rfl ?_ hb (by rw [set_same hb]; exact hk)
  apply c_record_Get
  unfold p_record_Get
  rw [reps11]
  obtain ⟨o, ho⟩ : ∃ o, recGet ts s seq prev = o := ⟨_, rfl⟩
  rw [ho]
  unfold recGet at ho
  simp -implicitDefEqProofs
  refine record_read_ok hR hB s hs rfl ?_
  cases hr : recRead ts s with
  | none =>
    rw [hr] at ho
    dsimp only at ho
    subst ho
    simp -implicitDefEqProofs [recTup, rec0, Rec.row, Ev.row, ev0, recGTup]
  | some x =>
    obtain ⟨r, n⟩ := x
    rw [hr] at ho
    dsimp only at ho
    by_cases c1 : r.seq = seq
    · by_cases c2 : r.prev = prev
      · rw [if_neg (by simp [c1, c2])] at ho
        subst ho
        have c1' : (r.seq != seq) = false := by simp [c1]
        have c2' : (r.prev != prev) = false := by simp [c2]
        simp -implicitDefEqProofs [recTup, Rec.row, Ev.row, recGTup, c1', c2']
      · rw [if_pos (.inr c2)] at ho
        subst ho
        have c1' : (r.seq != seq) = false := by simp [c1]
        have c2' : (r.prev != prev) = true := by simpa using c2
        simp -implicitDefEqProofs [recTup, rec0, Rec.row, Ev.row, ev0, recGTup, c1', c2']
    · rw [if_pos (.inl c1)] at ho
      subst ho
      have c1' : (r.seq != seq) = true := by simpa using c1
      simp -implicitDefEqProofs [recTup, rec0, Rec.row, Ev.row, ev0, recGTup, c1']
end
end Go.AI

/- The document's records. -/
set_option linter.all false
namespace Go.AI
variable {A : Type} {R : Adts A}
section
variable {mk : Int → List Bs → A}
theorem ref1_GetRecord_ok (hR : R.Ok) (hB : HasRBook R mk) {m : Int} {ts : List Bs} (hok : bOk m ts) (s : Bs) (hs : s.length < 7000000000000000000) (seq prev : Int) {h : AHeap A} {b : Nat} (hb : h[b]? = some (.adt (mk m ts))) {K : AVal → AHeap A → Prop}
    (hk : K (recGTup (recGet ts s seq prev)) h) : Tri Pr R n_ref1_GetRecord [.ptr b 0, .str s, .int .i64 seq, .int .i64 prev] h K := by
  refine rbook_own hR hB (ts' := ts) rfl rfl ?_ hb (by rw [set_same hb]; exact hk)
  apply c_ref1_GetRecord
  unfold p_ref1_GetRecord
  rw [reps11]
  obtain ⟨o, ho⟩ : ∃ o, recRead ts s = o := ⟨_, rfl⟩
  unfold recGet
  rw [ho]
  unfold recRead at ho
  simp -implicitDefEqProofs
  have hf : (.cells t_bastionref1_Reader [.str s, .int .i64 0, .bool false] : AObj A) = rRead s 0 false := rfl
  rw [hf]
  have hnil : evGet [] = none := rfl
  obtain ⟨q, t1, e1, hg1⟩ : ∃ x t e, gNum s 0 = (x, t, e) := ⟨_, _, _, rfl⟩
  obtain ⟨bo, t2, e2, hg2⟩ : ∃ x t e, gNum s t1 = (x, t, e) := ⟨_, _, _, rfl⟩
  obtain ⟨p, t3, e3, hg3⟩ : ∃ x t e, gNum s t2 = (x, t, e) := ⟨_, _, _, rfl⟩
  refine rReader2_ok hR s (by omega) 0 (by omega) false ?_
  rw [hg1]
  dsimp only
  rcases (by omega : e1 ≠ 0 ∨ e1 = 0) with c1 | c1
  · rw [if_neg (by simp [c1])]
    have : o = none := by rw [← ho]; simp [rNums, hg1, c1]
    subst this
    simp -implicitDefEqProofs
    refine rReader2_ok hR s (by omega) _ (by omega) true ?_
    rw [if_neg (by simp)]
    simp -implicitDefEqProofs
    refine rReader2_ok hR s (by omega) _ (by omega) true ?_
    rw [if_neg (by simp)]
    simp -implicitDefEqProofs
    refine rText2_ok hR s (by omega) _ (by omega) true ?_
    rw [if_neg (by simp)]
    simp -implicitDefEqProofs [rRead]
    change Tri _ _ _ _ (_ :: _ :: rRead s 0 true :: _) _
    refine rReader2_ok hR s (by omega) _ (by omega) true ?_
    rw [if_neg (by simp)]
    refine ref1_GetEvent_ok hR [] (by decide) ?_
    rw [hnil]
    unfold rRead
    simp -implicitDefEqProofs [evTup, Ev.row, ev0]
    refine joinP_go ?_
    rcases (by omega : s.length ≠ 64 ∨ s.length = 64) with c6 | c6
    · have c6' : ((s.length : Int) != 64) = true := by simp; omega
      simp -implicitDefEqProofs [c6', Rec.row, Ev.row, rec0, ev0, recGTup]
    · simp -implicitDefEqProofs [c6, Rec.row, Ev.row, rec0, ev0, recGTup]
  subst c1
  have q1 := gNum_enc hg1
  rw [if_pos ⟨rfl, rfl⟩]
  simp -implicitDefEqProofs
  refine rReader2_ok hR s (by omega) t1 (by omega) false ?_
  rw [hg2]
  dsimp only
  rcases (by omega : e2 ≠ 0 ∨ e2 = 0) with c2 | c2
  · rw [if_neg (by simp [c2])]
    have : o = none := by rw [← ho]; simp [rNums, hg1, hg2, c2]
    subst this
    simp -implicitDefEqProofs
    refine rReader2_ok hR s (by omega) t1 (by omega) true ?_
    rw [if_neg (by simp)]
    simp -implicitDefEqProofs
    refine rText2_ok hR s (by omega) t1 (by omega) true ?_
    rw [if_neg (by simp)]
    simp -implicitDefEqProofs [rRead]
    change Tri _ _ _ _ (_ :: _ :: rRead s t1 true :: _) _
    refine rReader2_ok hR s (by omega) t1 (by omega) true ?_
    rw [if_neg (by simp)]
    refine ref1_GetEvent_ok hR [] (by decide) ?_
    rw [hnil]
    unfold rRead
    simp -implicitDefEqProofs [evTup, Ev.row, ev0]
    refine joinP_go ?_
    rcases (by omega : s.length ≠ 64 ∨ s.length = 64) with c6 | c6
    · have c6' : ((s.length : Int) != 64) = true := by simp; omega
      simp -implicitDefEqProofs [c6', Rec.row, Ev.row, rec0, ev0, recGTup]
    · simp -implicitDefEqProofs [c6, Rec.row, Ev.row, rec0, ev0, recGTup]
  subst c2
  have q2 := gNum_enc hg2
  rw [if_pos ⟨rfl, rfl⟩]
  simp -implicitDefEqProofs
  refine rReader2_ok hR s (by omega) t2 (by omega) false ?_
  rw [hg3]
  dsimp only
  rcases (by omega : e3 ≠ 0 ∨ e3 = 0) with c3 | c3
  · rw [if_neg (by simp [c3])]
    have : o = none := by rw [← ho]; simp [rNums, hg1, hg2, hg3, c3]
    subst this
    simp -implicitDefEqProofs
    refine rText2_ok hR s (by omega) t2 (by omega) true ?_
    rw [if_neg (by simp)]
    simp -implicitDefEqProofs [rRead]
    change Tri _ _ _ _ (_ :: _ :: rRead s t2 true :: _) _
    refine rReader2_ok hR s (by omega) t2 (by omega) true ?_
    rw [if_neg (by simp)]
    refine ref1_GetEvent_ok hR [] (by decide) ?_
    rw [hnil]
    unfold rRead
    simp -implicitDefEqProofs [evTup, Ev.row, ev0]
    refine joinP_go ?_
    rcases (by omega : s.length ≠ 64 ∨ s.length = 64) with c6 | c6
    · have c6' : ((s.length : Int) != 64) = true := by simp; omega
      simp -implicitDefEqProofs [c6', Rec.row, Ev.row, rec0, ev0, recGTup]
    · simp -implicitDefEqProofs [c6, Rec.row, Ev.row, rec0, ev0, recGTup]
  subst c3
  have q3 := gNum_enc hg3
  rw [if_pos ⟨rfl, rfl⟩]
  have hn3 : rNums s 3 0 = some ([q, bo, p], t3) := by simp [rNums, hg1, hg2, hg3]
  rw [hn3] at ho
  dsimp only at ho
  simp -implicitDefEqProofs
  refine rText2_ok hR s (by omega) t3 (by omega) false ?_
  obtain ⟨x, u, e4, hx⟩ : ∃ x t e, gText s t3 = (x, t, e) := ⟨_, _, _, rfl⟩
  rw [hx] at ho ⊢
  dsimp only at ho ⊢
  rcases (by omega : e4 ≠ 0 ∨ e4 = 0) with c4 | c4
  · rw [if_neg (by simp [c4])]
    rw [if_pos c4] at ho
    subst ho
    simp -implicitDefEqProofs [rRead]
    change Tri _ _ _ _ (_ :: _ :: rRead s t3 true :: _) _
    refine rReader2_ok hR s (by omega) t3 (by omega) true ?_
    rw [if_neg (by simp)]
    refine ref1_GetEvent_ok hR [] (by decide) ?_
    rw [hnil]
    unfold rRead
    simp -implicitDefEqProofs [evTup, Ev.row, ev0]
    refine joinP_go ?_
    rcases (by omega : s.length ≠ 64 ∨ s.length = 64) with c6 | c6
    · have c6' : ((s.length : Int) != 64) = true := by simp; omega
      simp -implicitDefEqProofs [c6', Rec.row, Ev.row, rec0, ev0, recGTup]
    · simp -implicitDefEqProofs [c6, Rec.row, Ev.row, rec0, ev0, recGTup]
  subst c4
  have q4 := gText_enc hx
  rw [if_pos ⟨rfl, rfl⟩]
  rw [if_neg (show ¬ (0 : Int) ≠ 0 by simp)] at ho
  have hxl : x.length < 8000000000000000000 := by have := q4.1; simp [nMay] at this; omega
  simp -implicitDefEqProofs [rRead]
  change Tri _ _ _ _ (_ :: _ :: rRead s u false :: _) _
  refine rReader2_ok hR s (by omega) u (by omega) false ?_
  obtain ⟨n, v, e5, hn⟩ : ∃ x t e, gNum s u = (x, t, e) := ⟨_, _, _, rfl⟩
  rw [hn] at ho ⊢
  dsimp only at ho ⊢
  rcases (by omega : e5 ≠ 0 ∨ e5 = 0) with c5 | c5
  · rw [if_neg (by simp [c5])]
    have : o = none := by
      rw [← ho]
      cases evGet x with
      | none => rfl
      | some e => simp [c5]
    subst this
    refine ref1_GetEvent_ok hR x hxl ?_
    unfold rRead
    cases evGet x with
    | none =>
      simp -implicitDefEqProofs [evTup, Ev.row, ev0]
      refine joinP_go ?_
      rcases (by omega : s.length ≠ 64 ∨ s.length = 64) with c6 | c6
      · have c6' : ((s.length : Int) != 64) = true := by simp; omega
        simp -implicitDefEqProofs [c6', Rec.row, Ev.row, rec0, ev0, recGTup]
      · simp -implicitDefEqProofs [c6, Rec.row, Ev.row, rec0, ev0, recGTup]
    | some e =>
      simp -implicitDefEqProofs [evTup, Ev.row, ev0]
      refine joinP_go ?_
      rcases (by omega : s.length ≠ 64 ∨ s.length = 64) with c6 | c6
      · have c6' : ((s.length : Int) != 64) = true := by simp; omega
        simp -implicitDefEqProofs [c6', Rec.row, Ev.row, rec0, ev0, recGTup]
      · simp -implicitDefEqProofs [c6, Rec.row, Ev.row, rec0, ev0, recGTup]
  subst c5
  have q7 := gNum_enc hn
  rw [if_pos ⟨rfl, rfl⟩]
  refine ref1_GetEvent_ok hR x hxl ?_
  unfold rRead
  cases hev : evGet x with
  | none =>
    rw [hev] at ho
    dsimp only at ho
    subst ho
    simp -implicitDefEqProofs [evTup, Ev.row, ev0]
    refine joinP_go ?_
    rcases (by omega : s.length ≠ 64 ∨ s.length = 64) with c6 | c6
    · have c6' : ((s.length : Int) != 64) = true := by simp; omega
      simp -implicitDefEqProofs [c6', Rec.row, Ev.row, rec0, ev0, recGTup]
    · simp -implicitDefEqProofs [c6, Rec.row, Ev.row, rec0, ev0, recGTup]
  | some e =>
    rw [hev] at ho
    dsimp only at ho
    obtain ⟨q5, q6⟩ := evGet_enc hev
    rw [if_neg (show ¬ (0 : Int) ≠ 0 by simp)] at ho
    simp -implicitDefEqProofs [evTup, Ev.row]
    refine joinP_go ?_
    rcases (by omega : s.length ≠ 64 ∨ s.length = 64) with c6 | c6
    · rw [if_pos (.inl c6)] at ho
      subst ho
      have c6' : ((s.length : Int) != 64) = true := by simp; omega
      simp -implicitDefEqProofs [c6', recGTup, rec0, Rec.row, Ev.row, ev0]
    simp -implicitDefEqProofs [c6]
    by_cases d1 : (44 : Int) < x.length
    · have hm : recMay ⟨q, bo, p, e⟩ = false := by
        cases h : recMay ⟨q, bo, p, e⟩ with
        | false => rfl
        | true => have := (recMay_all h).2.2.2.2.2.2; rw [← q5] at this; omega
      rw [if_pos (.inr (.inl hm))] at ho
      subst ho
      simp -implicitDefEqProofs [d1, recGTup, rec0, Rec.row, Ev.row, ev0]
    by_cases d2 : q < 1
    · have hm : recMay ⟨q, bo, p, e⟩ = false := by
        cases h : recMay ⟨q, bo, p, e⟩ with
        | false => rfl
        | true => have := (recMay_all h).2.1; simp only at this; omega
      rw [if_pos (.inr (.inl hm))] at ho
      subst ho
      simp -implicitDefEqProofs [d1, d2, recGTup, rec0, Rec.row, Ev.row, ev0]
    by_cases d3 : bo < 1
    · have hm : recMay ⟨q, bo, p, e⟩ = false := by
        cases h : recMay ⟨q, bo, p, e⟩ with
        | false => rfl
        | true => have := (recMay_all h).2.2.2.1; simp only at this; omega
      rw [if_pos (.inr (.inl hm))] at ho
      subst ho
      simp -implicitDefEqProofs [d1, d2, d3, recGTup, rec0, Rec.row, Ev.row, ev0]
    have hm : recMay ⟨q, bo, p, e⟩ = true := by
      simp only [recMay, q6, q1.1, q2.1, q3.1, Bool.true_and, Bool.and_true, Bool.and_eq_true, decide_eq_true_eq, ← q5]
      refine ⟨⟨?_, ?_⟩, ?_⟩ <;> omega
    have hbl := recBody_len hm
    have w0 : s.take t3.toNat = nAll [q, bo, p] := by
      have := (rNums_enc hn3 (by omega)).2.2.2.1
      simpa using this
    have hown : s.take u.toNat = recBody ⟨q, bo, p, e⟩ := by
      rw [take_two (by omega) (by omega) w0 q4.2.2.2.2, q5]
      rfl
    have f1 : 0 ≤ u := by omega
    have f2 : u ≤ 64 := by omega
    have g1 : 6 + (recBody ⟨q, bo, p, e⟩).length < 9223372036854775808 := by omega
    have hc : 72 :: 114 :: 101 :: 99 :: 111 :: 114 :: 100 :: recBody ⟨q, bo, p, e⟩ = recT ⟨q, bo, p, e⟩ := rfl
    have f3 : 0 ≤ v := by omega
    have f4 : v ≤ 64 := by omega
    have e6 := w64 (n := 64 - v) (by omega)
    obtain ⟨z, hz⟩ : ∃ n : Nat, (64 - v).toNat = n := ⟨_, rfl⟩
    have hz2 : 64 - v.toNat = z := by omega
    rw [hz2] at ho
    have f5 : 64 - v ≤ 140737488355328 := by omega
    simp -implicitDefEqProofs [d1, d2, d3, c6, f3, f4, e6, mkslP, f5, hz]
    refine z_readn (by rfl) (zCells_eq z).symm ?_
    by_cases c8 : s.drop v.toNat = List.replicate z 0
    · simp -implicitDefEqProofs [c8, f1, f2, c6, hown, g1]
      refine ref1_IsHash_ok hR hB hok _ (by simp; omega) n rfl ?_
      rw [hc]
      cases c7 : cIs ts (recT ⟨q, bo, p, e⟩) n with
      | false =>
        rw [if_pos (.inr (.inr (.inl c7)))] at ho
        subst ho
        simp -implicitDefEqProofs [recGTup, rec0, Rec.row, Ev.row, ev0]
      | true =>
        rw [if_neg (by rintro (h | h | h | h); exact h c6; rw [hm] at h; simp at h; rw [c7] at h; simp at h; exact h c8)] at ho
        subst ho
        by_cases k1 : q = seq
        · subst k1
          by_cases k2 : p = prev
          · subst k2
            simp -implicitDefEqProofs [recGTup, Rec.row, Ev.row]
          · have k2' : (p != prev) = true := by simpa using k2
            simp -implicitDefEqProofs [k2', k2, recGTup, rec0, Rec.row, Ev.row, ev0]
        · have k1' : (q != seq) = true := by simpa using k1
          simp -implicitDefEqProofs [k1', k1, recGTup, rec0, Rec.row, Ev.row, ev0]
    · rw [if_pos (.inr (.inr (.inr c8)))] at ho
      subst ho
      have c8' : (s.drop v.toNat != List.replicate z 0) = true := by simpa using c8
      simp -implicitDefEqProofs [c8', recGTup, rec0, Rec.row, Ev.row, ev0]
end
end Go.AI

/- Records: the statements. -/
set_option linter.all false
namespace Go.AI
variable {A : Type} {R : Adts A}
theorem shRec (r q : Rec) : shEq (Sh.st [(0, 1, Sh.i), (1, 1, Sh.i), (2, 1, Sh.i), (3, 8, Sh.st [(0, 1, Sh.i), (1, 1, Sh.i), (2, 1, Sh.i), (3, 1, Sh.i), (4, 1, Sh.i), (5, 1, Sh.i), (6, 1, Sh.i), (7, 1, Sh.i)])]) r.row q.row = some (decide (r = q)) := by
  obtain ⟨x, y, z, k, u, s, ad, a, b, c, t⟩ := r
  obtain ⟨x2, y2, z2, k2, u2, s2, ad2, a2, b2, c2, t2⟩ := q
  simp [Rec.row, Ev.row, shEq, shEqs]
  rfl
section
variable {mk : Int → List Bs → A}
theorem RPut_at (hR : R.Ok) (hB : HasBook R mk) {m : Int} {ts q : List Bs} {r : Rec} {s : Bs} {n e : Int} (hok : bOk m ts) (he : recPut m ts r = (q, s, n, e)) {h : AHeap A} {b : Nat} (hb : h[b]? = some (.adt (mk m ts))) {K : AVal → AHeap A → Prop}
    (hk : K (.tup [.str s, .int .i64 n, .int .i64 e]) (h.set b (.adt (mk m q)))) : Tri Pr R n_record_Put [.ptr b 0, .agg r.row] h K := by
  refine record_Put_ok hR hB hok r hb ?_
  rw [he]; exact hk
theorem RPut_nil (hR : R.Ok) (r : Rec) {h : AHeap A} {K : AVal → AHeap A → Prop} (hk : K (.tup [.str [], .int .i64 0, .int .i64 1]) h) : Tri Pr R n_record_Put [.nilp, .agg r.row] h K := by
  refine Tri.fn1 hR _ rfl rfl ?_ hk
  apply c_record_Put
  unfold p_record_Put
  simp -implicitDefEqProofs [Rec.row, Ev.row]
  exact Ans.rfl' _
theorem RGet_at (hR : R.Ok) (hB : HasBook R mk) {m : Int} {ts : List Bs} {s : Bs} {seq prev n e : Int} {r : Rec} (hs : s.length < 1000) (he : recGet ts s seq prev = (r, n, e)) {h : AHeap A} {b : Nat} (hb : h[b]? = some (.adt (mk m ts))) {K : AVal → AHeap A → Prop}
    (hk : K (.tup [.agg r.row, .int .i64 n, .int .i64 e]) h) : Tri Pr R n_record_Get [.ptr b 0, .str s, .int .i64 seq, .int .i64 prev] h K := by
  refine record_Get_ok hR hB s (by omega) seq prev hb ?_
  rw [he]; exact hk
theorem bOk_rput {m : Int} {ts q : List Bs} {r : Rec} {s : Bs} {n e : Int} (h : bOk m ts) (he : recPut m ts r = (q, s, n, e)) : bOk m q := by
  have := recPut_ok (r := r) h
  rwa [he] at this
end
section
variable {bk rbk : Int → List Bs → A}
end
end Go.AI

/- Journals: small calls. -/
set_option linter.all false
namespace Go.AI
variable {A : Type} {R : Adts A}
section
variable {mk : List Bs → Ws → Bool → A}
theorem disk_Down_ok (hR : R.Ok) (hB : HasDisk R mk) {k : List Bs} {w : Ws} {d : Bool} {h : AHeap A} {b : Nat} (hb : h[b]? = some (.adt (mk k w d))) {K : AVal → AHeap A → Prop}
    (hk : K (.bool d) h) : Tri Pr R n_disk_Disk_Down [.ptr b 0] h K := by
  refine Tri.own hR (as2 := [.ptr 0 0]) (Q := fun v o => v = .bool d ∧ o = .adt (mk k w d)) rfl (disk_ix hB _ _ _ _) ?_ (disk_ren hB _ _ _) ?_ hb (by simp [rens, AVal.ren]) ?_
  · rintro _ _ ⟨rfl, rfl⟩; exact ⟨rfl, disk_ren hB _ _ _⟩
  · refine Tri.post (Tri.pre (Gives.opened 0 rfl (by simp) fun g hg => ?_))
    obtain rfl := (hB.lay _ _ _ _).1 hg
    refine Gives.done (by simp) ?_
    apply c_disk_Disk_Down
    unfold p_disk_Disk_Down
    by_cases h0 : w = []
    · subst h0
      simp -implicitDefEqProofs [diskG, GC.at]
      exact disk_shut0 hR hB 1 _ rfl rfl rfl (by omega) rfl ⟨_, rfl, _, ⟨rfl, rfl⟩, rfl⟩
    · simp -implicitDefEqProofs [diskG, GC.at, h0]
      exact disk_shut hR hB h0 1 2 _ _ rfl rfl rfl rfl rfl (by omega) rfl ⟨_, rfl, _, ⟨rfl, rfl⟩, rfl⟩
  · rintro _ _ ⟨rfl, rfl⟩; rw [set_same hb]; exact hk
theorem disk_Size_ok (hR : R.Ok) (hB : HasDisk R mk) {k : List Bs} {w : Ws} {d : Bool} {h : AHeap A} {b : Nat} (hb : h[b]? = some (.adt (mk k w d))) {K : AVal → AHeap A → Prop}
    (hk : K (.int .i64 k.length) h) : Tri Pr R n_disk_Disk_Size [.ptr b 0] h K := by
  refine Tri.own hR (as2 := [.ptr 0 0]) (Q := fun v o => v = .int .i64 k.length ∧ o = .adt (mk k w d)) rfl (disk_ix hB _ _ _ _) ?_ (disk_ren hB _ _ _) ?_ hb (by simp [rens, AVal.ren]) ?_
  · rintro _ _ ⟨rfl, rfl⟩; exact ⟨rfl, disk_ren hB _ _ _⟩
  · refine Tri.post (Tri.pre (Gives.opened 0 rfl (by simp) fun g hg => ?_))
    obtain rfl := (hB.lay _ _ _ _).1 hg
    refine Gives.done (by simp) ?_
    apply c_disk_Disk_Size
    unfold p_disk_Disk_Size
    by_cases h0 : w = []
    · subst h0
      simp -implicitDefEqProofs [diskG, GC.at]
      exact disk_shut0 hR hB 1 _ rfl rfl rfl (by omega) rfl ⟨_, rfl, _, ⟨rfl, rfl⟩, rfl⟩
    · simp -implicitDefEqProofs [diskG, GC.at, h0]
      exact disk_shut hR hB h0 1 2 _ _ rfl rfl rfl rfl rfl (by omega) rfl ⟨_, rfl, _, ⟨rfl, rfl⟩, rfl⟩
  · rintro _ _ ⟨rfl, rfl⟩; rw [set_same hb]; exact hk
end
/-- Events that are handed in: by themselves, or in an object behind the first n. -/
structure EvArg (a : AVal) (l : List Ev) (n : Nat) (t : AHeap A) : Prop where
  len : ∀ K : AVal → Prop, lenP a K = K (.int .i64 l.length)
  get : ∀ h : AHeap A, (∀ k o, t[k]? = some o → h[n + k]? = some o) → ∀ (i : Nat) (hi : i < l.length), ∃ p, (∀ K, idxP 8 a (.int .i64 i) K = K p) ∧ ldV 8 true p h = some (.agg l[i].row)
  src : ∀ h : AHeap A, (∀ k o, t[k]? = some o → h[n + k]? = some o) → srcOf 8 h a = some (l.length, l.flatMap Ev.row)
theorem EvArg.nil (n : Nat) (t : AHeap A) : EvArg .nils [] n t := ⟨fun K => by simp, fun h _ i hi => by simp at hi, fun h _ => rfl⟩
theorem EvArg.rows {a : AVal} {l : List Ev} (ha : IsRows Ev.row a l) (n : Nat) (t : AHeap A) : EvArg a l n t := by
  refine ⟨fun K => ha.len K, fun h _ i hi => ?_, fun h _ => ?_⟩
  · obtain ⟨x, b, o, cs, hx, hg⟩ := ha.get (w := 8) (fun x => rfl) (n := (i : Int)) (by omega) (by omega)
    rw [Int.toNat_natCast, List.getElem?_eq_getElem hi] at hx
    obtain rfl := Option.some.inj hx
    exact ⟨_, hg, by simp [ldV, Ev.row]⟩
  · rcases ha with ⟨rfl, rfl⟩ | ⟨b, o, cap, rfl⟩
    · rfl
    · have hl := evs_len l
      show srcOf 8 h (.lst b o l.length cap (l.flatMap Ev.row)) = _
      generalize l.flatMap Ev.row = C at *
      simp [srcOf, hl]
theorem EvArg.sl (l : List Ev) (n cap : Nat) (ex : Bool) (e : TypeId) : EvArg (A := A) (.sl n 0 l.length cap ex) l n [.cells e (l.flatMap Ev.row)] := by
  refine ⟨fun K => by simp, fun h ht i hi => ?_, fun h ht => ?_⟩
  · have h0 := ht 0 _ rfl
    have h1 : ((0 : Int) ≤ (i : Int) ∧ (i : Int) < (l.length : Int)) := by omega
    refine ⟨.ptr n (i * 8), fun K => by simp [idxP, hi], ?_⟩
    have h2 := rows_drop (f := Ev.row) (n := 8) (fun x => rfl) l i hi
    have hl := evs_len l
    have h3 : i * 8 + 8 ≤ (l.flatMap Ev.row).length := by omega
    have h4 : ((l.flatMap Ev.row).drop (i * 8)).take 8 = l[i].row := by rw [h2]; simp [Ev.row]
    rw [Nat.add_zero] at h0
    simp only [ldV, cellsAt, h0, AObj.read, Option.bind_some, h3, if_true, h4]
  · have h0 := ht 0 _ rfl
    rw [Nat.add_zero] at h0
    have hl := evs_len l
    generalize l.flatMap Ev.row = C at *
    have t1 : C.take (l.length * 8) = C := List.take_of_length_le (by omega)
    simp [srcOf, cellsAt, h0, AObj.read, hl, t1]
theorem written_c1_ok (hR : R.Ok) (e : Ev) {h : AHeap A} {K : AVal → AHeap A → Prop} (hk : K (.bool (!evMay e)) h) : Tri Pr R n_journal_Journal_written_c1 [.agg e.row] h K := by
  refine Tri.fn1 hR _ rfl (by simp [ixs, AVal.ix, Ev.row]) ?_ hk
  apply c_journal_Journal_written_c1
  unfold p_journal_Journal_written_c1
  simp -implicitDefEqProofs [Ev.row]
  refine event_May_ok hR e ?_
  simp -implicitDefEqProofs
  exact Ans.rfl' _
def IxI (g : AHeap A) (l : List Ev) (m : Nat) (y : List AVal) (h : AHeap A) : Prop := ∃ i : Nat, y = [.int .i64 i] ∧ h = g ∧ i ≤ l.length ∧ (∀ (j : Nat) (hj : j < l.length), j < i → evMay l[j] = true) ∧ m = l.length - i
theorem IndexFunc_ok (hR : R.Ok) {a : AVal} {l : List Ev} {n : Nat} {t h : AHeap A} (ha : EvArg a l n t) (ht : ∀ k o, t[k]? = some o → h[n + k]? = some o) (hn : l.length < 1000000000) {K : AVal → AHeap A → Prop}
    (hk : ∀ v : Int, decide (0 ≤ v) = !l.all evMay → K (.int .i64 v) h) : Tri Pr R n_slices_IndexFunc_api_Event [a, .fn (.func n_journal_Journal_written_c1) [] []] h K := by
  apply c_slices_IndexFunc_api_Event
  unfold p_slices_IndexFunc_api_Event
  simp -implicitDefEqProofs [ha.len]
  have hc1 : callOk Pr n_journal_Journal_written_c1 = true := by kernel_rfl
  refine loopP_go (IxI h l) l.length (Gives.done (by simp) ⟨0, rfl, rfl, by omega, by omega, by omega⟩) ?_
  rintro m y g ⟨i, rfl, rfl, hi, hall, rfl⟩
  have e1 := w64 (n := (i : Int) + 1) (by omega)
  by_cases h1 : i < l.length
  · obtain ⟨p, hp, hv⟩ := ha.get g ht i h1
    have h1' : (i : Int) < (l.length : Int) := by omega
    simp -implicitDefEqProofs [h1, h1', hp, hv]
    with_reducible refine dynP_go hc1 ?_
    simp -implicitDefEqProofs
    refine written_c1_ok hR _ ?_
    cases hm : evMay l[i] with
    | false =>
      simp -implicitDefEqProofs
      refine hk _ ?_
      have : l.all evMay = false := by
        rw [List.all_eq_false]
        exact ⟨l[i], List.getElem_mem h1, by simp [hm]⟩
      rw [this]; simp
    | true =>
      simp -implicitDefEqProofs [e1]
      refine Gives.done (by simp) ⟨l.length - (i + 1), by omega, i + 1, rfl, rfl, by omega, fun j hj hji => ?_, rfl⟩
      by_cases hji2 : j < i
      · exact hall j hj hji2
      · obtain rfl : j = i := by omega
        exact hm
  · have h1' : ¬ (i : Int) < (l.length : Int) := by omega
    simp -implicitDefEqProofs [h1, h1']
    refine hk _ ?_
    have : l.all evMay = true := by
      rw [List.all_eq_true]
      intro x hx
      obtain ⟨j, hj, rfl⟩ := List.getElem_of_mem hx
      exact hall j hj (by omega)
    rw [this]; rfl
theorem ContainsFunc_ok (hR : R.Ok) {a : AVal} {l : List Ev} {n : Nat} {t h : AHeap A} (ha : EvArg a l n t) (ht : ∀ k o, t[k]? = some o → h[n + k]? = some o) (hn : l.length < 1000000000) {K : AVal → AHeap A → Prop}
    (hk : K (.bool (!l.all evMay)) h) : Tri Pr R n_slices_ContainsFunc_api_Event [a, .fn (.func n_journal_Journal_written_c1) [] []] h K := by
  apply c_slices_ContainsFunc_api_Event
  unfold p_slices_ContainsFunc_api_Event
  refine IndexFunc_ok hR ha ht hn fun v hv => ?_
  simp -implicitDefEqProofs [hv]
  exact hk
end Go.AI

/- Journals: the boot's number, the next record. -/
set_option linter.all false
namespace Go.AI
variable {A : Type} {R : Adts A}
/-- The journal's own cells. -/
def jCells (b d : Nat) (boot prev : Int) (ev : AVal) (over : Bool) : AObj A := .cells t_journal_Journal [.ptr b 0, .ptr d 0, .int .i64 boot, .int .i64 prev, ev, .bool over]
/-- The events' slice, and where they lie. -/
def EvAt (x : AVal) (es : List Ev) (e : Nat) (h : AHeap A) : Prop := (es = [] ∧ x = .nils) ∨ (es ≠ [] ∧ x = .sl e 0 es.length es.length false ∧ h[e]? = some (.cells t_api_Event (es.flatMap Ev.row)))
theorem EvAt.len {x : AVal} {es : List Ev} {e : Nat} {h : AHeap A} (he : EvAt x es e h) (K : AVal → Prop) : lenP x K = K (.int .i64 es.length) := by
  rcases he with ⟨rfl, rfl⟩ | ⟨_, rfl, _⟩ <;> simp
theorem EvAt.ix {x : AVal} {es : List Ev} {e : Nat} {h : AHeap A} (he : EvAt x es e h) : x.ix h.length = true := by
  rcases he with ⟨rfl, rfl⟩ | ⟨_, rfl, h1⟩
  · rfl
  · have := (List.getElem?_eq_some_iff.1 h1).1
    simpa [AVal.ix] using this
theorem EvAt.move {x : AVal} {es : List Ev} {e : Nat} {h h' : AHeap A} (he : EvAt x es e h) (hh : es ≠ [] → h'[e]? = h[e]?) : EvAt x es e h' := by
  rcases he with ⟨rfl, rfl⟩ | ⟨h0, rfl, h1⟩
  · exact .inl ⟨rfl, rfl⟩
  · exact .inr ⟨h0, rfl, by rw [hh h0]; exact h1⟩
theorem EvAt.app {x : AVal} {es : List Ev} {e : Nat} {h : AHeap A} (he : EvAt x es e h) (r : AHeap A) : EvAt x es e (h ++ r) := by
  rcases he with ⟨rfl, rfl⟩ | ⟨h0, rfl, h1⟩
  · exact .inl ⟨rfl, rfl⟩
  · exact .inr ⟨h0, rfl, by rw [List.getElem?_append_left (List.getElem?_eq_some_iff.1 h1).1]; exact h1⟩
theorem room_64 {n : Nat} (h : n ≤ 100000) : (2 * n + 1000) * 64 ≤ 140737488355328 := by omega
theorem app_evs {x a : AVal} {es l : List Ev} {e : Nat} {h : AHeap A} (he : EvAt x es e h) (hs : srcOf 8 h a = some (l.length, l.flatMap Ev.row)) (hn : es.length + l.length ≤ 10000) {K : AVal → AHeap A → Prop}
    (hk : ∀ x' e' h', EvAt x' (es ++ l) e' h' → (∀ k, (es = [] ∨ k ≠ e) → k < h.length → h'[k]? = h[k]?) → h.length ≤ h'.length → ((es ≠ [] ∧ e' = e) ∨ h.length ≤ e') → K x' h') : appP t_api_Event 8 64 x a h K := by
  have r1 := room_64 (n := es.length + l.length) (by omega)
  have hl1 := evs_len es
  have hl2 := evs_len l
  unfold appP appV
  rw [hs]
  dsimp only
  rcases he with ⟨rfl, rfl⟩ | ⟨h0, rfl, h1⟩
  · dsimp only
    by_cases hl : l = []
    · subst hl
      simp only [List.length_nil, if_true, optH]
      exact hk _ h.length _ (.inl ⟨rfl, rfl⟩) (fun _ _ _ => rfl) (Nat.le_refl _) (.inr (Nat.le_refl _))
    · have h3 : ¬ l.length = 0 := fun h => hl (List.length_eq_zero_iff.1 h)
      have h4 : 0 < 64 ∧ l.length * 64 ≤ 140737488355328 := by omega
      rw [if_neg h3, if_pos h4]
      simp only [optH]
      refine hk _ h.length _ (.inr ⟨by simpa using hl, by simp, by simp⟩) (fun k _ hk' => by rw [List.getElem?_append_left hk']) (by simp) (.inr (Nat.le_refl _))
  · have hlt := (List.getElem?_eq_some_iff.1 h1).1
    dsimp only
    by_cases hl : l = []
    · subst hl
      rw [if_pos (by simp)]
      simp only [List.length_nil, List.flatMap_nil]
      have hset : setAt h e (0 + es.length * 8) [] = some h := by
        unfold setAt
        rw [h1]
        dsimp only
        rw [if_pos ⟨by simp only [List.length_nil]; omega, rfl⟩]
        have : over (es.flatMap Ev.row) (0 + es.length * 8) [] = es.flatMap Ev.row := by
          unfold over
          simp
        rw [this, set_same h1]
      rw [hset]
      simp only [Option.map_some, optH]
      exact hk _ e _ (.inr ⟨by simpa using h0, by simp, by simpa using h1⟩) (fun _ _ _ => rfl) (Nat.le_refl _) (.inl ⟨h0, rfl⟩)
    · have h3 : ¬ es.length + l.length ≤ es.length := by have := List.length_pos_iff.2 hl; omega
      rw [if_neg h3, h1]
      dsimp only
      have hsc : (l.flatMap Ev.row).all AVal.scalar = true := by
        rw [List.all_flatMap, List.all_eq_true]
        intro y _
        rfl
      rw [if_pos ⟨by omega, by omega, .inr r1⟩, if_neg (by simp), if_pos ⟨rfl, by omega, hsc⟩]
      simp only [optH]
      have t1 : (es.flatMap Ev.row).take (es.length * 8) = es.flatMap Ev.row := List.take_of_length_le (by omega)
      refine hk _ h.length _ (.inr ⟨by simp [h0], by simp, ?_⟩) (fun k hk1 hk' => ?_) (by simp) (.inr (Nat.le_refl _))
      · rw [List.getElem?_append_right (by simp)]
        simp [t1]
      · have hke : k ≠ e := by rcases hk1 with h | h; exact absurd h h0; exact h
        rw [List.getElem?_append_left (by simpa using hk'), List.getElem?_set_ne (Ne.symm hke)]
section
variable {bk : Int → List Bs → A} {dk : List Bs → Ws → Bool → A}
theorem Room_raw (hR : R.Ok) (hD : HasDisk R dk) {h : AHeap A} {j b d n : Nat} {boot prev : Int} {ev : AVal} {over dn : Bool} {k : List Bs} {w : Ws} (hj : h[j]? = some (jCells b d boot prev ev over)) (hd : h[d]? = some (.adt (dk k w dn))) (hl : ∀ K : AVal → Prop, lenP ev K = K (.int .i64 n))
    (hn : n ≤ 10000) (hkl : k.length ≤ 256) {K : AVal → AHeap A → Prop} (hk : K (.int .i64 ((k.length : Int) - 2 - n)) h) : Tri Pr R n_journal_Journal_Room [.ptr j 0] h K := by
  unfold jCells at hj
  apply c_journal_Journal_Room
  unfold p_journal_Journal_Room
  simp -implicitDefEqProofs [cellsAt, hj, AObj.read, hl]
  refine disk_Size_ok hR hD hd ?_
  have e1 := w64 (n := (k.length : Int) - 2) (by omega)
  have e2 := w64 (n := (k.length : Int) - 2 - n) (by omega)
  simp -implicitDefEqProofs [cellsAt, hj, AObj.read, hl, e1, e2]
  exact hk
theorem sPick_may (ts : List Bs) (s t : Bs) : 0 ≤ (sPick ts s t).1 ∧ (sPick ts s t).1 ≤ 1023 ∧ ((sPick ts s t).2.1 = 0 ∨ (sPick ts s t).2.1 = 1) ∧ ((sPick ts s t).2.2 = 0 ∨ ((sPick ts s t).2.2 = 1001 ∧ (sPick ts s t).1 = 0 ∧ (sPick ts s t).2.1 = 0)) := by
  obtain ⟨a1, a2, a3⟩ := sGet_err ts s
  obtain ⟨b1, b2, b3⟩ := sGet_err ts t
  unfold sPick
  split
  · simp
  · split
    · rename_i h
      have := a3 h.1
      refine ⟨by omega, this.2, .inr rfl, .inl rfl⟩
    · rcases (show (sGet ts t).2 = 0 ∨ (sGet ts t).2 ≠ 0 by omega) with h | h
      · have := b3 h
        exact ⟨by omega, this.2, .inl rfl, .inl rfl⟩
      · have := b2 h
        exact ⟨by simp only; omega, by simp only; omega, .inl rfl, .inl rfl⟩
theorem getD_len {l : List Bs} (h : ∀ s ∈ l, s.length = 64) {i : Nat} (hi : i < l.length) : (l.getD i []).length = 64 := by
  rw [List.getD_eq_getElem?_getD, List.getElem?_eq_getElem hi]
  exact h _ (List.getElem_mem hi)
theorem began_ok (hR : R.Ok) (hB : HasBook R bk) (hD : HasDisk R dk) {m : Int} {ts t : List Bs} {k : List Bs} {w : Ws} {s : Bs} {b0 prev boot at_ e f : Int} {ev : AVal} {over : Bool} (hok : bOk m ts) (hdk : dOk k w) (hw : w.length ≤ 900) (hsz : 2 < k.length)
    (he1 : sPick ts ((dPut k w).getD 0 []) ((dPut k w).getD 1 []) = (boot, at_, e)) (he2 : sPut m ts (boot + 1) = (t, s, f)) {K : AVal → AHeap A → Prop}
    (hk1 : f ≠ 0 → K (.iface t_p_journal_place (.ptr 3 0)) [.adt (bk m t), .adt (dk k w false), jCells 0 1 b0 prev ev over, .cells t_journal_place [.int .i64 0, .iface t_api_Errno (.int .i64 1101)]])
    (hk2 : f = 0 → K .nili [.adt (bk m t), .adt (dk (dPut k (w ++ [(at_, s)])) [] false), jCells 0 1 (boot + 1) prev ev over]) :
    Tri Pr R n_journal_Journal_began [.ptr 2 0] [.adt (bk m ts), .adt (dk k w false), jCells 0 1 b0 prev ev over] K := by
  have hd := hdk.size
  have hpl := dPut_len k w
  have hpf := dPut_full hdk
  have r0 : dRead k w false 0 = ((dPut k w).getD 0 [], 0) := by
    unfold dRead; rw [if_neg (by simp), if_neg (by omega)]; rfl
  have r1 : dRead k w false 1 = ((dPut k w).getD 1 [], 0) := by
    unfold dRead; rw [if_neg (by simp), if_neg (by omega)]; rfl
  have l0 := getD_len hpf (i := 0) (by omega)
  have l1 := getD_len hpf (i := 1) (by omega)
  obtain ⟨p1, p2, p3, p4⟩ := sPick_may ts ((dPut k w).getD 0 []) ((dPut k w).getD 1 [])
  rw [he1] at p1 p2 p3 p4
  dsimp only at p1 p2 p3 p4
  generalize (dPut k w).getD 0 [] = one at *
  generalize (dPut k w).getD 1 [] = two at *
  have e1 := w64 (n := boot + 1) (by omega)
  unfold jCells at *
  apply c_journal_Journal_began
  unfold p_journal_Journal_began
  simp -implicitDefEqProofs
  refine disk_Read_at hR hD hdk (by omega) r0 rfl ?_
  simp -implicitDefEqProofs
  refine disk_Read_at hR hD hdk (by omega) r1 rfl ?_
  simp -implicitDefEqProofs
  refine super_Pick_ok hR hB one two (by omega) (by omega) rfl ?_
  rw [he1]
  simp -implicitDefEqProofs
  refine joinP_all (fun vs g => vs = [.int .i64 boot, .int .i64 at_] ∧ g = [.adt (bk m ts), .adt (dk k w false), .cells t_journal_Journal [.ptr 0 0, .ptr 1 0, .int .i64 b0, .int .i64 prev, ev, .bool over]]) ?_ ?_
  · refine Is_errno_ok _ _ ?_
    rcases p4 with h | ⟨h, h1, h2⟩
    · subst h
      simp -implicitDefEqProofs
    · subst h h1 h2
      simp -implicitDefEqProofs
  rintro _ _ ⟨rfl, rfl⟩
  refine ⟨by simp, ?_⟩
  simp -implicitDefEqProofs [e1]
  refine super_Put_ok hR hB hok _ rfl ?_
  rw [he2]
  by_cases hf : f = 0
  · subst hf
    have sl := sPut_sec he2
    have w1 : dWrite k w false at_ s = (w ++ [(at_, s)], 0) := dWrite_good (by omega)
    have ok2 : dOk k (w ++ [(at_, s)]) := dOk_write hdk (by omega)
    simp -implicitDefEqProofs
    refine disk_Write_at hR hD hdk (by omega) w1 rfl ?_
    simp -implicitDefEqProofs
    refine disk_Flush_at hR hD ok2 (by simp; omega) rfl rfl ?_
    simp -implicitDefEqProofs
    exact hk2 rfl
  · have hf' : (f != 0) = true := by simpa using hf
    simp -implicitDefEqProofs [hf']
    exact hk1 hf
end
end Go.AI

/- Journals: the next record, and Open. -/
set_option linter.all false
namespace Go.AI
variable {A : Type} {R : Adts A}
section
variable {bk : Int → List Bs → A} {dk : List Bs → Ws → Bool → A}
theorem st_last {base : AHeap A} {t : TypeId} {cs new : List AVal} {n : Nat} {K : AHeap A → Prop} (h1 : new.length = n) (h2 : cs.length = n) (hs : new.all AVal.scalar = true) (hk : K (base ++ [.cells t new])) : stP n (.ptr base.length 0) (.agg new) (base ++ [.cells t cs]) K := by
  have h3 : over cs 0 new = new := by
    unfold over
    simp; omega
  have h4 : setAt (base ++ [AObj.cells t cs]) base.length 0 new = some (base ++ [.cells t new]) := by
    unfold setAt
    rw [List.getElem?_append_right (Nat.le_refl _)]
    simp only [Nat.sub_self, List.getElem?_cons_zero]
    rw [if_pos ⟨by omega, hs⟩, h3]
    simp
  unfold stP
  simp only [AVal.cs, h1, if_true, h4, hP]
  exact hk
theorem three {h : AHeap A} {a b c : AObj A} (h0 : h[0]? = some a) (h1 : h[1]? = some b) (h2 : h[2]? = some c) : ∃ r, h = a :: b :: c :: r := by
  match h, h0, h1, h2 with
  | x :: y :: z :: r, h0, h1, h2 =>
    simp at h0 h1 h2
    subst h0 h1 h2
    exact ⟨r, rfl⟩
theorem st_ev {x : AVal} {es : List Ev} {e : Nat} {g : AHeap A} (he : EvAt x es e g) {a b : AObj A} {t : TypeId} {v0 v1 v2 v3 v4 v5 : AVal} {r : AHeap A} (K : AHeap A → Prop) :
    stP 1 (.ptr 2 4) x (a :: b :: .cells t [v0, v1, v2, v3, v4, v5] :: r) K = K (a :: b :: .cells t [v0, v1, v2, v3, x, v5] :: r) := by
  rcases he with ⟨_, rfl⟩ | ⟨_, rfl, _⟩ <;> rfl
theorem next_ok (hR : R.Ok) (hB : HasBook R bk) (hD : HasDisk R dk) {m : Int} {ts : List Bs} {k : List Bs} {w : Ws} {boot prev : Int} {ev : AVal} {over : Bool} {es : List Ev} {e : Nat} {u : AHeap A} (hdk : dOk k w) (hw : w.length ≤ 900)
    (hes : EvAt ev es e (.adt (bk m ts) :: .adt (dk k w false) :: jCells 0 1 boot prev ev over :: u)) (he3 : es ≠ [] → 3 ≤ e) (hn : es.length ≤ 300) {K : AVal → AHeap A → Prop}
    (hk : if (2 + es.length : Nat) < k.length then
        (match recGet ts ((dPut k w).getD (2 + es.length) []) (es.length + 1) prev with
         | (r, name, f) => if f = 0 then ∀ x' e' h', EvAt x' (es ++ [r.ev]) e' (.adt (bk m ts) :: .adt (dk k w false) :: jCells 0 1 boot name x' over :: h') → 3 ≤ e' → u.length ≤ h'.length → K .nili (.adt (bk m ts) :: .adt (dk k w false) :: jCells 0 1 boot name x' over :: h')
            else ∀ x r, K (.iface t_p_journal_place x) (.adt (bk m ts) :: .adt (dk k w false) :: jCells 0 1 boot prev ev over :: (u ++ r)))
      else ∀ x r, K (.iface t_p_journal_place x) (.adt (bk m ts) :: .adt (dk k w false) :: jCells 0 1 boot prev ev over :: (u ++ r))) :
    Tri Pr R n_journal_Journal_next [.ptr 2 0] (.adt (bk m ts) :: .adt (dk k w false) :: jCells 0 1 boot prev ev over :: u) K := by
  have hd := hdk.size
  have hpl := dPut_len k w
  have hpf := dPut_full hdk
  have e1 := w64 (n := (es.length : Int) + 1) (by omega)
  have e2 := w64 (n := 2 + ((es.length : Int) + 1)) (by omega)
  have e3 := w64 (n := 2 + ((es.length : Int) + 1) - 1) (by omega)
  have hlen := hes.len
  apply c_journal_Journal_next
  unfold p_journal_Journal_next
  unfold jCells at *
  simp -implicitDefEqProofs [hlen, e1, e2, e3]
  by_cases h1 : (2 + es.length : Nat) < k.length
  · rw [if_pos h1] at hk
    have hx : 2 + ((es.length : Int) + 1) - 1 = ((2 + es.length : Nat) : Int) := by omega
    have r0 : dRead k w false (2 + ((es.length : Int) + 1) - 1) = ((dPut k w).getD (2 + es.length) [], 0) := by
      unfold dRead; rw [if_neg (by simp), if_neg (by omega), hx, Int.toNat_natCast]
    have l0 := getD_len hpf (i := 2 + es.length) (by omega)
    generalize (dPut k w).getD (2 + es.length) [] = s at *
    obtain ⟨⟨r, name, f⟩, hr⟩ : ∃ z, recGet ts s (es.length + 1) prev = z := ⟨_, rfl⟩
    rw [hr] at hk
    dsimp only at hk
    refine disk_Read_at hR hD hdk (by omega) r0 rfl ?_
    simp -implicitDefEqProofs
    refine joinP_all (fun vs g => vs = [.int .i64 f, .ptr (u.length + 3) 0, .int .i64 name] ∧ g = .adt (bk m ts) :: .adt (dk k w false) :: .cells t_journal_Journal [.ptr 0 0, .ptr 1 0, .int .i64 boot, .int .i64 prev, ev, .bool over] :: (u ++ [.cells t_api_Record r.row])) ?_ ?_
    · have st : ∀ K : AHeap A → Prop, K (.adt (bk m ts) :: .adt (dk k w false) :: .cells t_journal_Journal [.ptr 0 0, .ptr 1 0, .int .i64 boot, .int .i64 prev, ev, .bool over] :: (u ++ [.cells t_api_Record r.row])) → stP 11 (.ptr (u.length + 1 + 1 + 1) 0) (.agg r.row) (.adt (bk m ts) :: .adt (dk k w false) :: .cells t_journal_Journal [.ptr 0 0, .ptr 1 0, .int .i64 boot, .int .i64 prev, ev, .bool over] :: (u ++ [.cells t_api_Record (reps 11 (.int .i64 0))])) K := fun K hK =>
        st_last (base := .adt (bk m ts) :: .adt (dk k w false) :: .cells t_journal_Journal [.ptr 0 0, .ptr 1 0, .int .i64 boot, .int .i64 prev, ev, .bool over] :: u) rfl rfl rfl hK
      constructor
      · refine RGet_at hR hB (by omega) hr rfl ?_
        simp -implicitDefEqProofs
        exact st _ rfl
      · refine RGet_at hR hB (by omega) hr rfl ?_
        simp -implicitDefEqProofs
        exact st _ rfl
    · rintro _ _ ⟨rfl, rfl⟩
      refine ⟨by simp, ?_⟩
      by_cases hf : f = 0
      · rw [if_pos hf] at hk
        subst hf
        simp -implicitDefEqProofs [Rec.row, Ev.row]
        refine app_evs (l := [r.ev]) (a := .sl (u.length + 1 + 1 + 1 + 1) 0 1 1 true) (hes.app _) ?_ (by simp; omega) fun x' e' h' hev hsame hl' he' => ?_
        · have hat : ∀ x y : AObj A, ((.adt (bk m ts) :: .adt (dk k w false) :: .cells t_journal_Journal [.ptr 0 0, .ptr 1 0, .int .i64 boot, .int .i64 prev, ev, .bool over] :: u) ++ [x, y] : AHeap A)[u.length + 1 + 1 + 1 + 1]? = some y := fun x y => by
            rw [List.getElem?_append_right (by simp)]
            simp
          simp only [srcOf, cellsAt, hat, Option.bind_some, AObj.read]
          rfl
        · have ne : ∀ k, k < 3 → es = [] ∨ k ≠ e := fun k hk3 => by
            by_cases h0 : es = []
            · exact .inl h0
            · have := he3 h0; exact .inr (by omega)
          have q0 : h'[0]? = some (.adt (bk m ts)) := hsame 0 (ne 0 (by omega)) (by simp)
          have q1 : h'[1]? = some (.adt (dk k w false)) := hsame 1 (ne 1 (by omega)) (by simp)
          have q2 := hsame 2 (ne 2 (by omega)) (by simp)
          replace q2 : h'[2]? = some (.cells t_journal_Journal [.ptr 0 0, .ptr 1 0, .int .i64 boot, .int .i64 prev, ev, .bool over]) := q2
          obtain ⟨h'', rfl⟩ := three q0 q1 q2
          have hge : 3 ≤ e' := by
            rcases he' with ⟨h0, rfl⟩ | h0
            · exact he3 h0
            · simp at h0; omega
          simp at hl'
          rw [st_ev hev]
          simp -implicitDefEqProofs
          refine hk x' e' h'' (hev.move fun _ => ?_) hge (by omega)
          obtain ⟨j, rfl⟩ : ∃ j, e' = j + 3 := ⟨e' - 3, by omega⟩
          rfl
      · rw [if_neg hf] at hk
        have hf' : (f != 0) = true := by simpa using hf
        simp -implicitDefEqProofs [hf', e1, mkiP, AVal.cs]
        exact hk _ _
  · rw [if_neg h1] at hk
    have r0 : dRead k w false (2 + ((es.length : Int) + 1) - 1) = ([], 800) := by
      unfold dRead; rw [if_neg (by simp), if_pos (by omega)]
    refine disk_Read_at hR hD hdk (by omega) r0 rfl ?_
    simp -implicitDefEqProofs
    exact hk _ _
end
end Go.AI

/- Journals: Open. -/
set_option linter.all false
namespace Go.AI
variable {A : Type} {R : Adts A}
theorem take_eq {h base : AHeap A} (hl : ∀ k, k < base.length → h[k]? = base[k]?) : h.take base.length = base := by
  apply List.ext_getElem?
  intro k
  rw [List.getElem?_take]
  by_cases hk : k < base.length
  · rw [if_pos hk]; exact hl k hk
  · rw [if_neg hk, List.getElem?_eq_none (by omega)]
def jEvs (es : List Ev) : AHeap A := if es = [] then [] else [.cells t_api_Event (es.flatMap Ev.row)]
def jEv (es : List Ev) : AVal := if es = [] then .nils else .sl 3 0 es.length es.length false
/-- The journal's parts, told anew. -/
theorem jrn_canon (hR : R.Ok) {a b : AObj A} {boot prev : Int} {x : AVal} {over : Bool} {es : List Ev} {e n : Nat} {u : AHeap A} {vs : List AVal} {K : List AVal → AHeap A → Prop} (he : EvAt x es e (a :: b :: jCells 0 1 boot prev x over :: u)) (he3 : es ≠ [] → 3 ≤ e) (ha : a.closed R) (hb : b.closed R) (hn : n ≤ 3)
    (hv : ixs 0 vs = true) (hk : K vs (a :: b :: jCells 0 1 boot prev (jEv es) over :: jEvs es)) : Gives Pr R n (a :: b :: jCells 0 1 boot prev x over :: u) vs K := by
  have hv3 : ∀ τ, rens τ vs = vs := fun τ => rens_ix0 τ vs hv
  rcases he with ⟨rfl, rfl⟩ | ⟨h0, rfl, h1⟩
  · simp only [jEv, jEvs, if_true] at hk
    refine Gives.cut hR (m := 3) hn (by simp) (ixs_mono (Nat.zero_le 3) vs hv) ?_ hk
    simp only [List.take, List.mem_cons, List.not_mem_nil, or_false]
    rintro o (rfl | rfl | rfl)
    · exact ⟨ha.1 _, fun τ _ => ha.2 τ⟩
    · exact ⟨hb.1 _, fun τ _ => hb.2 τ⟩
    · exact low_cells (by simp [ixs, AVal.ix])
  · have he3 := he3 h0
    simp only [jEv, jEvs, if_neg h0] at hk
    refine Gives.keep hR [0, 1, 2, e] (h2 := a :: b :: jCells 0 1 boot prev (.sl 3 0 es.length es.length false) over :: [.cells t_api_Event (es.flatMap Ev.row)]) (vs2 := vs) ⟨rfl, by simp; omega, fun k o hk => ?_, fun o ho => ?_⟩ (hv3 _).symm (ixs_mono (Nat.zero_le _) vs hv) (fun k hk => ?_) (Gives.done (by simp; omega) hk)
    · match k, hk with
      | 0, hk => simp at hk; subst hk; exact ⟨0, rfl, by rw [ha.2]; rfl⟩
      | 1, hk => simp at hk; subst hk; exact ⟨1, rfl, by rw [hb.2]; rfl⟩
      | 2, hk => simp at hk; subst hk; exact ⟨2, rfl, by simp [jCells, AObj.ren, rens, AVal.ren, at_]⟩
      | 3, hk => simp at hk; subst hk; exact ⟨e, rfl, by rw [h1]; simp only [AObj.ren]; rw [rens_ix0 _ _ (evs_ix 0 es)]⟩
      | k + 4, hk => simp at hk
    · simp only [List.mem_cons, List.not_mem_nil, or_false] at ho
      rcases ho with rfl | rfl | rfl | rfl
      · exact ha.1 _
      · exact hb.1 _
      · show ixs _ _ = true; simp [ixs, AVal.ix]
      · show ixs _ _ = true; exact evs_ix _ _
    · match k, hk with
      | 0, _ => rfl
      | 1, _ => rfl
      | 2, _ => rfl
      | k + 3, hk => omega
/-- The journal's parts, told as one. -/
theorem jrn_shut (hR : R.Ok) {jm : Nat → Nat → JS → A} (hJ : HasJrn R jm) {a b : AObj A} {J : JS} {x : AVal} {e n : Nat} {t r : AHeap A} {vs : List AVal} {K : List AVal → AHeap A → Prop} (he : EvAt x J.es e (a :: b :: jCells 0 1 J.boot J.prev x J.over :: (t ++ r))) (he3 : J.es ≠ [] → 3 + t.length ≤ e) (ha : a.closed R) (hb : b.closed R) (ht : ∀ o ∈ t, o.closed R)
    (hn : n ≤ 3 + t.length) (hv : ixs (3 + t.length) vs = true) (hk : K vs (a :: b :: .adt (jm 0 1 J) :: t)) : Gives Pr R n (a :: b :: jCells 0 1 J.boot J.prev x J.over :: (t ++ r)) vs K := by
  have key : ∀ js : List Nat, (∀ j ∈ js, 3 + t.length ≤ j) → Gives Pr R n ((kills (a :: b :: jCells 0 1 J.boot J.prev x J.over :: (t ++ r)) js).set 2 (.adt (jm 0 1 J))) vs K := by
    intro js hjs
    have e1 : ((kills (a :: b :: jCells 0 1 J.boot J.prev x J.over :: (t ++ r)) js).set 2 (.adt (jm 0 1 J))).take (3 + t.length) = a :: b :: .adt (jm 0 1 J) :: t := by
      have : (a :: b :: .adt (jm 0 1 J) :: t : AHeap A).length = 3 + t.length := by simp; omega
      rw [← this]
      refine take_eq fun k hk => ?_
      have hk2 : k < 3 + t.length := by rw [← this]; exact hk
      have hnj : k ∉ js := fun h => by have := hjs k h; omega
      by_cases h2 : k = 2
      · subst h2
        rw [List.getElem?_set_self (by rw [kills_length]; simp)]
        rfl
      · rw [List.getElem?_set_ne (Ne.symm h2), kills_get _ _ _ (by simp; omega), if_neg hnj]
        match k, h2, hk2 with
        | 0, _, _ => rfl
        | 1, _, _ => rfl
        | k + 3, _, hk2 =>
          simp only [List.getElem?_cons_succ]
          rw [List.getElem?_append_left (by omega)]
    refine Gives.cut hR (m := 3 + t.length) hn (by simp [kills_length]; omega) hv ?_ (by rw [e1]; exact hk)
    rw [e1]
    simp only [List.mem_cons]
    rintro o (rfl | rfl | rfl | ho)
    · exact ⟨ha.1 _, fun τ _ => ha.2 τ⟩
    · exact ⟨hb.1 _, fun τ _ => hb.2 τ⟩
    · exact ⟨jrn_ix hJ _ (by omega) (by omega), fun τ hτ => by rw [jrn_ren hJ, hτ 0 (by omega), hτ 1 (by omega)]⟩
    · exact ⟨(ht o ho).1 _, fun τ _ => (ht o ho).2 τ⟩
  rcases he with ⟨h0, rfl⟩ | ⟨h0, rfl, h1⟩
  · refine Gives.shut 2 [] (jm 0 1 J) (jG 0 1 J) ((hJ.lay _ _ _ _).2 rfl) ?_ ?_ ?_ (by simp) ?_ ?_ (key [] (by simp))
    · simp [jG, h0, jCells, GC.on]
    · simp [jG, h0]
    · intro i s hs; simp [jG, h0] at hs
    · simp [jG, h0]
    · simp [jG, h0]
  · have he3 := he3 h0
    refine Gives.shut 2 [e] (jm 0 1 J) (jG 0 1 J) ((hJ.lay _ _ _ _).2 rfl) ?_ ?_ ?_ (by simp; omega) ?_ ?_ (key [e] (by simpa using he3))
    · simp [jG, h0, jCells, GC.on]
    · simp [jG, h0]
    · intro i s hs
      match i, hs with
      | 0, hs => simp [jG, h0] at hs; subst hs; exact ⟨by simpa using h1, rfl⟩
      | i + 1, hs => simp [jG, h0] at hs
    · intro i o len cap ex hm
      simp [jG, h0] at hm ⊢
      omega
    · simp [jG, h0]
end Go.AI

/- Journals: Open. -/
set_option linter.all false
namespace Go.AI
variable {A : Type} {R : Adts A}
section
variable {bk : Int → List Bs → A} {dk : List Bs → Ws → Bool → A} {jm : Nat → Nat → JS → A}
theorem book_cl (hB : HasBook R bk) (m : Int) (ts : List Bs) : AObj.closed R (.adt (bk m ts) : AObj A) := ⟨fun n => book_ix hB m ts n, fun τ => book_ren hB m ts τ⟩
theorem disk_cl (hD : HasDisk R dk) (k : List Bs) (w : Ws) (d : Bool) : AObj.closed R (.adt (dk k w d) : AObj A) := ⟨fun n => disk_ix hD k w d n, fun τ => disk_ren hD k w d τ⟩
def OpI (bk : Int → List Bs → A) (dk : List Bs → Ws → Bool → A) (m : Int) (t : List Bs) (k : List Bs) (boot : Int) (fin : Int × List Ev) (n : Nat) (y : List AVal) (g : AHeap A) : Prop :=
  ∃ (p : Int) (es : List Ev), y = [] ∧ g = .adt (bk m t) :: .adt (dk k [] false) :: jCells 0 1 boot p (jEv es) false :: jEvs es ∧ jLoad t k n p es = fin ∧ es.length + n = k.length
theorem jEv_at (es : List Ev) (a b c : AObj A) : EvAt (jEv es) es 3 (a :: b :: c :: jEvs es) := by
  unfold jEv jEvs
  by_cases h : es = []
  · rw [if_pos h]; exact .inl ⟨h, rfl⟩
  · rw [if_neg h, if_neg h]; exact .inr ⟨h, rfl, rfl⟩
theorem Open_can (hR : R.Ok) (hB : HasBook R bk) (hD : HasDisk R dk) (hJ : HasJrn R jm) {m : Int} {ts t k k' : List Bs} {w w' : Ws} {dn : Bool} {res : Int ⊕ JS} (hok : bOk m ts) (hdk : dOk k w) (hw : w.length ≤ 900) (he : jOpen m ts k w dn = (t, k', w', res)) {K : AVal → AHeap A → Prop}
    (hk : match res with
      | .inl e => K (.tup [.nilp, .int .i64 e]) [.adt (bk m t), .adt (dk k' w' dn)]
      | .inr J => K (.tup [.ptr 2 0, .int .i64 0]) [.adt (bk m t), .adt (dk k' w' dn), .adt (jm 0 1 J)]) : Tri Pr R n_journal_Open [.ptr 0 0, .ptr 1 0] [.adt (bk m ts), .adt (dk k w dn)] K := by
  refine Tri.post ?_
  apply c_journal_Open
  unfold p_journal_Open
  simp -implicitDefEqProofs
  refine disk_Down_ok hR hD rfl ?_
  unfold jOpen at he
  by_cases hdn : dn = true
  · rw [if_pos hdn] at he
    subst hdn
    simp only [Prod.mk.injEq] at he
    obtain ⟨rfl, rfl, rfl, rfl⟩ := he
    simp -implicitDefEqProofs
    exact Gives.done (by simp) ⟨_, rfl, hk⟩
  have hdn' : dn = false := by simpa using hdn
  subst hdn'
  rw [if_neg hdn] at he
  simp -implicitDefEqProofs
  refine disk_Size_ok hR hD rfl ?_
  by_cases hsz : (k.length : Int) ≤ 2
  · rw [if_pos hsz] at he
    simp only [Prod.mk.injEq] at he
    obtain ⟨rfl, rfl, rfl, rfl⟩ := he
    have hsz' : k.length ≤ 2 := by omega
    simp -implicitDefEqProofs [hsz, hsz']
    exact Gives.done (by simp) ⟨_, rfl, hk⟩
  rw [if_neg hsz] at he
  have hsz' : ¬ k.length ≤ 2 := by omega
  obtain ⟨⟨boot, at_, e0⟩, he1⟩ : ∃ z, sPick ts ((dPut k w).getD 0 []) ((dPut k w).getD 1 []) = z := ⟨_, rfl⟩
  rw [he1] at he
  dsimp only at he
  obtain ⟨⟨t1, s, f⟩, he2⟩ : ∃ z, sPut m ts (boot + 1) = z := ⟨_, rfl⟩
  rw [he2] at he
  dsimp only at he
  simp -implicitDefEqProofs [hsz, hsz']
  refine began_ok hR hB hD hok hdk hw (by omega) he1 he2 (ev := .nils) (over := false) (b0 := 0) (prev := 0) (fun hf => ?_) (fun hf => ?_)
  · rw [if_neg hf] at he
    simp only [Prod.mk.injEq] at he
    obtain ⟨rfl, rfl, rfl, rfl⟩ := he
    simp -implicitDefEqProofs [mkiP, AVal.cs]
    refine Is_journal_place_ok 1101 1101 (t := t_journal_place) (cs := [.int .i64 0, .iface t_api_Errno (.int .i64 1101)]) rfl rfl ?_
    simp -implicitDefEqProofs
    refine Gives.cut hR (m := 2) (by simp) (by simp) (by simp [ixs, AVal.ix]) ?_ ⟨_, rfl, hk⟩
    simp only [List.take, List.mem_cons, List.not_mem_nil, or_false]
    rintro o (rfl | rfl)
    · exact ⟨book_ix hB _ _ _, fun τ _ => book_ren hB _ _ _⟩
    · exact ⟨disk_ix hD _ _ _ _, fun τ _ => disk_ren hD _ _ _ _⟩
  · subst hf
    rw [if_pos rfl] at he
    obtain ⟨p1, p2, p3, p4⟩ := sPick_may ts ((dPut k w).getD 0 []) ((dPut k w).getD 1 [])
    rw [he1] at p1 p2 p3 p4
    dsimp only at p1 p2 p3 p4
    have sl := sPut_sec he2
    have ok2 : dOk k (w ++ [(at_, s)]) := dOk_write hdk (by omega)
    have ek : dPut k (w ++ [(at_, s)]) = (dPut k w).set at_.toNat s := dPut_snoc k w (at_, s)
    have ok3 := dOk_put ok2
    rw [ek] at ok3 ⊢
    have hkl : ((dPut k w).set at_.toNat s).length = k.length := by rw [List.length_set, dPut_len]
    generalize (dPut k w).set at_.toNat s = k2 at *
    obtain ⟨⟨p, es⟩, hl⟩ : ∃ z, jLoad t1 k2 k.length 0 [] = z := ⟨_, rfl⟩
    rw [hl] at he
    simp only [Prod.mk.injEq] at he
    obtain ⟨rfl, rfl, rfl, rfl⟩ := he
    have hsz3 := ok3.size
    dsimp only at hk
    simp -implicitDefEqProofs [mkiP, AVal.cs]
    refine Is_nil_ok 1101 ?_
    simp -implicitDefEqProofs
    refine loopP_go (OpI bk dk m t1 k2 (boot + 1) (p, es)) k.length (Gives.done (by simp) ⟨0, [], rfl, rfl, hl, by simp [hkl]⟩) ?_
    rintro n y g ⟨q, fs, rfl, rfl, hld, hfn⟩
    have hat := jEv_at fs (.adt (bk m t1)) (.adt (dk k2 [] false)) (jCells 0 1 (boot + 1) q (jEv fs) false : AObj A)
    have stop : (p, es) = (q, fs) → ∀ r : AHeap A, Gives Pr R 2 (.adt (bk m t1) :: .adt (dk k2 [] false) :: jCells 0 1 (boot + 1) q (jEv fs) false :: (jEvs fs ++ r)) [.tup [.ptr 2 0, .int .i64 0]] fun vs h2 => ∃ v, vs = [v] ∧ K v h2 := by
      intro hpq r
      obtain ⟨rfl, rfl⟩ := Prod.mk.inj hpq
      refine jrn_shut hR hJ (J := ⟨boot + 1, p, es, false⟩) (t := []) (e := 3) ((hat.app r)) (by simp) (book_cl hB _ _) (disk_cl hD _ _ _) (by simp) (by simp) (by simp [ixs, AVal.ix]) ⟨_, rfl, hk⟩
    refine next_ok hR hB hD (u := jEvs fs) (e := 3) ok3 (by simp) hat (by omega) (by omega) ?_
    have hput : dPut k2 [] = k2 := rfl
    rw [hput]
    by_cases h1 : (2 + fs.length : Nat) < k2.length
    · rw [if_pos h1]
      obtain ⟨n', rfl⟩ : ∃ n', n = n' + 1 := ⟨n - 1, by omega⟩
      unfold jLoad at hld
      rw [if_pos h1] at hld
      obtain ⟨⟨r, name, f⟩, hr⟩ : ∃ z, recGet t1 (k2.getD (2 + fs.length) []) (fs.length + 1) q = z := ⟨_, rfl⟩
      rw [hr] at hld ⊢
      dsimp only at hld ⊢
      by_cases hf : f = 0
      · rw [if_pos hf] at hld ⊢
        intro x' e' h' hev hge hlu
        simp -implicitDefEqProofs
        refine jrn_canon hR hev (fun _ => hge) (book_cl hB _ _) (disk_cl hD _ _ _) (by simp) rfl ⟨n', by omega, name, fs ++ [r.ev], rfl, rfl, hld, by simp; omega⟩
      · rw [if_neg hf] at hld ⊢
        intro x r2
        simp -implicitDefEqProofs
        exact stop hld.symm r2
    · rw [if_neg h1]
      have hpq : (p, es) = (q, fs) := by
        cases n with
        | zero => exact hld.symm
        | succ n => unfold jLoad at hld; rw [if_neg h1] at hld; exact hld.symm
      intro x r2
      simp -implicitDefEqProofs
      exact stop hpq r2
end
end Go.AI

/- Journals: what waits. -/
set_option linter.all false
namespace Go.AI
variable {A : Type} {R : Adts A}
section
variable {bk : Int → List Bs → A} {dk : List Bs → Ws → Bool → A}
theorem jWs_take (q : Int) (ss : List Bs) {i : Nat} {s : Bs} (h : ss[i]? = some s) : jWs q (ss.take (i + 1)) = jWs q (ss.take i) ++ [(q + i, s)] := by
  have hi := (List.getElem?_eq_some_iff.1 h).1
  have : ss.take (i + 1) = ss.take i ++ [s] := by
    rw [List.take_add_one, h]; rfl
  rw [this, jWs_snoc]
  simp only [List.length_take, Nat.min_eq_left (Nat.le_of_lt hi)]
def WrX (N : Nat) (ss : List Bs) : AVal := if ss = [] then .nils else .sl N 0 ss.length ss.length false
def WrS (ss : List Bs) : AHeap A := if ss = [] then [] else [.cells t_string (ss.map .str)]
theorem room_16k {n : Nat} (h : n ≤ 1000) : (2 * n + 1000) * 16 ≤ 140737488355328 := by omega
theorem app_str0 {base : AHeap A} {ss : List Bs} {s : Bs} {g1 : AObj A} (hn : ss.length ≤ 900) {K : AVal → AHeap A → Prop}
    (hk : ∀ mid : AHeap A, K (.sl (base.length + mid.length) 0 (ss.length + 1) (ss.length + 1) false) (base ++ (mid ++ [.cells t_string ((ss ++ [s]).map .str)]))) :
    appP t_string 1 16 (WrX base.length ss) (.sl (base.length + (WrS ss : AHeap A).length + 1) 0 1 1 true) (base ++ (WrS ss ++ [g1, .cells t_string [.str s]])) K := by
  have hat : (base ++ (WrS ss ++ [g1, .cells t_string [.str s]]) : AHeap A)[base.length + (WrS ss : AHeap A).length + 1]? = some (.cells t_string [.str s]) := by
    rw [List.getElem?_append_right (by omega), List.getElem?_append_right (by omega)]
    have : base.length + (WrS ss : AHeap A).length + 1 - base.length - (WrS ss : AHeap A).length = 1 := by omega
    rw [this]; rfl
  have hsrc : srcOf 1 (base ++ (WrS ss ++ [g1, .cells t_string [.str s]]) : AHeap A) (.sl (base.length + (WrS ss : AHeap A).length + 1) 0 1 1 true) = some (1, [.str s]) := by
    simp only [srcOf, cellsAt, hat, Option.bind_some, AObj.read]
    rfl
  unfold appP appV
  rw [hsrc]
  dsimp only
  by_cases h0 : ss = []
  · subst h0
    simp only [WrX, WrS, if_true, List.nil_append]
    rw [if_neg (by omega), if_pos (by omega)]
    simp only [optH]
    have := hk [g1, .cells t_string [.str s]]
    simpa using this
  · have hr := room_16k (n := ss.length + 1) (by omega)
    have hat2 : (base ++ (WrS ss ++ [g1, .cells t_string [.str s]]) : AHeap A)[base.length]? = some (.cells t_string (ss.map .str)) := by
      rw [List.getElem?_append_right (by omega)]
      simp [WrS, h0]
    have hX : WrX base.length ss = .sl base.length 0 ss.length ss.length false := by simp [WrX, h0]
    rw [hX]
    dsimp only
    rw [if_neg (by omega), hat2]
    dsimp only
    rw [if_pos ⟨by omega, by simp, .inr hr⟩, if_neg (by simp), if_pos ⟨rfl, by simp, rfl⟩]
    simp only [optH]
    have t1 : ((ss.map AVal.str).drop 0).take (ss.length * 1) ++ [.str s] = (ss ++ [s]).map .str := by simp [List.take_of_length_le]
    rw [t1]
    have e1 : (base ++ (WrS ss ++ [g1, .cells t_string [.str s]]) : AHeap A).set base.length .dead = base ++ ([.dead, g1, .cells t_string [.str s]] : AHeap A) := by
      simp [WrS, h0]
    rw [e1]
    have := hk [.dead, g1, .cells t_string [.str s]]
    simpa [WrS, h0] using this
theorem app_str {base h : AHeap A} {ss : List Bs} {s : Bs} {g1 : AObj A} {j : Nat} {x : AVal} (hn : ss.length ≤ 900) (hx : x = WrX base.length ss) (hh : h = base ++ (WrS ss ++ [g1, .cells t_string [.str s]])) (hj : j = base.length + (WrS ss : AHeap A).length + 1) {K : AVal → AHeap A → Prop}
    (hk : ∀ mid : AHeap A, K (.sl (base.length + mid.length) 0 (ss.length + 1) (ss.length + 1) false) (base ++ (mid ++ [.cells t_string ((ss ++ [s]).map .str)]))) : appP t_string 1 16 x (.sl j 0 1 1 true) h K := by
  subst hx hh hj
  exact app_str0 hn hk
theorem up_at {u r : AHeap A} {a b c : AObj A} (k : Nat) (o : AObj A) (h : u[k]? = some o) : (a :: b :: c :: (u ++ r) : AHeap A)[3 + k]? = some o := by
  have hk := (List.getElem?_eq_some_iff.1 h).1
  rw [Nat.add_comm]
  simp only [List.getElem?_cons_succ]
  rw [List.getElem?_append_left hk]; exact h
def jApp (ss : List Bs) (z : List Bs × List Bs × Int × Bool) : List Bs × List Bs × Int × Bool := if z.2.2.2 = true then (z.1, ss ++ z.2.1, z.2.2.1, true) else (z.1, [], 0, false)
theorem jApp_app (a b : List Bs) (z : List Bs × List Bs × Int × Bool) : jApp a (jApp b z) = jApp (a ++ b) z := by
  obtain ⟨t, s, p, ok⟩ := z
  cases ok <;> simp [jApp]
theorem jApp_bad (ss : List Bs) (t : List Bs) : jApp ss (t, [], 0, false) = (t, [], 0, false) := rfl
theorem jApp_end (ss t : List Bs) {m boot q p : Int} : jApp ss (jRecs m boot t q p []) = (t, ss, p, true) := by
  unfold jRecs jApp
  simp
theorem jRecs_cons {m boot : Int} {ts t : List Bs} {q p n f : Int} {e : Ev} {s : Bs} {r : List Ev} (he : recPut m ts ⟨q + 1, boot, p, e⟩ = (t, s, n, f)) : jRecs m boot ts q p (e :: r) = if f = 0 then jApp [s] (jRecs m boot t (q + 1) n r) else (t, [], 0, false) := by
  have : jRecs m boot ts q p (e :: r) = (match recPut m ts ⟨q + 1, boot, p, e⟩ with
    | (t, s, n, f) => if f = 0 then (match jRecs m boot t (q + 1) n r with | (t2, ss, p2, ok) => if ok = true then (t2, s :: ss, p2, true) else (t2, [], 0, false)) else (t, [], 0, false)) := rfl
  rw [this, he]
  rfl
theorem jApp_recs {m boot : Int} {ts : List Bs} {q p : Int} (l : List Ev) : jApp [] (jRecs m boot ts q p l) = jRecs m boot ts q p l := by
  cases l with
  | nil => rfl
  | cons e r =>
    obtain ⟨⟨t, s, n, f⟩, he⟩ : ∃ z, recPut m ts ⟨q + 1, boot, p, e⟩ = z := ⟨_, rfl⟩
    rw [jRecs_cons he]
    by_cases hf : f = 0
    · rw [if_pos hf, jApp_app]; rfl
    · rw [if_neg hf]; rfl
def WrI (bk : Int → List Bs → A) (B C : AObj A) (u : AHeap A) (m boot n prev : Int) (ts : List Bs) (l : List Ev) (mm : Nat) (y : List AVal) (g : AHeap A) : Prop :=
  ∃ (i : Nat) (ti : List Bs) (p : Int) (ss : List Bs), y = [WrX (3 + u.length) ss, .int .i64 p, .int .i64 i] ∧ g = .adt (bk m ti) :: B :: C :: (u ++ WrS ss) ∧ bOk m ti ∧ ss.length = i ∧ i ≤ l.length ∧ mm = l.length - i ∧
    jRecs m boot ts n prev l = jApp ss (jRecs m boot ti (n + i) p (l.drop i))
def WdI (dk : List Bs → Ws → Bool → A) (A0 C : AObj A) (u : AHeap A) (k : List Bs) (w : Ws) (q : Int) (ss : List Bs) (mm : Nat) (y : List AVal) (g : AHeap A) : Prop :=
  ∃ i : Nat, y = [.int .i64 i] ∧ g = A0 :: .adt (dk k (w ++ jWs q (ss.take i)) false) :: C :: (u ++ WrS ss) ∧ dOk k (w ++ jWs q (ss.take i)) ∧ i ≤ ss.length ∧ mm = ss.length - i
theorem written_core (hR : R.Ok) (hB : HasBook R bk) (hD : HasDisk R dk) {m : Int} {ts t : List Bs} {k : List Bs} {w : Ws} {dn : Bool} {J : JS} {ev a : AVal} {l : List Ev} {u : AHeap A} {ss : List Bs} {p e : Int} (hok : bOk m ts) (hdk : dOk k w) (hw : w.length ≤ 600)
    (hev : ∀ K : AVal → Prop, lenP ev K = K (.int .i64 J.es.length)) (hn : J.es.length ≤ 300) (hevx : ev.ix (3 + u.length) = true) (ha : EvArg a l 3 u) (hl : l.length < 1000000000) (hu : ∀ o ∈ u, o.low R (3 + u.length))
    (he : jPut m ts J k.length dn l = (t, ss, p, e)) {K : AVal → AHeap A → Prop}
    (hk : ∀ r : AHeap A, K (.tup [.int .i64 p, .int .i64 e]) (.adt (bk m t) :: .adt (dk k (w ++ jWs (2 + J.es.length) ss) dn) :: jCells 0 1 J.boot J.prev ev J.over :: (u ++ r))) :
    Tri Pr R n_journal_Journal_written [.ptr 2 0, a] (.adt (bk m ts) :: .adt (dk k w dn) :: jCells 0 1 J.boot J.prev ev J.over :: u) K := by
  have hd := hdk.size
  obtain ⟨boot, prev, es, over⟩ := J
  dsimp only at *
  have hu0 : ∀ (a b c : AObj A) (k : Nat) (o : AObj A), u[k]? = some o → (a :: b :: c :: u : AHeap A)[3 + k]? = some o := fun a b c k o h => by
    have := up_at (r := []) (a := a) (b := b) (c := c) k o h
    simpa using this
  apply c_journal_Journal_written
  unfold p_journal_Journal_written
  unfold jPut at he
  dsimp only at he
  unfold jCells at *
  cases over with
  | true =>
    rw [if_pos (.inl rfl)] at he
    simp only [Prod.mk.injEq] at he
    obtain ⟨rfl, rfl, rfl, rfl⟩ := he
    simp -implicitDefEqProofs
    have := hk []
    simpa [jWs] using this
  | false =>
  simp -implicitDefEqProofs
  refine disk_Down_ok hR hD rfl ?_
  cases dn with
  | true =>
    rw [if_pos (.inr rfl)] at he
    simp only [Prod.mk.injEq] at he
    obtain ⟨rfl, rfl, rfl, rfl⟩ := he
    simp -implicitDefEqProofs
    have := hk []
    simpa [jWs] using this
  | false =>
  rw [if_neg (by simp)] at he
  simp -implicitDefEqProofs
  refine ContainsFunc_ok hR ha (hu0 _ _ _) hl ?_
  cases hm : l.all evMay with
  | false =>
    rw [hm, if_neg (by simp)] at he
    simp only [Prod.mk.injEq] at he
    obtain ⟨rfl, rfl, rfl, rfl⟩ := he
    simp -implicitDefEqProofs
    have := hk []
    simpa [jWs] using this
  | true =>
  rw [hm, if_pos rfl] at he
  simp -implicitDefEqProofs [ha.len]
  refine Room_raw hR hD (n := es.length) (j := 2) (b := 0) (d := 1) (k := k) (w := w) (dn := false) rfl rfl hev (by omega) (by omega) ?_
  by_cases hrm : (k.length : Int) - 2 - es.length < l.length
  · rw [if_pos hrm] at he
    simp only [Prod.mk.injEq] at he
    obtain ⟨rfl, rfl, rfl, rfl⟩ := he
    simp -implicitDefEqProofs [hrm]
    have := hk []
    simpa [jWs] using this
  rw [if_neg hrm] at he
  simp -implicitDefEqProofs [hrm, ha.len]
  have hcl : ∀ (ts : List Bs) (w : Ws), ∀ o ∈ (.adt (bk m ts) :: .adt (dk k w false) :: .cells t_journal_Journal [.ptr 0 0, .ptr 1 0, .int .i64 boot, .int .i64 prev, ev, .bool false] :: u : AHeap A), o.low R (3 + u.length) := by
    intro ts w o ho
    simp only [List.mem_cons] at ho
    rcases ho with rfl | rfl | rfl | ho
    · exact ⟨book_ix hB _ _ _, fun τ _ => book_ren hB _ _ _⟩
    · exact ⟨disk_ix hD _ _ _ _, fun τ _ => disk_ren hD _ _ _ _⟩
    · exact low_cells (by simp [ixs, AVal.ix, hevx]; omega)
    · exact hu o ho
  refine loopP_go (WrI bk (.adt (dk k w false)) (.cells t_journal_Journal [.ptr 0 0, .ptr 1 0, .int .i64 boot, .int .i64 prev, ev, .bool false]) u m boot es.length prev ts l) l.length (Gives.done (by simp) ⟨0, ts, prev, [], by simp [WrX], by simp [WrS], hok, rfl, by omega, rfl, ?_⟩) ?_
  · simp only [List.drop_zero, Int.natCast_zero, Int.add_zero]
    rw [jApp_recs]
  rintro mm y g ⟨i, ti, q, ssi, rfl, rfl, hoki, hsl, hil, rfl, htot⟩
  have e1 := w64 (n := (es.length : Int) + i) (by omega)
  have e2 := w64 (n := (es.length : Int) + i + 1) (by omega)
  have e3 := w64 (n := (i : Int) + 1) (by omega)
  by_cases hi : i < l.length
  · have hi' : (i : Int) < (l.length : Int) := by omega
    have hdr : l.drop i = l[i] :: l.drop (i + 1) := by rw [List.drop_eq_getElem_cons hi]
    rw [hdr] at htot
    obtain ⟨⟨t1, s, name, f⟩, hrp⟩ : ∃ z, recPut m ti ⟨es.length + i + 1, boot, q, l[i]⟩ = z := ⟨_, rfl⟩
    rw [jRecs_cons hrp] at htot
    have hok1 := bOk_rput hoki hrp
    obtain ⟨pt, hpt, hlv⟩ := ha.get (.adt (bk m ti) :: .adt (dk k w false) :: .cells t_journal_Journal [.ptr 0 0, .ptr 1 0, .int .i64 boot, .int .i64 prev, ev, .bool false] :: (u ++ WrS ssi)) (fun k o h => up_at k o h) i hi
    obtain ⟨U, hU⟩ : ∃ U, u ++ (WrS ssi : AHeap A) = U := ⟨_, rfl⟩
    rw [hU] at hlv
    rw [hU]
    have hrow : ∀ e : Ev, e.row = [.int .i64 e.kind, .int .i64 e.user, .int .i64 e.session, .int .i64 e.address, .int .i64 e.a, .int .i64 e.b, .int .i64 e.c, .int .i64 e.tick] := fun e => rfl
    generalize l[i] = ei at *
    have st : ∀ K : AHeap A → Prop, K (.adt (bk m ti) :: .adt (dk k w false) :: .cells t_journal_Journal [.ptr 0 0, .ptr 1 0, .int .i64 boot, .int .i64 prev, ev, .bool false] :: (U ++ [.cells t_api_Event ei.row])) → stP 8 (.ptr (U.length + 1 + 1 + 1) 0) (.agg ei.row) (.adt (bk m ti) :: .adt (dk k w false) :: .cells t_journal_Journal [.ptr 0 0, .ptr 1 0, .int .i64 boot, .int .i64 prev, ev, .bool false] :: (U ++ [.cells t_api_Event [.int .i64 0, .int .i64 0, .int .i64 0, .int .i64 0, .int .i64 0, .int .i64 0, .int .i64 0, .int .i64 0]])) K := fun K hK =>
      st_last (base := .adt (bk m ti) :: .adt (dk k w false) :: .cells t_journal_Journal [.ptr 0 0, .ptr 1 0, .int .i64 boot, .int .i64 prev, ev, .bool false] :: U) rfl rfl rfl hK
    simp -implicitDefEqProofs [hi, hi', hpt, hlv]
    refine st _ ?_
    simp -implicitDefEqProofs [Ev.row, hev, e1, e2]
    refine RPut_at (r := ⟨es.length + i + 1, boot, q, ei⟩) hR hB hoki hrp rfl ?_
    by_cases hf : f = 0
    · subst hf
      rw [if_pos rfl, jApp_app] at htot
      simp -implicitDefEqProofs [e3]
      refine app_str (base := .adt (bk m t1) :: .adt (dk k w false) :: .cells t_journal_Journal [.ptr 0 0, .ptr 1 0, .int .i64 boot, .int .i64 prev, ev, .bool false] :: u) (g1 := .cells t_api_Event ei.row) (s := s) (ss := ssi) (by omega) (by simp; congr 1; omega) (by rw [← hU]; simp [Ev.row]) (by rw [← hU]; simp; omega) fun mid => ?_
      have hln : (.adt (bk m t1) :: .adt (dk k w false) :: .cells t_journal_Journal [.ptr 0 0, .ptr 1 0, .int .i64 boot, .int .i64 prev, ev, .bool false] :: u : AHeap A).length = 3 + u.length := by simp; omega
      refine Gives.pick hR (.adt (bk m t1) :: .adt (dk k w false) :: .cells t_journal_Journal [.ptr 0 0, .ptr 1 0, .int .i64 boot, .int .i64 prev, ev, .bool false] :: u) mid (.cells t_string ((ssi ++ [s]).map .str)) _ [.sl (3 + u.length) 0 (ssi.length + 1) (ssi.length + 1) false, .int .i64 name, .int .i64 (i + 1)] rfl (by simp) (by rw [hln]; exact hcl t1 w) ?_ ?_ ?_ ?_
      · exact ⟨by show ixs _ _ = true; simp [ixs_all, AVal.ix], fun τ => by simp only [AObj.ren]; rw [strs_ren]⟩
      · rw [hln]; simp [rens, AVal.ren]
      · rw [hln]; simp [ixs, AVal.ix]
      · refine ⟨l.length - (i + 1), by omega, i + 1, t1, name, ssi ++ [s], by simp [WrX], by simp [WrS], hok1, by simp [hsl], by omega, rfl, ?_⟩
        rw [htot]
        have : (es.length : Int) + (i : Int) + 1 = (es.length : Int) + ((i + 1 : Nat) : Int) := by omega
        rw [this]
    · rw [if_neg hf] at htot
      have hf' : (f != 0) = true := by simpa using hf
      have hz : jRecs m boot ts es.length prev l = (t1, [], 0, false) := by rw [htot, jApp_bad]
      rw [hz] at he
      simp only [Bool.false_eq_true, if_false, Prod.mk.injEq] at he
      obtain ⟨rfl, rfl, rfl, rfl⟩ := he
      simp -implicitDefEqProofs [hf']
      rw [← hU]
      have := hk (WrS ssi ++ [.cells t_api_Event ei.row])
      simpa [jWs, Ev.row] using this
  · have hi' : ¬ (i : Int) < (l.length : Int) := by omega
    obtain rfl : i = l.length := by omega
    have hz : jRecs m boot ts es.length prev l = (ti, ssi, q, true) := by
      rw [htot, List.drop_length, jApp_end]
    rw [hz] at he
    simp only [if_true, Prod.mk.injEq] at he
    obtain ⟨rfl, rfl, rfl, rfl⟩ := he
    have h64 := (jRecs_len l hz).2
    have hlX : ∀ K : AVal → Prop, lenP (WrX (3 + u.length) ssi) K = K (.int .i64 ssi.length) := by
      intro K
      unfold WrX
      by_cases h : ssi = []
      · subst h; simp
      · rw [if_neg h]; simp
    have hiX : ∀ j : Nat, j < ssi.length → ∀ K : AVal → Prop, idxP 1 (WrX (3 + u.length) ssi) (.int .i64 j) K = K (.ptr (3 + u.length) j) := by
      intro j hj K
      have h : ssi ≠ [] := by rintro rfl; simp at hj
      unfold WrX
      rw [if_neg h]
      simp [idxP, hj]
    have hvX : ∀ (j : Nat) (s : Bs), ssi[j]? = some s → ∀ a b c : AObj A, ldV 1 false (.ptr (3 + u.length) j) (a :: b :: c :: (u ++ WrS ssi)) = some (.str s) := by
      intro j s hj a b c
      have h : ssi ≠ [] := by rintro rfl; simp at hj
      have h2 : (a :: b :: c :: (u ++ WrS ssi) : AHeap A)[3 + u.length]? = some (.cells t_string (ssi.map .str)) := by
        rw [Nat.add_comm]
        simp only [List.getElem?_cons_succ, WrS, if_neg h]
        simp
      simp only [ldV, cellsAt, h2, Option.bind_some, AObj.read]
      simp [hj]
    simp -implicitDefEqProofs [hi, hi', hlX]
    refine loopP_go (WdI dk (.adt (bk m ti)) (.cells t_journal_Journal [.ptr 0 0, .ptr 1 0, .int .i64 boot, .int .i64 prev, ev, .bool false]) u k w (2 + es.length) ssi) ssi.length (Gives.done (by simp) ⟨0, rfl, by simp [jWs], by simpa [jWs] using hdk, by omega, rfl⟩) ?_
    rintro mm y g ⟨j, rfl, rfl, hdj, hj, rfl⟩
    by_cases hjl : j < ssi.length
    · have hjl' : (j : Int) < (ssi.length : Int) := by omega
      obtain ⟨s, hs⟩ : ∃ s, ssi[j]? = some s := ⟨_, List.getElem?_eq_getElem hjl⟩
      have hv := fun a b c => hvX j s hs a b c
      have hx := fun K => hiX j hjl K
      have hs64 := h64 s (List.mem_of_getElem? hs)
      have w1 := w64 (n := 2 + (es.length : Int)) (by omega)
      have w2 := w64 (n := 2 + (es.length : Int) + j) (by omega)
      have w3 := w64 (n := (j : Int) + 1) (by omega)
      have hbnd : 0 ≤ 2 + (es.length : Int) + j ∧ 2 + (es.length : Int) + j < k.length ∧ s.length = 64 := by omega
      have hwr := dWrite_good (k := k) (w := w ++ jWs (2 + es.length) (ssi.take j)) hbnd
      have hd2 := dOk_write hdj hbnd
      have htk := jWs_take (2 + es.length) ssi hs
      have hwl : (w ++ jWs (2 + es.length) (ssi.take j)).length ≤ 1000 := by rw [List.length_append, jWs_len, List.length_take]; omega
      simp -implicitDefEqProofs [hjl, hjl', hx, hv, hev, w1, w2]
      refine disk_Write_at hR hD hdj hwl hwr rfl ?_
      simp -implicitDefEqProofs [w3]
      refine Gives.done (by simp) ⟨ssi.length - (j + 1), by omega, j + 1, rfl, ?_, ?_, by omega, rfl⟩
      · rw [htk]; try simp
      · rw [htk, ← List.append_assoc]; exact hd2
    · have hjl' : ¬ (j : Int) < (ssi.length : Int) := by omega
      obtain rfl : j = ssi.length := by omega
      simp -implicitDefEqProofs [hjl, hjl']
      have := hk (WrS ssi)
      simpa [List.take_length] using this
end
end Go.AI

/- Journals: the calls, wherever they stand. -/
set_option linter.all false
namespace Go.AI
variable {A : Type} {R : Adts A}
section
variable {bk : Int → List Bs → A} {dk : List Bs → Ws → Bool → A} {jm : Nat → Nat → JS → A}
theorem Open_ok (hR : R.Ok) (hB : HasBook R bk) (hD : HasDisk R dk) (hJ : HasJrn R jm) {m : Int} {ts t k k' : List Bs} {w w' : Ws} {dn : Bool} {res : Int ⊕ JS} (hok : bOk m ts) (hdk : dOk k w) (hw : w.length ≤ 900) (he : jOpen m ts k w dn = (t, k', w', res)) {h : AHeap A} {b d : Nat} (hb : h[b]? = some (.adt (bk m ts))) (hd : h[d]? = some (.adt (dk k w dn))) (hbd : b ≠ d) {K : AVal → AHeap A → Prop}
    (hk : match res with
      | .inl e => K (.tup [.nilp, .int .i64 e]) ((h.set b (.adt (bk m t))).set d (.adt (dk k' w' dn)))
      | .inr J => K (.tup [.ptr h.length 0, .int .i64 0]) ((h.set b (.adt (bk m t))).set d (.adt (dk k' w' dn)) ++ [.adt (jm b d J)])) : Tri Pr R n_journal_Open [.ptr b 0, .ptr d 0] h K := by
  have s : Sel R [b, d] h [.adt (bk m ts), .adt (dk k w dn)] := by
    refine ⟨rfl, by simpa using hbd, fun k o hk => ?_, fun o ho => ?_⟩
    · match k, hk with
      | 0, hk => simp at hk; subst hk; exact ⟨b, rfl, by rw [book_ren hB]; exact hb⟩
      | 1, hk => simp at hk; subst hk; exact ⟨d, rfl, by rw [disk_ren hD]; exact hd⟩
      | k + 2, hk => simp at hk
    · simp only [List.mem_cons, List.not_mem_nil, or_false] at ho
      rcases ho with rfl | rfl
      · exact book_ix hB _ _ _
      · exact disk_ix hD _ _ _ _
  cases res with
  | inl e =>
    have t0 := Open_can (K := fun v g => v = .tup [.nilp, .int .i64 e] ∧ g = [.adt (bk m t), .adt (dk k' w' dn)]) hR hB hD hJ hok hdk hw he ⟨rfl, rfl⟩
    refine (Tri.frame hR s (as2 := [.ptr 0 0, .ptr 1 0]) rfl t0).mono ?_
    rintro v H ⟨v0, h0, ⟨rfl, rfl⟩, _, rfl, rfl⟩
    simpa [splice, setAll, book_ren hB, disk_ren hD, AVal.ren, rens] using hk
  | inr J =>
    have t0 := Open_can (K := fun v g => v = .tup [.ptr 2 0, .int .i64 0] ∧ g = [.adt (bk m t), .adt (dk k' w' dn), .adt (jm 0 1 J)]) hR hB hD hJ hok hdk hw he ⟨rfl, rfl⟩
    refine (Tri.frame hR s (as2 := [.ptr 0 0, .ptr 1 0]) rfl t0).mono ?_
    rintro v H ⟨v0, h0, ⟨rfl, rfl⟩, _, rfl, rfl⟩
    simpa [splice, setAll, book_ren hB, disk_ren hD, jrn_ren hJ, AVal.ren, rens, at_] using hk
theorem jrn_frame0 (hR : R.Ok) (hB : HasBook R bk) (hD : HasDisk R dk) (hJ : HasJrn R jm) {m : Int} {ts ts' k k' : List Bs} {w w' : Ws} {dn dn' : Bool} {J J' : JS} {f : FuncId} {us : List AVal} (hus : ixs 0 us = true) {v : AVal} (hv : v.ix 0 = true)
    (t : Tri Pr R f (.ptr 2 0 :: us) [.adt (bk m ts), .adt (dk k w dn), .adt (jm 0 1 J)] fun u g => u = v ∧ g = [.adt (bk m ts'), .adt (dk k' w' dn'), .adt (jm 0 1 J')])
    {h : AHeap A} {b d j : Nat} (hb : h[b]? = some (.adt (bk m ts))) (hd : h[d]? = some (.adt (dk k w dn))) (hj : h[j]? = some (.adt (jm b d J))) (hne : b ≠ d ∧ b ≠ j ∧ d ≠ j) {K : AVal → AHeap A → Prop}
    (hk : K v (((h.set b (.adt (bk m ts'))).set d (.adt (dk k' w' dn'))).set j (.adt (jm b d J')))) : Tri Pr R f (.ptr j 0 :: us) h K := by
  have s : Sel R [b, d, j] h [.adt (bk m ts), .adt (dk k w dn), .adt (jm 0 1 J)] := by
    refine ⟨rfl, by simp [hne], fun k o hk => ?_, fun o ho => ?_⟩
    · match k, hk with
      | 0, hk => simp at hk; subst hk; exact ⟨b, rfl, by rw [book_ren hB]; exact hb⟩
      | 1, hk => simp at hk; subst hk; exact ⟨d, rfl, by rw [disk_ren hD]; exact hd⟩
      | 2, hk => simp at hk; subst hk; exact ⟨j, rfl, by rw [jrn_ren hJ]; simpa [at_] using hj⟩
      | k + 3, hk => simp at hk
    · simp only [List.mem_cons, List.not_mem_nil, or_false] at ho
      rcases ho with rfl | rfl | rfl
      · exact book_ix hB _ _ _
      · exact disk_ix hD _ _ _ _
      · exact jrn_ix hJ _ (by simp) (by simp)
  have := (Tri.frame hR s (as2 := .ptr 2 0 :: us) (by simp [ixs, AVal.ix, ixs_mono (Nat.zero_le 3) us hus]) t)
  have e1 : rens (at_ [b, d, j] h.length) (.ptr 2 0 :: us) = .ptr j 0 :: us := by
    simp only [rens, rens_ix0 _ _ hus]
    simp [AVal.ren, at_]
  rw [e1] at this
  refine this.mono ?_
  rintro v0 H ⟨_, h0, ⟨rfl, rfl⟩, _, rfl, rfl⟩
  have hvr : ∀ (u : AVal) τ, u.ix 0 = true → u.ren τ = u := fun u τ hu => by
    have := rens_ix0 τ [u] (by simpa [ixs] using hu)
    simpa [rens] using this
  rw [hvr _ _ hv]
  simpa [splice, setAll, book_ren hB, disk_ren hD, jrn_ren hJ, at_] using hk
end
end Go.AI

/- Journals: Append, Write. -/
set_option linter.all false
namespace Go.AI
variable {A : Type} {R : Adts A}
theorem jPut_facts {m : Int} {ts t : List Bs} {J : JS} {k : List Bs} {w : Ws} {dn : Bool} {l : List Ev} {ss : List Bs} {p e : Int} (he : jPut m ts J k.length dn l = (t, ss, p, e)) (hdk : dOk k w) :
    (e ≠ 0 → ss = []) ∧ (e = 0 → dn = false ∧ J.over = false ∧ l.all evMay = true ∧ ss.length = l.length ∧ J.es.length + l.length + 2 ≤ k.length ∧ dOk k (w ++ jWs (2 + J.es.length) ss)) := by
  unfold jPut at he
  by_cases h1 : J.over = true ∨ dn = true
  · rw [if_pos h1] at he
    simp only [Prod.mk.injEq] at he
    obtain ⟨rfl, rfl, rfl, rfl⟩ := he
    exact ⟨fun _ => rfl, fun h => by omega⟩
  · rw [if_neg h1] at he
    by_cases h2 : l.all evMay = true
    · rw [if_pos h2] at he
      by_cases h3 : (k.length : Int) - 2 - J.es.length < l.length
      · rw [if_pos h3] at he
        simp only [Prod.mk.injEq] at he
        obtain ⟨rfl, rfl, rfl, rfl⟩ := he
        exact ⟨fun _ => rfl, fun h => by omega⟩
      · rw [if_neg h3] at he
        obtain ⟨⟨t2, s2, p2, ok⟩, hz⟩ : ∃ z, jRecs m J.boot ts J.es.length J.prev l = z := ⟨_, rfl⟩
        rw [hz] at he
        dsimp only at he
        cases ok with
        | false =>
          rw [if_neg (by simp)] at he
          simp only [Prod.mk.injEq] at he
          obtain ⟨rfl, rfl, rfl, rfl⟩ := he
          exact ⟨fun _ => rfl, fun h => by omega⟩
        | true =>
          rw [if_pos rfl] at he
          simp only [Prod.mk.injEq] at he
          obtain ⟨rfl, rfl, rfl, rfl⟩ := he
          obtain ⟨g1, g2⟩ := jRecs_len l hz
          refine ⟨fun h => absurd rfl h, fun _ => ⟨by simpa using fun h => h1 (.inr h), by simpa using fun h => h1 (.inl h), h2, g1, by omega, ?_⟩⟩
          have hgo : ∀ (ss : List Bs) (q : Int) (w : Ws), dOk k w → 0 ≤ q → q + ss.length ≤ k.length → (∀ s ∈ ss, s.length = 64) → dOk k (w ++ jWs q ss) := by
            intro ss
            induction ss with
            | nil => intro q w h _ _ _; simpa [jWs] using h
            | cons s r ih =>
              intro q w h h0 hq h64
              simp only [List.length_cons] at hq
              have := ih (q + 1) (w ++ [(q, s)]) (dOk_write h ⟨h0, by omega, h64 s (by simp)⟩) (by omega) (by omega) (fun s hs => h64 s (by simp [hs]))
              simpa [jWs] using this
          exact hgo s2 (2 + J.es.length) w hdk (by omega) (by omega) g2
    · rw [if_neg h2] at he
      simp only [Prod.mk.injEq] at he
      obtain ⟨rfl, rfl, rfl, rfl⟩ := he
      exact ⟨fun _ => rfl, fun h => by omega⟩
section
variable {bk : Int → List Bs → A} {dk : List Bs → Ws → Bool → A} {jm : Nat → Nat → JS → A}
theorem jrn_open {P : Program} (hJ : HasJrn R jm) {a b : AObj A} {J : JS} {t : AHeap A} {n : Nat} (hn : n ≤ 3 + t.length) {vs : List AVal} {K : List AVal → AHeap A → Prop}
    (hk : ∀ x, EvAt x J.es (3 + t.length) (a :: b :: jCells 0 1 J.boot J.prev x J.over :: (t ++ jEvs J.es)) → Gives P R n (a :: b :: jCells 0 1 J.boot J.prev x J.over :: (t ++ jEvs J.es)) vs K) : Gives P R n (a :: b :: .adt (jm 0 1 J) :: t) vs K := by
  refine Gives.opened 2 rfl (by simp; omega) fun g hg => ?_
  obtain rfl := (hJ.lay _ _ _ _).1 hg
  by_cases h0 : J.es = []
  · have := hk .nils (.inl ⟨h0, rfl⟩)
    simpa [jG, h0, jCells, GC.at, jEvs] using this
  · have := hk (.sl (3 + t.length) 0 J.es.length J.es.length false) (.inr ⟨h0, rfl, by
      rw [Nat.add_comm]; simp [jEvs, h0]⟩)
    have e1 : t.length + 1 + 1 + 1 = 3 + t.length := by omega
    simpa [jG, h0, jCells, GC.at, jEvs, e1] using this
theorem EvArg.mono {a : AVal} {l : List Ev} {n : Nat} {t : AHeap A} (h : EvArg a l n t) (r : AHeap A) : EvArg a l n (t ++ r) :=
  ⟨h.len, fun g hg => h.get g fun k o hk => hg k o (by rw [List.getElem?_append_left (List.getElem?_eq_some_iff.1 hk).1]; exact hk), fun g hg => h.src g fun k o hk => hg k o (by rw [List.getElem?_append_left (List.getElem?_eq_some_iff.1 hk).1]; exact hk)⟩
theorem jEvs_cl (es : List Ev) : ∀ o ∈ (jEvs es : AHeap A), o.closed R := by
  intro o ho
  unfold jEvs at ho
  split at ho
  · simp at ho
  · simp at ho; subst ho; exact closed_cells (evs_ix 0 es)
theorem Append_can (hR : R.Ok) (hB : HasBook R bk) (hD : HasDisk R dk) (hJ : HasJrn R jm) {m : Int} {ts t : List Bs} {k : List Bs} {w : Ws} {dn : Bool} {J : JS} {a : AVal} {l : List Ev} {u : AHeap A} {ss : List Bs} {p e : Int} (hok : bOk m ts) (hdk : dOk k w) (hw : w.length ≤ 600) (hn : J.es.length ≤ 300)
    (ha : EvArg a l 3 u) (hl : l.length < 1000000000) (hu : ∀ o ∈ u, o.closed R) (he : jPut m ts J k.length dn l = (t, ss, p, e)) {K : AVal → AHeap A → Prop}
    (hk : K (.int .i64 e) (if e = 0 then .adt (bk m t) :: .adt (dk (dPut k (w ++ jWs (2 + J.es.length) ss)) [] dn) :: .adt (jm 0 1 ⟨J.boot, p, J.es ++ l, J.over⟩) :: u else .adt (bk m t) :: .adt (dk k w dn) :: .adt (jm 0 1 J) :: u)) :
    Tri Pr R n_journal_Journal_Append [.ptr 2 0, a] (.adt (bk m ts) :: .adt (dk k w dn) :: .adt (jm 0 1 J) :: u) K := by
  obtain ⟨f1, f2⟩ := jPut_facts he hdk
  refine Tri.post (Tri.pre (jrn_open hJ (by simp; omega) fun x hx => Gives.done (by simp) ?_))
  apply c_journal_Journal_Append
  unfold p_journal_Journal_Append
  have hxi : x.ix (3 + (u ++ jEvs J.es : AHeap A).length) = true := by
    have := hx.ix
    have e1 : (.adt (bk m ts) :: .adt (dk k w dn) :: jCells 0 1 J.boot J.prev x J.over :: (u ++ jEvs J.es) : AHeap A).length = 3 + (u ++ jEvs J.es : AHeap A).length := by simp; omega
    rw [e1] at this; exact this
  refine written_core hR hB hD (u := u ++ jEvs J.es) hok hdk hw hx.len hn hxi (ha.mono _) hl (fun o ho => ?_) he fun r => ?_
  · rcases List.mem_append.1 ho with h | h
    · exact ⟨(hu o h).1 _, fun τ _ => (hu o h).2 τ⟩
    · exact ⟨(jEvs_cl _ o h).1 _, fun τ _ => (jEvs_cl _ o h).2 τ⟩
  by_cases h0 : e = 0
  · subst h0
    rw [if_pos rfl] at hk
    obtain ⟨rfl, hov, hal, hsl, hlen, hd2⟩ := f2 rfl
    have hd := hdk.size
    have hwl : (w ++ jWs (2 + J.es.length) ss).length ≤ 1000 := by rw [List.length_append, jWs_len]; omega
    unfold jCells at *
    simp -implicitDefEqProofs
    refine joinP_go ?_
    simp -implicitDefEqProofs
    refine disk_Flush_at hR hD hd2 hwl rfl rfl ?_
    generalize dPut k (w ++ jWs (2 + J.es.length) ss) = k2 at *
    simp -implicitDefEqProofs
    have hx2 : EvAt x J.es (3 + u.length) (.adt (bk m t) :: .adt (dk k2 [] false) :: .cells t_journal_Journal [.ptr 0 0, .ptr 1 0, .int .i64 J.boot, .int .i64 J.prev, x, .bool J.over] :: (u ++ (jEvs J.es ++ r))) := by
      have := (hx.move (h' := .adt (bk m t) :: .adt (dk k2 [] false) :: .cells t_journal_Journal [.ptr 0 0, .ptr 1 0, .int .i64 J.boot, .int .i64 J.prev, x, .bool J.over] :: (u ++ jEvs J.es)) fun _ => by rw [Nat.add_comm]; rfl).app r
      simpa using this
    refine app_evs hx2 (ha.src _ fun k o h => up_at k o h) (by omega) fun x' e' h' hev hsame hl' he' => ?_
    have hne : ∀ k, k < 3 + u.length → h'[k]? = (.adt (bk m t) :: .adt (dk k2 [] false) :: .cells t_journal_Journal [.ptr 0 0, .ptr 1 0, .int .i64 J.boot, .int .i64 J.prev, x, .bool J.over] :: (u ++ (jEvs J.es ++ r)) : AHeap A)[k]? := fun k hk => hsame k (.inr (by omega)) (by simp; omega)
    have q0 : h'[0]? = some (.adt (bk m t)) := hne 0 (by omega)
    have q1 : h'[1]? = some (.adt (dk k2 [] false)) := hne 1 (by omega)
    have q2 : h'[2]? = some (.cells t_journal_Journal [.ptr 0 0, .ptr 1 0, .int .i64 J.boot, .int .i64 J.prev, x, .bool J.over]) := hne 2 (by omega)
    obtain ⟨h'', rfl⟩ := three q0 q1 q2
    have hut : h''.take u.length = u := take_eq fun k hk => by
      have := hne (k + 3) (by omega)
      simp only [List.getElem?_cons_succ] at this
      rw [this, List.getElem?_append_left hk]
    have hsp : h'' = u ++ h''.drop u.length := by conv => lhs; rw [← List.take_append_drop u.length h'', hut]
    have hge : 3 + u.length ≤ e' := by
      rcases he' with ⟨_, rfl⟩ | h
      · exact Nat.le_refl _
      · simp at h; omega
    rw [st_ev hev]
    simp -implicitDefEqProofs
    have hev2 : EvAt x' (J.es ++ l) e' (.adt (bk m t) :: .adt (dk k2 [] false) :: jCells 0 1 J.boot p x' J.over :: (u ++ h''.drop u.length)) := by
      rw [← hsp]
      refine hev.move fun _ => ?_
      obtain ⟨j, rfl⟩ : ∃ j, e' = j + 3 := ⟨e' - 3, by omega⟩
      rfl
    rw [hsp]
    refine ⟨by rw [← hsp]; simp at hl'; omega, ?_⟩
    exact jrn_shut hR hJ (J := ⟨J.boot, p, J.es ++ l, J.over⟩) (t := u) hev2 (fun _ => hge) (book_cl hB _ _) (disk_cl hD _ _ _) hu (by omega) (by simp [ixs, AVal.ix]) ⟨_, rfl, hk⟩
  · rw [if_neg h0] at hk
    obtain rfl := f1 h0
    have h0' : (e == 0) = false := by simpa using h0
    unfold jCells at *
    simp -implicitDefEqProofs [h0']
    refine joinP_go ?_
    simp -implicitDefEqProofs [jWs]
    have hx2 : EvAt x J.es (3 + u.length) (.adt (bk m t) :: .adt (dk k w dn) :: jCells 0 1 J.boot J.prev x J.over :: (u ++ (jEvs J.es ++ r))) := by
      have := (hx.move (h' := .adt (bk m t) :: .adt (dk k w dn) :: jCells 0 1 J.boot J.prev x J.over :: (u ++ jEvs J.es)) fun _ => by rw [Nat.add_comm]; rfl).app r
      simpa using this
    exact jrn_shut hR hJ (J := J) (t := u) hx2 (fun _ => Nat.le_refl _) (book_cl hB _ _) (disk_cl hD _ _ _) hu (by omega) (by simp [ixs, AVal.ix]) ⟨_, rfl, hk⟩
end
end Go.AI

/- Journals: Write, Events, and the calls wherever they stand. -/
set_option linter.all false
namespace Go.AI
variable {A : Type} {R : Adts A}
section
variable {bk : Int → List Bs → A} {dk : List Bs → Ws → Bool → A} {jm : Nat → Nat → JS → A}
theorem Write_can (hR : R.Ok) (hB : HasBook R bk) (hD : HasDisk R dk) (hJ : HasJrn R jm) {m : Int} {ts t : List Bs} {k : List Bs} {w : Ws} {dn : Bool} {J : JS} {a : AVal} {l : List Ev} {u : AHeap A} {ss : List Bs} {p e : Int} (hok : bOk m ts) (hdk : dOk k w) (hw : w.length ≤ 600) (hn : J.es.length ≤ 300)
    (ha : EvArg a l 3 u) (hl : l.length < 1000000000) (hu : ∀ o ∈ u, o.closed R) (he : jPut m ts J k.length dn l = (t, ss, p, e)) {K : AVal → AHeap A → Prop}
    (hk : K (.int .i64 e) (if e = 0 then .adt (bk m t) :: .adt (dk k (w ++ jWs (2 + J.es.length) ss) dn) :: .adt (jm 0 1 ⟨J.boot, J.prev, J.es, true⟩) :: u else .adt (bk m t) :: .adt (dk k w dn) :: .adt (jm 0 1 J) :: u)) :
    Tri Pr R n_journal_Journal_Write [.ptr 2 0, a] (.adt (bk m ts) :: .adt (dk k w dn) :: .adt (jm 0 1 J) :: u) K := by
  obtain ⟨f1, f2⟩ := jPut_facts he hdk
  refine Tri.post (Tri.pre (jrn_open hJ (by simp; omega) fun x hx => Gives.done (by simp) ?_))
  apply c_journal_Journal_Write
  unfold p_journal_Journal_Write
  have hxi : x.ix (3 + (u ++ jEvs J.es : AHeap A).length) = true := by
    have := hx.ix
    have e1 : (.adt (bk m ts) :: .adt (dk k w dn) :: jCells 0 1 J.boot J.prev x J.over :: (u ++ jEvs J.es) : AHeap A).length = 3 + (u ++ jEvs J.es : AHeap A).length := by simp; omega
    rw [e1] at this; exact this
  refine written_core hR hB hD (u := u ++ jEvs J.es) hok hdk hw hx.len hn hxi (ha.mono _) hl (fun o ho => ?_) he fun r => ?_
  · rcases List.mem_append.1 ho with h | h
    · exact ⟨(hu o h).1 _, fun τ _ => (hu o h).2 τ⟩
    · exact ⟨(jEvs_cl _ o h).1 _, fun τ _ => (jEvs_cl _ o h).2 τ⟩
  by_cases h0 : e = 0
  · subst h0
    rw [if_pos rfl] at hk
    unfold jCells at *
    simp -implicitDefEqProofs
    refine joinP_go ?_
    simp -implicitDefEqProofs
    have hx2 : EvAt x J.es (3 + u.length) (.adt (bk m t) :: .adt (dk k (w ++ jWs (2 + J.es.length) ss) dn) :: jCells 0 1 J.boot J.prev x true :: (u ++ (jEvs J.es ++ r))) := by
      have := (hx.move (h' := .adt (bk m t) :: .adt (dk k (w ++ jWs (2 + J.es.length) ss) dn) :: jCells 0 1 J.boot J.prev x true :: (u ++ jEvs J.es)) fun _ => by rw [Nat.add_comm]; rfl).app r
      simpa using this
    exact jrn_shut hR hJ (J := ⟨J.boot, J.prev, J.es, true⟩) (t := u) hx2 (fun _ => Nat.le_refl _) (book_cl hB _ _) (disk_cl hD _ _ _) hu (by omega) (by simp [ixs, AVal.ix]) ⟨_, rfl, hk⟩
  · rw [if_neg h0] at hk
    obtain rfl := f1 h0
    have h0' : (e == 0) = false := by simpa using h0
    unfold jCells at *
    simp -implicitDefEqProofs [h0']
    refine joinP_go ?_
    simp -implicitDefEqProofs [jWs]
    have hx2 : EvAt x J.es (3 + u.length) (.adt (bk m t) :: .adt (dk k w dn) :: jCells 0 1 J.boot J.prev x J.over :: (u ++ (jEvs J.es ++ r))) := by
      have := (hx.move (h' := .adt (bk m t) :: .adt (dk k w dn) :: jCells 0 1 J.boot J.prev x J.over :: (u ++ jEvs J.es)) fun _ => by rw [Nat.add_comm]; rfl).app r
      simpa using this
    exact jrn_shut hR hJ (J := J) (t := u) hx2 (fun _ => Nat.le_refl _) (book_cl hB _ _) (disk_cl hD _ _ _) hu (by omega) (by simp [ixs, AVal.ix]) ⟨_, rfl, hk⟩
theorem jrn_frame1 (hR : R.Ok) (hB : HasBook R bk) (hD : HasDisk R dk) (hJ : HasJrn R jm) {m : Int} {ts ts' k k' : List Bs} {w w' : Ws} {dn dn' : Bool} {J J' : JS} {f : FuncId} {q n cap : Nat} {ex : Bool} {o : AObj A} (ho : o.closed R) {v : AVal} (hv : v.ix 0 = true)
    (t : Tri Pr R f [.ptr 2 0, .sl 3 0 n cap ex] [.adt (bk m ts), .adt (dk k w dn), .adt (jm 0 1 J), o] fun u g => u = v ∧ g = [.adt (bk m ts'), .adt (dk k' w' dn'), .adt (jm 0 1 J'), o])
    {h : AHeap A} {b d j : Nat} (hb : h[b]? = some (.adt (bk m ts))) (hd : h[d]? = some (.adt (dk k w dn))) (hj : h[j]? = some (.adt (jm b d J))) (hq : h[q]? = some o) (hne : b ≠ d ∧ b ≠ j ∧ d ≠ j) (hnq : b ≠ q ∧ d ≠ q ∧ j ≠ q) {K : AVal → AHeap A → Prop}
    (hk : K v (((h.set b (.adt (bk m ts'))).set d (.adt (dk k' w' dn'))).set j (.adt (jm b d J')))) : Tri Pr R f [.ptr j 0, .sl q 0 n cap ex] h K := by
  have s : Sel R [b, d, j, q] h [.adt (bk m ts), .adt (dk k w dn), .adt (jm 0 1 J), o] := by
    refine ⟨rfl, by simp [hne, hnq], fun k o' hk => ?_, fun o' ho' => ?_⟩
    · match k, hk with
      | 0, hk => simp at hk; subst hk; exact ⟨b, rfl, by rw [book_ren hB]; exact hb⟩
      | 1, hk => simp at hk; subst hk; exact ⟨d, rfl, by rw [disk_ren hD]; exact hd⟩
      | 2, hk => simp at hk; subst hk; exact ⟨j, rfl, by rw [jrn_ren hJ]; simpa [at_] using hj⟩
      | 3, hk => simp at hk; subst hk; exact ⟨q, rfl, by rw [ho.2]; exact hq⟩
      | k + 4, hk => simp at hk
    · simp only [List.mem_cons, List.not_mem_nil, or_false] at ho'
      rcases ho' with rfl | rfl | rfl | rfl
      · exact book_ix hB _ _ _
      · exact disk_ix hD _ _ _ _
      · exact jrn_ix hJ _ (by simp) (by simp)
      · exact ho.1 _
  have := (Tri.frame hR s (as2 := [.ptr 2 0, .sl 3 0 n cap ex]) (by simp [ixs, AVal.ix]) t)
  have e1 : rens (at_ [b, d, j, q] h.length) [.ptr 2 0, .sl 3 0 n cap ex] = [.ptr j 0, .sl q 0 n cap ex] := by
    simp [rens, AVal.ren, at_]
  rw [e1] at this
  refine this.mono ?_
  rintro v0 H ⟨_, h0, ⟨rfl, rfl⟩, _, rfl, rfl⟩
  have hvr : ∀ (u : AVal) τ, u.ix 0 = true → u.ren τ = u := fun u τ hu => by
    have := rens_ix0 τ [u] (by simpa [ixs] using hu)
    simpa [rens] using this
  rw [hvr _ _ hv]
  have hq2 : (((h.set b (.adt (bk m ts'))).set d (.adt (dk k' w' dn'))).set j (.adt (jm b d J')) : AHeap A)[q]? = some o := by
    rw [List.getElem?_set_ne hnq.2.2, List.getElem?_set_ne hnq.2.1, List.getElem?_set_ne hnq.1]; exact hq
  simpa [splice, setAll, book_ren hB, disk_ren hD, jrn_ren hJ, at_, ho.2, set_same hq2] using hk
/-- Events that stand somewhere: by themselves, or in an object. -/
def EvsAt (a : AVal) (l : List Ev) (h : AHeap A) (x : Nat → Prop) : Prop := (a = .nils ∧ l = []) ∨ IsRows Ev.row a l ∨ ∃ q cap ex, a = .sl q 0 l.length cap ex ∧ h[q]? = some (.cells t_api_Event (l.flatMap Ev.row)) ∧ x q
theorem jrn_call (hR : R.Ok) (hB : HasBook R bk) (hD : HasDisk R dk) (hJ : HasJrn R jm) {m : Int} {ts ts' k k' : List Bs} {w w' : Ws} {dn dn' : Bool} {J J' : JS} {f : FuncId} {a : AVal} {l : List Ev} {v : AVal} (hv : v.ix 0 = true)
    (t : ∀ (a : AVal) (u : AHeap A), EvArg a l 3 u → (∀ o ∈ u, o.closed R) → Tri Pr R f [.ptr 2 0, a] (.adt (bk m ts) :: .adt (dk k w dn) :: .adt (jm 0 1 J) :: u) fun x g => x = v ∧ g = .adt (bk m ts') :: .adt (dk k' w' dn') :: .adt (jm 0 1 J') :: u)
    {h : AHeap A} {b d j : Nat} (hb : h[b]? = some (.adt (bk m ts))) (hd : h[d]? = some (.adt (dk k w dn))) (hj : h[j]? = some (.adt (jm b d J))) (hne : b ≠ d ∧ b ≠ j ∧ d ≠ j) (ha : EvsAt a l h fun q => b ≠ q ∧ d ≠ q ∧ j ≠ q) {K : AVal → AHeap A → Prop}
    (hk : K v (((h.set b (.adt (bk m ts'))).set d (.adt (dk k' w' dn'))).set j (.adt (jm b d J')))) : Tri Pr R f [.ptr j 0, a] h K := by
  rcases ha with ⟨rfl, rfl⟩ | ha | ⟨q, cap, ex, rfl, hq, hx⟩
  · exact jrn_frame0 hR hB hD hJ (us := [.nils]) rfl hv (t _ [] (EvArg.nil _ _) (by simp)) hb hd hj hne hk
  · refine jrn_frame0 hR hB hD hJ (us := [a]) ?_ hv (t _ [] (EvArg.rows ha _ _) (by simp)) hb hd hj hne hk
    rcases ha with ⟨rfl, rfl⟩ | ⟨b, o, cap, rfl⟩ <;> rfl
  · exact jrn_frame1 hR hB hD hJ (o := .cells t_api_Event (l.flatMap Ev.row)) (closed_cells (evs_ix 0 l)) hv (t _ _ (EvArg.sl l 3 cap ex t_api_Event) (by simp; exact closed_cells (evs_ix 0 l))) hb hd hj hq hne hx hk
theorem Append_ok (hR : R.Ok) (hB : HasBook R bk) (hD : HasDisk R dk) (hJ : HasJrn R jm) {m : Int} {ts t : List Bs} {k : List Bs} {w : Ws} {dn : Bool} {J : JS} {a : AVal} {l : List Ev} {ss : List Bs} {p e : Int} (hok : bOk m ts) (hdk : dOk k w) (hw : w.length ≤ 600) (hn : J.es.length ≤ 300) (hl : l.length < 1000000000)
    (he : jPut m ts J k.length dn l = (t, ss, p, e)) {h : AHeap A} {b d j : Nat} (hb : h[b]? = some (.adt (bk m ts))) (hd : h[d]? = some (.adt (dk k w dn))) (hj : h[j]? = some (.adt (jm b d J))) (hne : b ≠ d ∧ b ≠ j ∧ d ≠ j) (ha : EvsAt a l h fun q => b ≠ q ∧ d ≠ q ∧ j ≠ q) {K : AVal → AHeap A → Prop}
    (hk : if e = 0 then K (.int .i64 e) (((h.set b (.adt (bk m t))).set d (.adt (dk (dPut k (w ++ jWs (2 + J.es.length) ss)) [] dn))).set j (.adt (jm b d ⟨J.boot, p, J.es ++ l, J.over⟩)))
      else K (.int .i64 e) (h.set b (.adt (bk m t)))) : Tri Pr R n_journal_Journal_Append [.ptr j 0, a] h K := by
  by_cases h0 : e = 0
  · rw [if_pos h0] at hk
    exact jrn_call hR hB hD hJ rfl (fun a u ha hu => Append_can hR hB hD hJ hok hdk hw hn ha hl hu he ⟨rfl, by rw [if_pos h0]⟩) hb hd hj hne ha hk
  · rw [if_neg h0] at hk
    refine jrn_call hR hB hD hJ rfl (fun a u ha hu => Append_can hR hB hD hJ hok hdk hw hn ha hl hu he ⟨rfl, by rw [if_neg h0]⟩) hb hd hj hne ha ?_
    have e1 : (h.set b (.adt (bk m t)) : AHeap A)[d]? = some (.adt (dk k w dn)) := by rw [List.getElem?_set_ne hne.1]; exact hd
    have e2 : (h.set b (.adt (bk m t)) : AHeap A)[j]? = some (.adt (jm b d J)) := by rw [List.getElem?_set_ne hne.2.1]; exact hj
    rw [set_same e1, set_same e2]
    exact hk
theorem Write_ok (hR : R.Ok) (hB : HasBook R bk) (hD : HasDisk R dk) (hJ : HasJrn R jm) {m : Int} {ts t : List Bs} {k : List Bs} {w : Ws} {dn : Bool} {J : JS} {a : AVal} {l : List Ev} {ss : List Bs} {p e : Int} (hok : bOk m ts) (hdk : dOk k w) (hw : w.length ≤ 600) (hn : J.es.length ≤ 300) (hl : l.length < 1000000000)
    (he : jPut m ts J k.length dn l = (t, ss, p, e)) {h : AHeap A} {b d j : Nat} (hb : h[b]? = some (.adt (bk m ts))) (hd : h[d]? = some (.adt (dk k w dn))) (hj : h[j]? = some (.adt (jm b d J))) (hne : b ≠ d ∧ b ≠ j ∧ d ≠ j) (ha : EvsAt a l h fun q => b ≠ q ∧ d ≠ q ∧ j ≠ q) {K : AVal → AHeap A → Prop}
    (hk : if e = 0 then K (.int .i64 e) (((h.set b (.adt (bk m t))).set d (.adt (dk k (w ++ jWs (2 + J.es.length) ss) dn))).set j (.adt (jm b d ⟨J.boot, J.prev, J.es, true⟩)))
      else K (.int .i64 e) (h.set b (.adt (bk m t)))) : Tri Pr R n_journal_Journal_Write [.ptr j 0, a] h K := by
  by_cases h0 : e = 0
  · rw [if_pos h0] at hk
    exact jrn_call hR hB hD hJ rfl (fun a u ha hu => Write_can hR hB hD hJ hok hdk hw hn ha hl hu he ⟨rfl, by rw [if_pos h0]⟩) hb hd hj hne ha hk
  · rw [if_neg h0] at hk
    refine jrn_call hR hB hD hJ rfl (fun a u ha hu => Write_can hR hB hD hJ hok hdk hw hn ha hl hu he ⟨rfl, by rw [if_neg h0]⟩) hb hd hj hne ha ?_
    have e1 : (h.set b (.adt (bk m t)) : AHeap A)[d]? = some (.adt (dk k w dn)) := by rw [List.getElem?_set_ne hne.1]; exact hd
    have e2 : (h.set b (.adt (bk m t)) : AHeap A)[j]? = some (.adt (jm b d J)) := by rw [List.getElem?_set_ne hne.2.1]; exact hj
    rw [set_same e1, set_same e2]
    exact hk
theorem Boot_ok (hR : R.Ok) (hB : HasBook R bk) (hD : HasDisk R dk) (hJ : HasJrn R jm) {m : Int} {ts k : List Bs} {w : Ws} {dn : Bool} {J : JS} {h : AHeap A} {b d j : Nat} (hb : h[b]? = some (.adt (bk m ts))) (hd : h[d]? = some (.adt (dk k w dn))) (hj : h[j]? = some (.adt (jm b d J))) (hne : b ≠ d ∧ b ≠ j ∧ d ≠ j) {K : AVal → AHeap A → Prop}
    (hk : K (.int .i64 J.boot) h) : Tri Pr R n_journal_Journal_Boot [.ptr j 0] h K := by
  refine jrn_frame0 hR hB hD hJ (ts' := ts) (k' := k) (w' := w) (dn' := dn) (J' := J) (us := []) (v := .int .i64 J.boot) rfl rfl ?_ hb hd hj hne (by rw [set_same hb, set_same hd, set_same hj]; exact hk)
  refine Tri.post (Tri.pre (jrn_open hJ (t := []) (by simp) fun x hx => Gives.done (by simp) ?_))
  apply c_journal_Journal_Boot
  unfold p_journal_Journal_Boot
  unfold jCells at *
  simp -implicitDefEqProofs
  exact jrn_shut hR hJ (J := J) (t := []) (r := jEvs J.es) hx (fun _ => Nat.le_refl _) (book_cl hB _ _) (disk_cl hD _ _ _) (by simp) (by simp) (by simp [ixs, AVal.ix]) ⟨_, rfl, rfl, rfl⟩
theorem Room_ok (hR : R.Ok) (hB : HasBook R bk) (hD : HasDisk R dk) (hJ : HasJrn R jm) {m : Int} {ts k : List Bs} {w : Ws} {dn : Bool} {J : JS} (hkl : k.length ≤ 256) (hn : J.es.length ≤ 300) {h : AHeap A} {b d j : Nat} (hb : h[b]? = some (.adt (bk m ts))) (hd : h[d]? = some (.adt (dk k w dn))) (hj : h[j]? = some (.adt (jm b d J))) (hne : b ≠ d ∧ b ≠ j ∧ d ≠ j) {K : AVal → AHeap A → Prop}
    (hk : K (.int .i64 ((k.length : Int) - 2 - J.es.length)) h) : Tri Pr R n_journal_Journal_Room [.ptr j 0] h K := by
  refine jrn_frame0 hR hB hD hJ (ts' := ts) (k' := k) (w' := w) (dn' := dn) (J' := J) (us := []) (v := .int .i64 ((k.length : Int) - 2 - J.es.length)) rfl rfl ?_ hb hd hj hne (by rw [set_same hb, set_same hd, set_same hj]; exact hk)
  refine Tri.post (Tri.pre (jrn_open hJ (t := []) (by simp) fun x hx => Gives.done (by simp) ?_))
  refine Room_raw hR hD (h := .adt (bk m ts) :: .adt (dk k w dn) :: jCells 0 1 J.boot J.prev x J.over :: ([] ++ jEvs J.es)) (j := 2) (b := 0) (d := 1) (k := k) (w := w) (dn := dn) (n := J.es.length) rfl rfl hx.len (by omega) hkl ?_
  exact jrn_shut hR hJ (J := J) (t := []) (r := jEvs J.es) hx (fun _ => Nat.le_refl _) (book_cl hB _ _) (disk_cl hD _ _ _) (by simp) (by simp) (by simp [ixs, AVal.ix]) ⟨_, rfl, rfl, rfl⟩
end
end Go.AI

/- Journals: Events; events that are compared and copied. -/
set_option linter.all false
namespace Go.AI
variable {A : Type} {R : Adts A}
/-- New memory that holds these events. -/
def NewEvs (es : List Ev) (p : Nat) : AVal := if es = [] then .nils else .sl p 0 es.length es.length false
section
variable {bk : Int → List Bs → A} {dk : List Bs → Ws → Bool → A} {jm : Nat → Nat → JS → A}
/-- As jrn_shut; of the rest just one object goes on. -/
theorem jrn_shut1 (hR : R.Ok) (hJ : HasJrn R jm) {a b o : AObj A} {J : JS} {x : AVal} {e q n : Nat} {u : AHeap A} {vs vs2 : List AVal} {K : List AVal → AHeap A → Prop} (he : EvAt x J.es e (a :: b :: jCells 0 1 J.boot J.prev x J.over :: u)) (he3 : J.es ≠ [] → 3 ≤ e) (ha : a.closed R) (hb : b.closed R) (ho : o.closed R)
    (hq : (a :: b :: jCells 0 1 J.boot J.prev x J.over :: u : AHeap A)[q]? = some o) (hq3 : 3 ≤ q) (hqe : J.es ≠ [] → q ≠ e) (hn : n ≤ 3) (hvs : ∀ τ : Nat → Nat, τ 3 = q → vs = rens τ vs2) (hv : ixs 4 vs2 = true) (hk : K vs2 [a, b, .adt (jm 0 1 J), o]) : Gives Pr R n (a :: b :: jCells 0 1 J.boot J.prev x J.over :: u) vs K := by
  have hql := (List.getElem?_eq_some_iff.1 hq).1
  have key : ∀ js : List Nat, (∀ j ∈ js, 3 ≤ j ∧ j ≠ q) → Gives Pr R n ((kills (a :: b :: jCells 0 1 J.boot J.prev x J.over :: u) js).set 2 (.adt (jm 0 1 J))) vs K := by
    intro js hjs
    have hg : ∀ k, k < 3 ∨ k = q → k ≠ 2 → ((kills (a :: b :: jCells 0 1 J.boot J.prev x J.over :: u) js).set 2 (.adt (jm 0 1 J)) : AHeap A)[k]? = (a :: b :: jCells 0 1 J.boot J.prev x J.over :: u : AHeap A)[k]? := by
      intro k hk h2
      have hnj : k ∉ js := fun h => by have := hjs k h; omega
      rw [List.getElem?_set_ne (Ne.symm h2), kills_get _ _ _ (by rcases hk with h | h; simp; omega; rw [h]; exact hql), if_neg hnj]
    have g0 := hg 0 (.inl (by omega)) (by omega)
    have g1 := hg 1 (.inl (by omega)) (by omega)
    have gq := hg q (.inr rfl) (by omega)
    have g2 : ((kills (a :: b :: jCells 0 1 J.boot J.prev x J.over :: u) js).set 2 (.adt (jm 0 1 J)) : AHeap A)[2]? = some (.adt (jm 0 1 J)) := by
      rw [List.getElem?_set_self (by rw [kills_length]; simp)]
    generalize (kills (a :: b :: jCells 0 1 J.boot J.prev x J.over :: u) js).set 2 (.adt (jm 0 1 J)) = g at *
    refine Gives.keep hR [0, 1, 2, q] (h2 := [a, b, .adt (jm 0 1 J), o]) (vs2 := vs2) ⟨rfl, by simp; omega, fun k o' hk => ?_, fun o' ho' => ?_⟩ (hvs _ (by simp [at_])) hv (fun k hk => ?_) (Gives.done (by simp; omega) hk)
    · match k, hk with
      | 0, hk => simp at hk; subst hk; exact ⟨0, rfl, by rw [ha.2, g0]; rfl⟩
      | 1, hk => simp at hk; subst hk; exact ⟨1, rfl, by rw [hb.2, g1]; rfl⟩
      | 2, hk => simp at hk; subst hk; exact ⟨2, rfl, by rw [jrn_ren hJ, g2]; simp [at_]⟩
      | 3, hk => simp at hk; subst hk; exact ⟨q, rfl, by rw [ho.2, gq]; exact hq⟩
      | k + 4, hk => simp at hk
    · simp only [List.mem_cons, List.not_mem_nil, or_false] at ho'
      rcases ho' with rfl | rfl | rfl | rfl
      · exact ha.1 _
      · exact hb.1 _
      · exact jrn_ix hJ _ (by simp) (by simp)
      · exact ho.1 _
    · match k, hk with
      | 0, _ => rfl
      | 1, _ => rfl
      | 2, _ => rfl
      | k + 3, hk => omega
  rcases he with ⟨h0, rfl⟩ | ⟨h0, rfl, h1⟩
  · refine Gives.shut 2 [] (jm 0 1 J) (jG 0 1 J) ((hJ.lay _ _ _ _).2 rfl) ?_ ?_ ?_ (by simp) ?_ ?_ (key [] (by simp))
    · simp [jG, h0, jCells, GC.on]
    · simp [jG, h0]
    · intro i s hs; simp [jG, h0] at hs
    · simp [jG, h0]
    · simp [jG, h0]
  · have he3 := he3 h0
    have hqe := hqe h0
    refine Gives.shut 2 [e] (jm 0 1 J) (jG 0 1 J) ((hJ.lay _ _ _ _).2 rfl) ?_ ?_ ?_ (by simp; omega) ?_ ?_ (key [e] (by simpa using ⟨he3, Ne.symm hqe⟩))
    · simp [jG, h0, jCells, GC.on]
    · simp [jG, h0]
    · intro i s hs
      match i, hs with
      | 0, hs => simp [jG, h0] at hs; subst hs; exact ⟨by simpa using h1, rfl⟩
      | i + 1, hs => simp [jG, h0] at hs
    · intro i o len cap ex hm
      simp [jG, h0] at hm ⊢
      omega
    · simp [jG, h0]
theorem app_new {a : AVal} {l : List Ev} {h : AHeap A} {p : Nat} {t : TypeId} (hp : h[p]? = some (.cells t [])) (hs : srcOf 8 h a = some (l.length, l.flatMap Ev.row)) (hl : l.length ≤ 1000000) {K : AVal → AHeap A → Prop}
    (hk : if l = [] then K (.sl p 0 0 0 true) h else K (.sl h.length 0 l.length l.length false) (h ++ [.cells t_api_Event (l.flatMap Ev.row)])) : appP t_api_Event 8 64 (.sl p 0 0 0 true) a h K := by
  unfold appP appV
  rw [hs]
  dsimp only
  by_cases h0 : l = []
  · subst h0
    rw [if_pos rfl] at hk
    have : setAt h p (0 + 0 * 8) [] = some h := by
      unfold setAt
      rw [hp]
      simp only [over]
      rw [if_pos ⟨by simp, rfl⟩]
      simp [set_same hp]
    simp only [List.length_nil, Nat.add_zero, Nat.le_refl, if_true, List.flatMap_nil, this, Option.map_some, optH]
    exact hk
  · rw [if_neg h0] at hk
    have hpos := List.length_pos_iff.2 h0
    rw [if_neg (by omega), hp]
    dsimp only
    rw [if_pos ⟨by omega, by simp, .inl ⟨rfl, rfl, by omega⟩⟩, if_pos rfl]
    simp only [optH]
    simpa using hk
theorem Events_ok (hR : R.Ok) (hB : HasBook R bk) (hD : HasDisk R dk) (hJ : HasJrn R jm) {m : Int} {ts k : List Bs} {w : Ws} {dn : Bool} {J : JS} (hn : J.es.length ≤ 300) {h : AHeap A} {b d j : Nat} (hb : h[b]? = some (.adt (bk m ts))) (hd : h[d]? = some (.adt (dk k w dn))) (hj : h[j]? = some (.adt (jm b d J))) (hne : b ≠ d ∧ b ≠ j ∧ d ≠ j) {K : AVal → AHeap A → Prop}
    (hk : if J.es = [] then K .nils h else K (.sl h.length 0 J.es.length J.es.length false) (h ++ [.cells t_api_Event (J.es.flatMap Ev.row)])) : Tri Pr R n_journal_Journal_Events [.ptr j 0] h K := by
  by_cases h0 : J.es = []
  · rw [if_pos h0] at hk
    refine jrn_frame0 hR hB hD hJ (ts' := ts) (k' := k) (w' := w) (dn' := dn) (J' := J) (us := []) (v := .nils) rfl rfl ?_ hb hd hj hne (by rw [set_same hb, set_same hd, set_same hj]; exact hk)
    refine Tri.post (Tri.pre (jrn_open hJ (t := []) (by simp) fun x hx => Gives.done (by simp) ?_))
    apply c_journal_Journal_Events
    unfold p_journal_Journal_Events
    obtain rfl : x = .nils := by
      rcases hx with ⟨_, h⟩ | ⟨h, _⟩
      · exact h
      · exact absurd h0 h
    unfold jCells at *
    simp -implicitDefEqProofs
    apply c_slices_Clone_api_Event
    unfold p_slices_Clone_api_Event
    simp -implicitDefEqProofs
    exact jrn_shut hR hJ (J := J) (t := []) (r := jEvs J.es) hx (fun _ => Nat.le_refl _) (book_cl hB _ _) (disk_cl hD _ _ _) (by simp) (by simp) (by simp [ixs, AVal.ix]) ⟨_, rfl, rfl, rfl⟩
  · rw [if_neg h0] at hk
    have s : Sel R [b, d, j] h [.adt (bk m ts), .adt (dk k w dn), .adt (jm 0 1 J)] := by
      refine ⟨rfl, by simp [hne], fun k o hk => ?_, fun o ho => ?_⟩
      · match k, hk with
        | 0, hk => simp at hk; subst hk; exact ⟨b, rfl, by rw [book_ren hB]; exact hb⟩
        | 1, hk => simp at hk; subst hk; exact ⟨d, rfl, by rw [disk_ren hD]; exact hd⟩
        | 2, hk => simp at hk; subst hk; exact ⟨j, rfl, by rw [jrn_ren hJ]; simpa [at_] using hj⟩
        | k + 3, hk => simp at hk
      · simp only [List.mem_cons, List.not_mem_nil, or_false] at ho
        rcases ho with rfl | rfl | rfl
        · exact book_ix hB _ _ _
        · exact disk_ix hD _ _ _ _
        · exact jrn_ix hJ _ (by simp) (by simp)
    have t : Tri Pr R n_journal_Journal_Events [.ptr 2 0] [.adt (bk m ts), .adt (dk k w dn), .adt (jm 0 1 J)] fun u g => u = .sl 3 0 J.es.length J.es.length false ∧ g = [.adt (bk m ts), .adt (dk k w dn), .adt (jm 0 1 J), .cells t_api_Event (J.es.flatMap Ev.row)] := by
      refine Tri.post (Tri.pre (jrn_open hJ (t := []) (by simp) fun x hx => Gives.done (by simp) ?_))
      apply c_journal_Journal_Events
      unfold p_journal_Journal_Events
      have hx' := hx
      obtain ⟨rfl, h1⟩ : x = .sl 3 0 J.es.length J.es.length false ∧ True := by
        rcases hx with ⟨h, _⟩ | ⟨_, h, _⟩
        · exact absurd h h0
        · exact ⟨h, trivial⟩
      have hE : (jEvs J.es : AHeap A) = [.cells t_api_Event (J.es.flatMap Ev.row)] := by simp [jEvs, h0]
      rw [hE] at hx' ⊢
      unfold jCells at *
      simp -implicitDefEqProofs
      apply c_slices_Clone_api_Event
      unfold p_slices_Clone_api_Event
      simp -implicitDefEqProofs
      refine app_new (p := 4) (l := J.es) rfl ?_ (by omega) ?_
      · have hl := evs_len J.es
        generalize J.es.flatMap Ev.row = C at *
        have t1 : C.take (J.es.length * 8) = C := List.take_of_length_le (by omega)
        simp [srcOf, cellsAt, AObj.read, hl, t1]
      · rw [if_neg h0]
        simp -implicitDefEqProofs
        have h5 : EvAt (.sl 3 0 J.es.length J.es.length false) J.es 3 (.adt (bk m ts) :: .adt (dk k w dn) :: jCells 0 1 J.boot J.prev (.sl 3 0 J.es.length J.es.length false) J.over :: [.cells t_api_Event (J.es.flatMap Ev.row), .cells t_api_Event [], .cells t_api_Event (J.es.flatMap Ev.row)] : AHeap A) := .inr ⟨h0, rfl, rfl⟩
        exact jrn_shut1 hR hJ (J := J) (q := 5) (o := .cells t_api_Event (J.es.flatMap Ev.row)) (vs2 := [.sl 3 0 J.es.length J.es.length false]) h5 (fun _ => Nat.le_refl _) (book_cl hB _ _) (disk_cl hD _ _ _) (closed_cells (evs_ix 0 _)) rfl (by omega) (fun _ => by omega) (by simp) (fun τ hτ => by simp [rens, AVal.ren, hτ]) (by simp [ixs, AVal.ix]) ⟨_, rfl, rfl, rfl⟩
    refine (Tri.frame hR s (as2 := [.ptr 2 0]) rfl t).mono ?_
    rintro v H ⟨v0, g0, ⟨rfl, rfl⟩, _, rfl, rfl⟩
    have hev : (AObj.cells t_api_Event (J.es.flatMap Ev.row) : AObj A).ren R (at_ [b, d, j] h.length) = .cells t_api_Event (J.es.flatMap Ev.row) := (closed_cells (evs_ix 0 _)).2 _
    simpa [splice, setAll, book_ren hB, disk_ren hD, jrn_ren hJ, AVal.ren, at_, hev, set_same hb, set_same hd, set_same hj] using hk
end
end Go.AI

/- Twins of books, the statements of layer 11. -/
set_option linter.all false
namespace Go.AI
variable {A : Type} {R : Adts A}
section
variable {bk rbk : Int → List Bs → A}
theorem law11_twin_ok (hR : R.Ok) (hB : HasBook R bk) (hB' : HasRBook R rbk) (m : Int) {h : AHeap A} {K : AVal → AHeap A → Prop}
    (hk : if 1 ≤ m ∧ m ≤ 65536 then K (.tup [.ptr h.length 0, .ptr (h.length + 1) 0]) (h ++ [.adt (bk m []), .adt (rbk m [])]) else K (.tup [.nilp, .nilp]) h) : Tri Pr R n_law11_twin [.int .i64 m, .nils] h K := by
  apply c_law11_twin
  unfold p_law11_twin
  refine book_New_ok hR hB m ?_
  by_cases hm : 1 ≤ m ∧ m ≤ 65536
  · rw [if_pos hm] at hk ⊢
    simp
    refine rbook_New_ok hR hB' m ?_
    rw [if_pos hm]
    simp
    refine num14_ok ?_
    simp
    refine loopP_unr 1 ?_
    rw [unr]
    simpa using hk
  · rw [if_neg hm] at hk ⊢
    simp
    refine rbook_New_ok hR hB' m ?_
    rw [if_neg hm]
    simp
    refine num14_ok ?_
    simpa using hk
theorem law11_twins_ok (hR : R.Ok) (hB : HasBook R bk) (hB' : HasRBook R rbk) (m : Int) (a : AVal) (l : List Bs) (ha : IsStrs a l) {h : AHeap A} {K : AVal → AHeap A → Prop}
    (hk : if 1 ≤ m ∧ m ≤ 65536 then ∀ ts, bOk m ts → K (.tup [.ptr h.length 0, .ptr (h.length + 1) 0]) (h ++ [.adt (bk m ts), .adt (rbk m ts)]) else K (.tup [.nilp, .nilp]) h) : Tri Pr R n_law11_twin [.int .i64 m, a] h K := by
  by_cases hm : 1 ≤ m ∧ m ≤ 65536
  · rw [if_pos hm] at hk
    have hok : ∀ i, bOk m (bNames m l i) := fun i => bNames_ok hm l i
    obtain ⟨q, hq⟩ : ∃ q, q = 400 := ⟨_, rfl⟩
    refine Tri.make hR (v0 := .tup [.ptr 0 0, .ptr 1 0]) (h0 := [.adt (bk m (bNames m l (min l.length q))), .adt (rbk m (bNames m l (min l.length q)))]) (by simp [ixs, AVal.ix, ha.ix]) (Tri.post ?_) (by simpa [AVal.ren, rens, AObj.ren, hB.ren, hB'.ren] using hk _ (hok _))
    apply c_law11_twin
    unfold p_law11_twin
    refine book_New_ok hR hB m ?_
    rw [if_pos hm]
    simp -implicitDefEqProofs
    refine rbook_New_ok hR hB' m ?_
    rw [if_pos hm]
    simp -implicitDefEqProofs
    refine num14_ok ?_
    simp -implicitDefEqProofs
    refine loopP_go (TwinI q bk rbk m l) q (Gives.done (by simp) ⟨0, rfl, rfl, by omega, by omega, rfl⟩) ?_
    rintro k y g ⟨i, rfl, rfl, i0, i1, rfl⟩
    have e1 := w64 (n := (i : Int) + 1) (by omega)
    simp -implicitDefEqProofs [ha.len]
    by_cases h1 : i < l.length
    · by_cases h2 : (i : Int) < 400
      · simp -implicitDefEqProofs [h1, h2]
        obtain ⟨bb, oo, cs, hg⟩ := ha.get h1
        simp -implicitDefEqProofs [hg]
        refine book_Name_ok hR hB (hok i) _ rfl ?_
        simp -implicitDefEqProofs [hg]
        refine rbook_Name_ok hR hB' (hok i) _ rfl ?_
        simp -implicitDefEqProofs [e1]
        exact Gives.done (by simp) ⟨q - (i + 1), by omega, i + 1, rfl, by rw [bNames_succ h1], by omega, by omega, rfl⟩
      · have : min l.length q = i := by omega
        simp -implicitDefEqProofs [h1, h2, this]
        exact Gives.done (by simp) ⟨_, rfl, rfl, rfl⟩
    · have : min l.length q = i := by omega
      simp -implicitDefEqProofs [h1, this]
      exact Gives.done (by simp) ⟨_, rfl, rfl, rfl⟩
  · rw [if_neg hm] at hk
    apply c_law11_twin
    unfold p_law11_twin
    refine book_New_ok hR hB m ?_
    rw [if_neg hm]
    simp -implicitDefEqProofs
    refine rbook_New_ok hR hB' m ?_
    rw [if_neg hm]
    simp -implicitDefEqProofs
    refine num14_ok ?_
    simpa using hk
end
end Go.AI
