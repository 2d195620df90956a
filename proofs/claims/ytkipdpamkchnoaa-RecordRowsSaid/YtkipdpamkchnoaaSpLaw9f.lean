/- RecordRows: the walk. -/
import Derived.Test.YtkipdpamkchnoaaSpLaw9e
set_option linter.all false
namespace Go.AI
variable {A : Type} {R : Adts A}
theorem room_8 {n : Nat} (h : n ≤ 1000) : (2 * n + 1000) * 8 ≤ 140737488355328 := by omega
theorem room_16 {n : Nat} (h : n ≤ 1000) : (2 * n + 1000) * 16 ≤ 140737488355328 := by omega
theorem room_88 {n : Nat} (h : n ≤ 1000) : (2 * n + 1000) * 88 ≤ 140737488355328 := by omega
def RRG (bk : Int → List Bs → A) (rs : List Rec) (ss : List Bs) (x1 x2 x3 : AVal) (g : AHeap A) : Prop :=
  (rs = [] ∧ ss = [] ∧ x1 = .nils ∧ x2 = .nils ∧ x3 = .sl 1 0 1 1 true ∧ g = [.adt (bk 99 []), .cells t_int [.int .i64 0]]) ∨
  (rs ≠ [] ∧ x1 = .sl 2 0 rs.length rs.length false ∧ x2 = .sl 3 0 rs.length rs.length false ∧ x3 = .sl 4 0 (rs.length + 1) (rs.length + 1) false ∧
    g = [.adt (bk 99 (rs.map recT)), .cells t_int [.int .i64 0], .cells t_string (ss.map .str), .cells t_api_Record (rs.flatMap Rec.row), .cells t_int ((prevL rs.length).map (.int .i64))])
def RRI (bk : Int → List Bs → A) (N : Int) (m : Nat) (y : List AVal) (g : AHeap A) : Prop :=
  ∃ (rs : List Rec) (ss : List Bs) (i : Int) (x1 x2 x3 : AVal), y = [x1, x2, x3, .int .i64 i] ∧ RState rs ss ∧ bOk 99 (rs.map recT) ∧ RRG bk rs ss x1 x2 x3 g ∧ rs.length ≤ i ∧ 0 ≤ i ∧ i ≤ 20 ∧ i ≤ N ∧ m = (20 - i).toNat
def RLI (base : AHeap A) (n m : Nat) (y : List AVal) (g : AHeap A) : Prop := ∃ j : Nat, y = [.int .i64 (j : Int)] ∧ j ≤ n ∧ g = base ∧ m = n - j
def RGJ (base : AHeap A) (row : List AVal) (n e : Int) (vs : List AVal) (g : AHeap A) : Prop := vs = [.ptr 5 0, .int .i64 n, .int .i64 e] ∧ g = base ++ [.cells t_api_Record row]
def RBJ (o : AHeap A) (vs : List AVal) (g : AHeap A) : Prop := ∃ b : Int, 1 ≤ b ∧ b ≤ 8 ∧ vs = [.int .i64 b] ∧ g = o
theorem rrow_closed (rs : List Rec) : ixs 0 (rs.flatMap Rec.row) = true := by
  rw [ixs_all]
  induction rs with
  | nil => rfl
  | cons r rs ih => rw [List.flatMap_cons, List.all_append, ih]; rfl
theorem rrow_len (rs : List Rec) : (rs.flatMap Rec.row).length = rs.length * 11 := by
  induction rs with
  | nil => rfl
  | cons r rs ih => rw [List.flatMap_cons, List.length_append, ih, List.length_cons, Nat.succ_mul]; simp [Rec.row, Ev.row]; omega
section
variable {bk rbk : Int → List Bs → A}
theorem book_closed (hB : HasBook R bk) (m : Int) (ts : List Bs) : AObj.closed R (.adt (bk m ts) : AObj A) := ⟨fun n => book_ix hB m ts n, fun τ => book_ren hB m ts τ⟩
theorem RecordRows_ok (hR : R.Ok) (hB : HasBook R bk) (hB' : HasRBook R rbk) (a : AVal) (es : List Ev) (ha : IsRows Ev.row a es) (b : AVal) (bs : List Int) (hb : IsInts b bs) : Tri Pr R n_law9_RecordRows [a, b] [] fun u _ => u = .bool true := by
  apply c_law9_RecordRows
  unfold p_law9_RecordRows
  rw [reps11]
  refine awake9_ok hR hB hB' ?_
  simp -implicitDefEqProofs
  refine book_New_ok hR hB 99 ?_
  rw [if_pos (by omega)]
  simp -implicitDefEqProofs
  refine num14_ok ?_
  simp -implicitDefEqProofs
  refine loopP_go (RRI bk es.length) 20 (Gives.done (by simp) ⟨[], [], 0, _, _, _, rfl, RState.none, bOk_nil (by omega), .inl ⟨rfl, rfl, rfl, rfl, rfl, rfl⟩, by simp, by omega, by omega, by omega, rfl⟩) ?_
  rintro m y g ⟨rs, ss, i, x1, x2, x3, rfl, st, hbo, hG, hri, i0, i20, iN, rfl⟩
  have fw := st.few
  have e1 := w64 (n := i + 1) (by omega)
  simp -implicitDefEqProofs [ha.len]
  refine iteP_of (fun h1 => iteP_of (fun h2 => joinP_go ?_) (fun h2 => ?_)) (fun h1 => ?_)
  · simp at h1 h2
    obtain ⟨ev, eb, eo, ec, hev, hget⟩ := ha.get (w := 8) (fun x => rfl) i0 h1
    have hgo : ∀ (x1 x2 x3 : AVal) (g : AHeap A), RRG bk rs ss x1 x2 x3 g → (∃ m' : Nat, (m' : Int) < 20 - i ∧ RRI bk es.length m' [x1, x2, x3, .int .i64 (i + 1)] g) := fun x1 x2 x3 g hg =>
      ⟨(20 - (i + 1)).toNat, by omega, rs, ss, i + 1, x1, x2, x3, rfl, st, hbo, hg, by omega, by omega, by omega, by omega, rfl⟩
    have hfl : rs.length < 20 := by omega
    have hnew : ∀ (r : Rec) (s : Bs), recMay r = true → r.seq = (rs.length : Int) + 1 → r.prev = prevOf rs.length → s = pad (recBody r ++ nS (rs.length : Int)) →
        ∀ (g : AHeap A) (a b c n : Nat), [0, 1, a, b, c].Nodup → n = rs.length + 1 → g[0]? = some (.adt (bk 99 ((rs ++ [r]).map recT))) → g[1]? = some (.cells t_int [.int .i64 0]) → g[a]? = some (.cells t_string ((ss ++ [s]).map .str)) → g[b]? = some (.cells t_api_Record ((rs ++ [r]).flatMap Rec.row)) →
        g[c]? = some (.cells t_int ((prevL rs.length ++ [(rs.length : Int)]).map (.int .i64))) → Gives Pr R 2 g [.sl a 0 n n false, .sl b 0 n n false, .sl c 0 (n + 1) (n + 1) false, .int .i64 (i + 1)] fun z k => ∃ m' : Nat, (m' : Int) < 20 - i ∧ RRI bk es.length m' z k := by
      rintro r s hm q1 q2 rfl g a b c n nd rfl h0 h1 ha hb hc
      refine Gives.selc hR [0, 1, a, b, c] [.adt (bk 99 ((rs ++ [r]).map recT)), .cells t_int [.int .i64 0], .cells t_string ((ss ++ [pad (recBody r ++ nS (rs.length : Int))]).map .str), .cells t_api_Record ((rs ++ [r]).flatMap Rec.row), .cells t_int ((prevL (rs.length + 1)).map (.int .i64))]
        [.sl 2 0 (rs.length + 1) (rs.length + 1) false, .sl 3 0 (rs.length + 1) (rs.length + 1) false, .sl 4 0 (rs.length + 1 + 1) (rs.length + 1 + 1) false, .int .i64 (i + 1)] nd rfl (fun k hk => ?_) (fun k j hk => ?_) ?_ ?_ rfl (by simp) ?_
      · match k, hk with
        | 0, _ => rfl
        | 1, _ => rfl
      · match k, hk with
        | 0, hk => simp at hk; subst hk; simpa using h0
        | 1, hk => simp at hk; subst hk; simpa using h1
        | 2, hk => simp at hk; subst hk; simpa using ha
        | 3, hk => simp at hk; subst hk; simpa using hb
        | 4, hk => simp at hk; subst hk; rw [prevL_snoc]; simpa using hc
        | k + 5, hk => simp at hk
      · intro o ho
        simp only [List.mem_cons, List.not_mem_nil, or_false] at ho
        rcases ho with rfl | rfl | rfl | rfl | rfl
        · exact book_closed hB _ _
        · exact closed_cells rfl
        · exact closed_cells (by simp [ixs_all, AVal.ix])
        · exact closed_cells (rrow_closed _)
        · exact closed_cells (by simp [ixs_all, AVal.ix])
      · simp [rens, AVal.ren, at_]
      · exact ⟨(20 - (i + 1)).toNat, by omega, rs ++ [r], _, i + 1, _, _, _, rfl, st.snoc hm q1 q2 hfl, bOk_rput hbo (st.put hm q1 hfl), .inr ⟨by simp, by simp, by simp, by simp, by simp⟩, by simp; omega, by omega, by omega, by omega, rfl⟩
    refine joinP_all (RBJ g) ?_ ?_
    · simp -implicitDefEqProofs [hb.len]
      refine iteP_of (fun h3 => ?_) (fun h3 => ⟨1, by omega, by omega, rfl, rfl⟩)
      simp at h3
      obtain ⟨bb, bo, bc, hbg⟩ := hb.get i0 h3
      generalize bs.getD i.toNat 0 = b0 at hbg
      simp -implicitDefEqProofs [hbg]
      rw [bits_mask b0 3 (by omega) 7 (by decide)]
      exact ⟨1 + b0 % 2 ^ 3, by omega, by omega, by rw [w64 (by omega)], rfl⟩
    · rintro vs _ ⟨boot, bo1, bo8, rfl, rfl⟩
      have e2 := w64 (n := (rs.length : Int) + 1) (by omega)
      rcases hG with ⟨hrs, hss, rfl, rfl, rfl, rfl⟩ | ⟨hne, rfl, rfl, rfl, rfl⟩
      · refine ⟨by simp, ?_⟩
        have b0 : bOk 99 [] := bOk_nil (by omega)
        simp -implicitDefEqProofs [hget, Ev.row]
        by_cases hm : recMay ⟨1, boot, 0, ev⟩ = true
        · have k1 := st.put hm (by rw [hrs]; rfl) hfl
          have hn := hnew _ _ hm (by rw [hrs]; rfl) (by rw [hrs]; rfl) rfl
          obtain ⟨s, hs⟩ : ∃ s, pad (recBody ⟨1, boot, 0, ev⟩ ++ nS (rs.length : Int)) = s := ⟨_, rfl⟩
          rw [hs] at k1 hn
          rw [hrs] at k1
          refine RPut_at (r := ⟨1, boot, 0, ev⟩) hR hB b0 k1 rfl ?_
          simp -implicitDefEqProofs
          refine num14_ok ?_
          simp -implicitDefEqProofs [appP, appV, srcOf, cellsAt, e1]
          rw [hrs, hss] at hn
          exact hn _ 4 6 8 1 (by decide) rfl rfl rfl rfl rfl rfl
        · have k1 := recPut_bad (m := 99) (ts := []) hm
          refine RPut_at (r := ⟨1, boot, 0, ev⟩) hR hB b0 k1 rfl ?_
          simp -implicitDefEqProofs
          refine num14_ok ?_
          simp -implicitDefEqProofs [e1]
          refine Gives.cut hR (m := 2) (by simp) (by simp) (by simp [ixs, AVal.ix]) ?_ ?_
          · simp only [List.take, List.mem_cons, List.not_mem_nil, or_false]
            rintro o (rfl | rfl)
            · exact book_low hB _ _
            · exact low_cells rfl
          · obtain ⟨m', h5, h6⟩ : ∃ m' : Nat, (m' : Int) < 20 - i ∧ RRI bk es.length m' [.nils, .nils, .sl 1 0 1 1 true, .int .i64 (i + 1)] [.adt (bk 99 []), .cells t_int [.int .i64 0]] := ⟨(20 - (i + 1)).toNat, by omega, rs, ss, i + 1, _, _, _, rfl, st, hbo, .inl ⟨hrs, hss, rfl, rfl, rfl, rfl⟩, by omega, by omega, by omega, by omega, rfl⟩
            exact ⟨m', h5, h6⟩
      · refine ⟨by simp, ?_⟩
        have c3 : ((prevL rs.length).map (AVal.int .i64))[rs.length]? = some (.int .i64 (prevOf rs.length)) := by rw [List.getElem?_map, prevL_get (Nat.le_refl _)]; rfl
        have hl1 : (ss.map AVal.str).length = rs.length := by rw [List.length_map, st.len]
        have hl2 := rrow_len rs
        have hl3 : ((prevL rs.length).map (AVal.int .i64)).length = rs.length + 1 := by rw [List.length_map, prevL_len]
        have hcut : ∀ o ∈ ([.adt (bk 99 (rs.map recT)), .cells t_int [.int .i64 0], .cells t_string (ss.map .str), .cells t_api_Record (rs.flatMap Rec.row), .cells t_int ((prevL rs.length).map (.int .i64))] : AHeap A), o.low R 5 := by
          simp only [List.mem_cons, List.not_mem_nil, or_false]
          rintro o (rfl | rfl | rfl | rfl | rfl)
          · exact book_low hB _ _
          · exact low_cells rfl
          · exact low_cells (by simp [ixs_all, AVal.ix])
          · exact low_cells (ixs_mono (Nat.zero_le _) _ (rrow_closed _))
          · exact low_cells (by simp [ixs_all, AVal.ix])
        have hbad := hgo (.sl 2 0 rs.length rs.length false) (.sl 3 0 rs.length rs.length false) (.sl 4 0 (rs.length + 1) (rs.length + 1) false) _ (.inr ⟨hne, rfl, rfl, rfl, rfl⟩)
        have b0 := hbo
        generalize hn0 : rs.length = n at *
        obtain ⟨C1, hC1⟩ : ∃ C, ss.map AVal.str = C := ⟨_, rfl⟩
        obtain ⟨C2, hC2⟩ : ∃ C, rs.flatMap Rec.row = C := ⟨_, rfl⟩
        obtain ⟨C3, hC3⟩ : ∃ C, (prevL n).map (AVal.int .i64) = C := ⟨_, rfl⟩
        rw [hC1] at hl1
        rw [hC2] at hl2
        rw [hC3] at hl3 c3
        rw [hC1, hC2, hC3] at hcut hbad
        rw [hC1, hC2, hC3]
        have t1 : C1.take n = C1 := List.take_of_length_le (by omega)
        have t2 : C2.take (n * 11) = C2 := List.take_of_length_le (by omega)
        have t3 : C3.take (n + 1) = C3 := List.take_of_length_le (by omega)
        have r1 : (2 * (n + 1) + 1000) * 16 ≤ 140737488355328 := room_16 (by omega)
        have r2 : (2 * (n + 1) + 1000) * 88 ≤ 140737488355328 := room_88 (by omega)
        have r3 : (2 * (n + 1 + 1) + 1000) * 8 ≤ 140737488355328 := room_8 (by omega)
        have n1 : ¬ n + 1 ≤ n := by omega
        have n2 : ¬ n + 1 + 1 ≤ n + 1 := by omega
        obtain ⟨ts, hts⟩ : ∃ t, rs.map recT = t := ⟨_, rfl⟩
        obtain ⟨pv, hpv⟩ : ∃ p, prevOf n = p := ⟨_, rfl⟩
        rw [hpv] at c3
        rw [hts] at b0 hcut hbad ⊢
        have e3 := w64 (n := (n : Int)) (by omega)
        have lt1 : (n : Int) < (n : Int) + 1 := by omega
        simp -implicitDefEqProofs [hget, Ev.row, e2, e3, c3, lt1]
        by_cases hm : recMay ⟨(n : Int) + 1, boot, pv, ev⟩ = true
        · have k1 := st.put hm (by rw [hn0]) (by omega)
          have hn := hnew _ _ hm rfl hpv.symm rfl
          rw [hn0] at k1
          obtain ⟨s, hs⟩ : ∃ s, pad (recBody ⟨(n : Int) + 1, boot, pv, ev⟩ ++ nS (n : Int)) = s := ⟨_, rfl⟩
          rw [hs] at k1 hn
          rw [hts] at k1
          refine RPut_at (r := ⟨(n : Int) + 1, boot, pv, ev⟩) hR hB b0 k1 rfl ?_
          simp -implicitDefEqProofs
          refine num14_ok ?_
          simp -implicitDefEqProofs [appP, appV, srcOf, cellsAt, e1, n1, n2, r1, r2, r3, hl1, hl2, hl3, t1, t2, t3]
          refine hn _ 7 9 11 (n + 1) (by decide) rfl (by simp) rfl ?_ ?_ ?_
          · simp [← hC1]
          · simp [← hC2, Rec.row, Ev.row]
          · simp [← hC3]
        · have k1 := recPut_bad (m := 99) (ts := ts) hm
          refine RPut_at (r := ⟨(n : Int) + 1, boot, pv, ev⟩) hR hB b0 k1 rfl ?_
          simp -implicitDefEqProofs
          refine num14_ok ?_
          simp -implicitDefEqProofs [e1]
          refine Gives.cut hR (m := 5) (by simp) (by simp) (by simp [ixs, AVal.ix]) hcut hbad
  all_goals
    rcases hG with ⟨hrs, hss, rfl, rfl, rfl, rfl⟩ | ⟨hne, rfl, rfl, rfl, rfl⟩
    · simp -implicitDefEqProofs
      refine loopP_unr 1 ?_
      rw [unr]
      simp -implicitDefEqProofs
    · have hl1 : (ss.map AVal.str).length = rs.length := by rw [List.length_map, st.len]
      have hl2 := rrow_len rs
      have c3 : ∀ j, j ≤ rs.length → ((prevL rs.length).map (AVal.int .i64))[j]? = some (.int .i64 (prevOf j)) := fun j hj => by rw [List.getElem?_map, prevL_get hj]; rfl
      have c1 : ∀ (j : Nat) r, rs[j]? = some r → (ss.map AVal.str)[j]? = some (.str (pad (recBody r ++ nS (j : Int)))) := fun j r hj => by rw [List.getElem?_map, st.sec j r hj]; rfl
      have c2 : ∀ (j : Nat) r, rs[j]? = some r → j * 11 + 11 ≤ (rs.flatMap Rec.row).length ∧ ((rs.flatMap Rec.row).drop (j * 11)).take 11 = r.row := fun j r hj => by
        have hj' := (List.getElem?_eq_some_iff.1 hj)
        obtain ⟨hj1, hj2⟩ := hj'
        refine ⟨by rw [hl2]; omega, ?_⟩
        rw [rows_drop (n := 11) (fun x => rfl) rs j hj1, hj2]
        exact List.take_left' rfl
      have hrl : ∀ j, j < rs.length → ∃ r, rs[j]? = some r := fun j hj => ⟨_, List.getElem?_eq_getElem hj⟩
      have hget := fun (i j : Nat) (r : Rec) (hi : rs[i]? = some r) (hj : j < rs.length) => st.get hi hj
      have hsl := fun (i : Nat) (r : Rec) (hi : rs[i]? = some r) => st.sec_len hi
      have hcut : ∀ o ∈ ([.adt (bk 99 (rs.map recT)), .cells t_int [.int .i64 0], .cells t_string (ss.map .str), .cells t_api_Record (rs.flatMap Rec.row), .cells t_int ((prevL rs.length).map (.int .i64))] : AHeap A), o.low R 5 := by
        simp only [List.mem_cons, List.not_mem_nil, or_false]
        rintro o (rfl | rfl | rfl | rfl | rfl)
        · exact book_low hB _ _
        · exact low_cells rfl
        · exact low_cells (by simp [ixs_all, AVal.ix])
        · exact low_cells (ixs_mono (Nat.zero_le _) _ (rrow_closed _))
        · exact low_cells (by simp [ixs_all, AVal.ix])
      obtain ⟨n, hn⟩ : ∃ n, rs.length = n := ⟨_, rfl⟩
      obtain ⟨C1, hC1⟩ : ∃ C, ss.map AVal.str = C := ⟨_, rfl⟩
      obtain ⟨C2, hC2⟩ : ∃ C, rs.flatMap Rec.row = C := ⟨_, rfl⟩
      obtain ⟨C3, hC3⟩ : ∃ C, (prevL rs.length).map (AVal.int .i64) = C := ⟨_, rfl⟩
      obtain ⟨ts, hts⟩ : ∃ t, rs.map recT = t := ⟨_, rfl⟩
      rw [hC1] at hl1 c1
      rw [hC2] at hl2 c2
      rw [hC3] at c3
      rw [hC1, hC2, hC3, hts] at hcut
      rw [hts] at hget
      rw [hC1, hC2, hC3, hts]
      rw [hn] at fw hri hl1 hl2 c3 hrl hget ⊢
      clear hC1 hC2 hC3 hts hbo hne
      refine loopP_go (RLI _ n) n (Gives.done (by simp) ⟨0, rfl, by omega, rfl, by omega⟩) ?_
      rintro m y g ⟨p, rfl, hp, rfl, rfl⟩
      have e2 := w64 (n := (p : Int) + 1) (by omega)
      simp -implicitDefEqProofs
      by_cases hpn : p < n
      · simp -implicitDefEqProofs [hpn]
        refine loopP_go (RLI _ n) n (Gives.done (by simp) ⟨0, rfl, by omega, rfl, by omega⟩) ?_
        rintro m y g ⟨q, rfl, hq, rfl, rfl⟩
        have e3 := w64 (n := (q : Int) + 1) (by omega)
        simp -implicitDefEqProofs
        by_cases hqn : q < n
        · obtain ⟨r, hr⟩ := hrl p hpn
          have g1 := hget p q r hr hqn
          have d1 := c1 p r hr
          have d2 := c2 p r hr
          have d3 := c3 q (by omega)
          have d4 := c3 (p + 1) (by omega)
          have ls := hsl p r hr
          have lt1 : (q : Int) < (n : Int) + 1 := by omega
          have lt2 : (p : Int) + 1 < (n : Int) + 1 := by omega
          have tn : ((p : Int) + 1).toNat = p + 1 := by omega
          simp -implicitDefEqProofs [hqn, hpn, d1, d3, e3, lt1]
          by_cases hpq : p = q
          · subst hpq
            rw [if_pos rfl] at g1
            refine joinP_all (RGJ [.adt (bk 99 ts), .cells t_int [.int .i64 0], .cells t_string C1, .cells t_api_Record C2, .cells t_int C3] r.row p 0) ?_ ?_
            · skip
              refine ⟨?_, ?_⟩
              · refine RGet_at hR hB (by omega) g1 rfl ?_
                simp -implicitDefEqProofs [Rec.row, Ev.row]
                exact ⟨rfl, rfl⟩
              · refine RGet_at hR hB (by omega) g1 rfl ?_
                simp -implicitDefEqProofs [Rec.row, Ev.row]
                exact ⟨rfl, rfl⟩
            · rintro vs _ ⟨rfl, rfl⟩
              refine ⟨by simp, joinP_go ?_⟩
              have hsx := shRec r r
              simp only [Rec.row, Ev.row] at hsx d2
              simp -implicitDefEqProofs [Rec.row, Ev.row]
              refine num14_ok ?_
              have lt0 : (0 : Int) ≤ (p : Int) + 1 := by omega
              have lt3 : (p : Int) < (n : Int) := by omega
              have hpv : prevOf (p + 1) = (p : Int) := by simp [prevOf]
              rw [hpv] at d4
              simp -implicitDefEqProofs [hpn, d2.1, d2.2, hsx, e3, lt2, tn, d4, lt0, lt3]
              refine Gives.cut hR (m := 5) (by simp) (by simp) (by simp [ixs, AVal.ix]) hcut ?_
              exact ⟨n - (p + 1), by omega, p + 1, by simp, by omega, rfl, rfl⟩
          · rw [if_neg hpq] at g1
            refine joinP_all (RGJ [.adt (bk 99 ts), .cells t_int [.int .i64 0], .cells t_string C1, .cells t_api_Record C2, .cells t_int C3] rec0.row 0 901) ?_ ?_
            · skip
              refine ⟨?_, ?_⟩
              · refine RGet_at hR hB (by omega) g1 rfl ?_
                simp -implicitDefEqProofs [Rec.row, Ev.row, rec0, ev0]
                exact ⟨rfl, rfl⟩
              · refine RGet_at hR hB (by omega) g1 rfl ?_
                simp -implicitDefEqProofs [Rec.row, Ev.row, rec0, ev0]
                exact ⟨rfl, rfl⟩
            · rintro vs _ ⟨rfl, rfl⟩
              refine ⟨by simp, joinP_go ?_⟩
              have hpq' : ((p : Int) == (q : Int)) = false := beq_eq_false_iff_ne.2 (by omega)
              have hpq2 : ((p : Int) != (q : Int)) = true := by simp only [bne, hpq']; rfl
              simp -implicitDefEqProofs [Rec.row, Ev.row, hpq', hpq2]
              refine num14_ok ?_
              simp -implicitDefEqProofs [e3]
              refine Gives.cut hR (m := 5) (by simp) (by simp) (by simp [ixs, AVal.ix]) hcut ?_
              exact ⟨n - (q + 1), by omega, q + 1, by simp, by omega, rfl, rfl⟩
        · simp -implicitDefEqProofs [hqn, e2]
          exact Gives.done (by simp) ⟨n - (p + 1), by omega, p + 1, by simp, by omega, rfl, rfl⟩
      · simp -implicitDefEqProofs [hpn]
end
end Go.AI
