/- The law FnExactWantOf: it answers true. Printed out of its text by a program of this claim. Conditions: none. -/
import Derived.Test.YtiocamjonchabaaKwant
set_option linter.unusedSimpArgs false
set_option linter.unusedVariables false
namespace Go.Ev
open Go
theorem c_laws_FnExactWantOf (x0 : List MPack) (x1 : List Str) (x2 : Str) (hx0 : bdL maxLen (MPack.Bd maxLen) x0) (hx1 : bdL maxLen (bdS maxLen) x1) (hx2 : bdS maxLen x2) : out run_laws_FnExactWantOf [.one (encL 4 MPack.enc x0), .one (encL 1 eStr x1), .one (Cell.str (bs x2))] = some [.one (Cell.bool true)] := by
  by_cases g0 : (x2.length : Int) ≤ 1048576
  rotate_left
  · refine out_of (H := []) (run_laws_FnExactWantOf_of 0 ?_)
    simp only [laws_FnExactWantOf, lenC_encL, callS_canon, callL_canon, Option.map_some, Option.bind_some, shape_one, shape_agg, shape_nil, cellsAt_0, cellsAt_1, cellsAt_2, cellsAt_3, cells_one, cells_agg, cB_zero, cI_zero, cS_zero, cC_zero, cB_cons, cI_cons, cS_cons, cC_cons, cond_true, cond_false, List.length_cons, List.length_nil, beq_self_eq_true, Bool.and_true, Bool.true_and, lenC_encL, lenC_lst, deref_ref, emptyK_nil, bs_size, bs_toList]
    rw [decide_eq_true (by omega), cond_true]
  by_cases g1 : ((wtL MPack.wt x0 : Nat) : Int) ≤ 1048576
  rotate_left
  · refine out_of (H := []) (run_laws_FnExactWantOf_of 0 ?_)
    simp only [laws_FnExactWantOf, lenC_encL, callS_canon, callL_canon, Option.map_some, Option.bind_some, shape_one, shape_agg, shape_nil, cellsAt_0, cellsAt_1, cellsAt_2, cellsAt_3, cells_one, cells_agg, cB_zero, cI_zero, cS_zero, cC_zero, cB_cons, cI_cons, cS_cons, cC_cons, cond_true, cond_false, List.length_cons, List.length_nil, beq_self_eq_true, Bool.and_true, Bool.true_and, lenC_encL, lenC_lst, deref_ref, emptyK_nil, bs_size, bs_toList]
    rw [decide_eq_false (by omega), cond_false]
    try simp only [callS_canon, callL_canon, Option.map_some, Option.bind_some, shape_one, shape_agg, shape_nil, cellsAt_0, cellsAt_1, cellsAt_2, cellsAt_3, cells_one, cells_agg, cB_zero, cI_zero, cS_zero, cC_zero, cB_cons, cI_cons, cS_cons, cC_cons, cond_true, cond_false, List.length_cons, List.length_nil, beq_self_eq_true, Bool.and_true, Bool.true_and, lenC_encL, lenC_lst, deref_ref, emptyK_nil, bs_size, bs_toList]
    rw [c_laws_szPackS _ _ hx0 (by omega) (by omega)]
    simp only [callS_canon, callL_canon, Option.map_some, Option.bind_some, shape_one, shape_agg, shape_nil, cellsAt_0, cellsAt_1, cellsAt_2, cellsAt_3, cells_one, cells_agg, cB_zero, cI_zero, cS_zero, cC_zero, cB_cons, cI_cons, cS_cons, cC_cons, cond_true, cond_false, List.length_cons, List.length_nil, beq_self_eq_true, Bool.and_true, Bool.true_and, lenC_encL, lenC_lst, deref_ref, emptyK_nil, bs_size, bs_toList, condSz]
    rw [if_neg g1]
  by_cases g2 : ((wtL wtS x1 : Nat) : Int) ≤ 1048576 - ((wtL MPack.wt x0 : Nat) : Int)
  rotate_left
  · refine out_of (H := []) (run_laws_FnExactWantOf_of 0 ?_)
    simp only [laws_FnExactWantOf, lenC_encL, callS_canon, callL_canon, Option.map_some, Option.bind_some, shape_one, shape_agg, shape_nil, cellsAt_0, cellsAt_1, cellsAt_2, cellsAt_3, cells_one, cells_agg, cB_zero, cI_zero, cS_zero, cC_zero, cB_cons, cI_cons, cS_cons, cC_cons, cond_true, cond_false, List.length_cons, List.length_nil, beq_self_eq_true, Bool.and_true, Bool.true_and, lenC_encL, lenC_lst, deref_ref, emptyK_nil, bs_size, bs_toList]
    rw [decide_eq_false (by omega), cond_false]
    try simp only [callS_canon, callL_canon, Option.map_some, Option.bind_some, shape_one, shape_agg, shape_nil, cellsAt_0, cellsAt_1, cellsAt_2, cellsAt_3, cells_one, cells_agg, cB_zero, cI_zero, cS_zero, cC_zero, cB_cons, cI_cons, cS_cons, cC_cons, cond_true, cond_false, List.length_cons, List.length_nil, beq_self_eq_true, Bool.and_true, Bool.true_and, lenC_encL, lenC_lst, deref_ref, emptyK_nil, bs_size, bs_toList]
    rw [c_laws_szPackS _ _ hx0 (by omega) (by omega)]
    simp only [callS_canon, callL_canon, Option.map_some, Option.bind_some, shape_one, shape_agg, shape_nil, cellsAt_0, cellsAt_1, cellsAt_2, cellsAt_3, cells_one, cells_agg, cB_zero, cI_zero, cS_zero, cC_zero, cB_cons, cI_cons, cS_cons, cC_cons, cond_true, cond_false, List.length_cons, List.length_nil, beq_self_eq_true, Bool.and_true, Bool.true_and, lenC_encL, lenC_lst, deref_ref, emptyK_nil, bs_size, bs_toList, condSz]
    rw [if_pos g1, szI_pos g1]
    try simp only [callS_canon, callL_canon, Option.map_some, Option.bind_some, shape_one, shape_agg, shape_nil, cellsAt_0, cellsAt_1, cellsAt_2, cellsAt_3, cells_one, cells_agg, cB_zero, cI_zero, cS_zero, cC_zero, cB_cons, cI_cons, cS_cons, cC_cons, cond_true, cond_false, List.length_cons, List.length_nil, beq_self_eq_true, Bool.and_true, Bool.true_and, lenC_encL, lenC_lst, deref_ref, emptyK_nil, bs_size, bs_toList]
    rw [c_laws_szStringS _ _ hx1 (by omega) (by omega)]
    simp only [callS_canon, callL_canon, Option.map_some, Option.bind_some, shape_one, shape_agg, shape_nil, cellsAt_0, cellsAt_1, cellsAt_2, cellsAt_3, cells_one, cells_agg, cB_zero, cI_zero, cS_zero, cC_zero, cB_cons, cI_cons, cS_cons, cC_cons, cond_true, cond_false, List.length_cons, List.length_nil, beq_self_eq_true, Bool.and_true, Bool.true_and, lenC_encL, lenC_lst, deref_ref, emptyK_nil, bs_size, bs_toList, condSz]
    rw [if_neg g2]
  have b0 : bdL 1048576 (MPack.Bd 1048576) x0 := bdL_wt (w := MPack.wt) hx0 (by omega : wtL MPack.wt (x0) ≤ 1048576) (fun y h hw => MPack.bd_wt h (hw : MPack.wt (y) ≤ 1048576))
  have b1 : bdL 1048576 (bdS 1048576) x1 := bdL_wt (w := wtS) hx1 (by omega : wtL wtS (x1) ≤ 1048576) (fun y h hw => (show bdS 1048576 (y) from (hw : wtS (y) ≤ 1048576)))
  have b2 : bdS 1048576 x2 := by unfold bdS; omega
  have u0 : wtL MPack.wt x0 ≤ 1048576 := by omega
  have u1 : wtL wtS x1 ≤ 1048576 := by omega
  have u2 := b2
  have bw := b_WantOf x0 b0 u0 x1 b1 u1 x2 b2 u2
  have spec := c_spec_WantOf x0 b0 u0 x1 b1 u1 x2 b2 u2
  have impl := f_impl_WantOf x0 b0 u0 x1 b1 u1 x2 b2 u2
  generalize hw : m_WantOf x0 x1 x2 = w at bw spec impl
  have bm : bdL maxLen (bdS maxLen) w := (by have hM := maxLen_eq; exact (bdL_mono bw (by omega) fun y hy => (Nat.le_trans hy (by omega))))
  obtain ⟨c1, E1, i1, e1, r1, w1, _⟩ := freshO (f_laws_toPackS x0 b0) (([] : List Entry)) (mapO_canon [.one (encL 4 MPack.enc x0)] _ _)
  obtain ⟨c2, E2, i2, e2, r2, w2, _⟩ := freshO (f_laws_toStringS x1 b1) (([] : List Entry) ++ E1) (mapO_canon [.one (encL 1 eStr x1)] _ _)
  have r3 := Rep.app E2 r1
  obtain ⟨H4, z4, e4⟩ := callL_reps (run := run_spec_WantOf) (n := 4) (by omega) (Sp.cons (P := RepA (([] : List Entry) ++ E1 ++ E2) true true 4) (a := AV.one c1) (b := AT.one (trL 4 MPack.tr x0)) (Rep.more (m := 4) r3 (by omega)) (Sp.cons (P := RepA (([] : List Entry) ++ E1 ++ E2) true true 4) (a := AV.one c2) (b := AT.one (trL 1 trStr x1)) (Rep.more (m := 4) r2 (by omega)) (Sp.cons (P := RepA (([] : List Entry) ++ E1 ++ E2) true true 4) (i := []) (a := AV.one (Cell.str (bs x2))) (b := AT.one (.leaf (.string (bs x2)))) (leaf_reps (H := ([] : List Entry) ++ E1 ++ E2) (w := true) (q := true) (n := 3) _) .nil)))
  have e4 : callL run_spec_WantOf [.one c1, .one c2, .one (Cell.str (bs x2))] (([] : List Entry) ++ E1 ++ E2) = some ([.one (encL 1 eStr w)], H4) := by
    rw [e4]
    simp only [AT.av, leaf_cell, trL_cell, List.map_cons, List.map_nil, MCmd.tr, MNeed.tr, MPack.tr, MPlan.tr]
    rw [spec]
    rfl
  obtain ⟨c5, E5, i5, e5, r5, w5, _⟩ := freshO (f_laws_toPackS x0 b0) (H4) (mapO_canon [.one (encL 4 MPack.enc x0)] _ _)
  obtain ⟨c6, E6, i6, e6, r6, w6, _⟩ := freshO (f_laws_toStringS x1 b1) (H4 ++ E5) (mapO_canon [.one (encL 1 eStr x1)] _ _)
  have r7 := Rep.app E6 r5
  obtain ⟨c8, E8, i8, e8, r8, w8, _⟩ := freshO (impl) (H4 ++ E5 ++ E6) (mapO_c (by have := reify_one (r7) (by omega); simpa only [leaf_cell, trL_cell, List.map_cons, List.map_nil, MCmd.tr, MNeed.tr, MPack.tr, MPlan.tr] using this : reifyAV false (H4 ++ E5 ++ E6) (.one c5) = some (.one (encL 4 MPack.enc x0))) (mapO_c (by have := reify_one (r6) (by omega); simpa only [leaf_cell, trL_cell, List.map_cons, List.map_nil, MCmd.tr, MNeed.tr, MPack.tr, MPlan.tr] using this : reifyAV false (H4 ++ E5 ++ E6) (.one c6) = some (.one (encL 1 eStr x1))) (mapO_c (reifyAV_canon (.one (Cell.str (bs x2))) false (H4 ++ E5 ++ E6)) (mapO_nil' _))))
  have r9 := Rep.app E8 r7
  have r10 := Rep.app E8 r6
  have e11 : callS run_laws_eqStringS [.one c8, .one (encL 1 eStr w)] (H4 ++ E5 ++ E6 ++ E8) = some [.one (Cell.bool true)] := by
    rw [callS_of (mapO_c (by have := reify_one (r8) (by omega); simpa only [leaf_cell, trL_cell, List.map_cons, List.map_nil, MCmd.tr, MNeed.tr, MPack.tr, MPlan.tr] using this : reifyAV false (H4 ++ E5 ++ E6 ++ E8) (.one c8) = some (.one (encL 1 eStr w))) (mapO_c (reifyAV_canon (.one (encL 1 eStr w)) false (H4 ++ E5 ++ E6 ++ E8)) (mapO_nil' _))), c_laws_eqStringS _ _ bw bw]
    simp
  obtain ⟨c12, E12, i12, e12, r12, w12, _⟩ := freshO (f_laws_toPackS x0 b0) (H4 ++ E5 ++ E6 ++ E8) (mapO_canon [.one (encL 4 MPack.enc x0)] _ _)
  have r13 := Rep.app E12 r9
  have r14 := Rep.app E12 r10
  have r15 := Rep.app E12 r8
  have e16 : callS run_laws_eqPackS [.one c5, .one c12] (H4 ++ E5 ++ E6 ++ E8 ++ E12) = some [.one (Cell.bool true)] := by
    rw [callS_of (mapO_c (by have := reify_one (r13) (by omega); simpa only [leaf_cell, trL_cell, List.map_cons, List.map_nil, MCmd.tr, MNeed.tr, MPack.tr, MPlan.tr] using this : reifyAV false (H4 ++ E5 ++ E6 ++ E8 ++ E12) (.one c5) = some (.one (encL 4 MPack.enc x0))) (mapO_c (by have := reify_one (r12) (by omega); simpa only [leaf_cell, trL_cell, List.map_cons, List.map_nil, MCmd.tr, MNeed.tr, MPack.tr, MPlan.tr] using this : reifyAV false (H4 ++ E5 ++ E6 ++ E8 ++ E12) (.one c12) = some (.one (encL 4 MPack.enc x0))) (mapO_nil' _))), c_laws_eqPackS _ _ b0 b0]
    simp
  obtain ⟨c17, E17, i17, e17, r17, w17, _⟩ := freshO (f_laws_toStringS x1 b1) (H4 ++ E5 ++ E6 ++ E8 ++ E12) (mapO_canon [.one (encL 1 eStr x1)] _ _)
  have r18 := Rep.app E17 r13
  have r19 := Rep.app E17 r14
  have r20 := Rep.app E17 r15
  have e21 : callS run_laws_eqStringS [.one c6, .one c17] (H4 ++ E5 ++ E6 ++ E8 ++ E12 ++ E17) = some [.one (Cell.bool true)] := by
    rw [callS_of (mapO_c (by have := reify_one (r19) (by omega); simpa only [leaf_cell, trL_cell, List.map_cons, List.map_nil, MCmd.tr, MNeed.tr, MPack.tr, MPlan.tr] using this : reifyAV false (H4 ++ E5 ++ E6 ++ E8 ++ E12 ++ E17) (.one c6) = some (.one (encL 1 eStr x1))) (mapO_c (by have := reify_one (r17) (by omega); simpa only [leaf_cell, trL_cell, List.map_cons, List.map_nil, MCmd.tr, MNeed.tr, MPack.tr, MPlan.tr] using this : reifyAV false (H4 ++ E5 ++ E6 ++ E8 ++ E12 ++ E17) (.one c17) = some (.one (encL 1 eStr x1))) (mapO_nil' _))), c_laws_eqStringS _ _ b1 b1]
    simp
  have y22 : 1 + cntL MPack.cntR x0 ≤ markMax := by
    have := (cntL_le (w := MPack.wt) MPack.cntR_le (x0))
    unfold markMax
    omega
  obtain ⟨H22, e22, u22, q22⟩ := k_laws_markPackS x0 (1) hx0 r18 w5.nd y22
  have e22 : run_laws_markPackS [.one c5, .one (Cell.int 1)] (H4 ++ E5 ++ E6 ++ E8 ++ E12 ++ E17) = some ([.one (Cell.int ((1 + cntL MPack.cntR x0 : Nat) : Int))], H22) := e22
  have r23 := u22.rep r19 (fun j hj h => by have := w6.lo j hj; have := w6.hi j hj; have := w5.lo j h; have := w5.hi j h; have := w5.le; have := w6.le; have := w8.le; have := w12.le; have := w17.le; omega)
  have r24 := u22.rep r20 (fun j hj h => by have := w8.lo j hj; have := w8.hi j hj; have := w5.lo j h; have := w5.hi j h; have := w5.le; have := w6.le; have := w8.le; have := w12.le; have := w17.le; omega)
  have n22 : decide (((1 + cntL MPack.cntR x0 : Nat) : Int) < 0) = false := decide_eq_false (by omega)
  have y25 : 1 + cntL MPack.cntR x0 + cntL one1 x1 ≤ markMax := by
    have := (cntL_le (w := MPack.wt) MPack.cntR_le (x0))
    have := (cntL_le (w := wtS) one1_le (x1))
    unfold markMax
    omega
  obtain ⟨H25, e25, u25, q25⟩ := k_laws_markStringS x1 (1 + cntL MPack.cntR x0) hx1 r23 w6.nd y25
  have e25 : run_laws_markStringS [.one c6, .one (Cell.int ((1 + cntL MPack.cntR x0 : Nat) : Int))] (H22) = some ([.one (Cell.int ((1 + cntL MPack.cntR x0 + cntL one1 x1 : Nat) : Int))], H25) := e25
  have r26 := u25.rep r24 (fun j hj h => by have := w8.lo j hj; have := w8.hi j hj; have := w6.lo j h; have := w6.hi j h; have := w5.le; have := w6.le; have := w8.le; have := w12.le; have := w17.le; omega)
  have n25 : decide (((1 + cntL MPack.cntR x0 + cntL one1 x1 : Nat) : Int) < 0) = false := decide_eq_false (by omega)
  have e27 : callS run_laws_eqStringS [.one c8, .one (encL 1 eStr w)] (H25) = some [.one (Cell.bool true)] := by
    rw [callS_of (mapO_c (by have := reify_one (r26) (by omega); simpa only [leaf_cell, trL_cell, List.map_cons, List.map_nil, MCmd.tr, MNeed.tr, MPack.tr, MPlan.tr] using this : reifyAV false (H25) (.one c8) = some (.one (encL 1 eStr w))) (mapO_c (reifyAV_canon (.one (encL 1 eStr w)) false (H25)) (mapO_nil' _))), c_laws_eqStringS _ _ bw bw]
    simp
  have kw : 1 + cntL one1 w ≤ markMax := by
    have := cnt_WantOf x0 b0 u0 x1 b1 u1 x2 b2 u2
    rw [hw] at this
    unfold markMax
    omega
  have y28 := kw
  obtain ⟨H28, e28, u28, q28⟩ := k_laws_markStringS w (1) bm r26 w8.nd y28
  have e28 : run_laws_markStringS [.one c8, .one (Cell.int 1)] (H25) = some ([.one (Cell.int ((1 + cntL one1 w : Nat) : Int))], H28) := e28
  have n28 : decide (((1 + cntL one1 w : Nat) : Int) < 0) = false := decide_eq_false (by omega)
  have e29 : callS run_laws_heldStringS [.one c8, .one (Cell.int 1)] (H28) = some [.one (Cell.int ((1 + cntL one1 w : Nat) : Int))] := by
    rw [callS_of (mapO_c (by have := reify_one (q28) (by omega); simpa only [leaf_cell, trL_cell, List.map_cons, List.map_nil, MCmd.tr, MNeed.tr, MPack.tr, MPlan.tr] using this : reifyAV false (H28) (.one c8) = some (.one (encL 1 eStr (mkL mkStr one1 w (1))))) (mapO_c (reifyAV_canon (.one (Cell.int 1)) false (H28)) (mapO_nil' _)))]
    exact e_laws_heldStringS w (1) bm kw
  obtain ⟨c30, E30, i30, e30, r30, w30, _⟩ := freshO (f_laws_toPackS x0 b0) (H28) (mapO_canon [.one (encL 4 MPack.enc x0)] _ _)
  have r31 := Rep.app E30 q28
  obtain ⟨c32, E32, i32, e32, r32, w32, _⟩ := freshO (f_laws_toStringS x1 b1) (H28 ++ E30) (mapO_canon [.one (encL 1 eStr x1)] _ _)
  have r33 := Rep.app E32 r31
  have r34 := Rep.app E32 r30
  obtain ⟨c35, E35, i35, e35, r35, w35, _⟩ := freshO (impl) (H28 ++ E30 ++ E32) (mapO_c (by have := reify_one (r34) (by omega); simpa only [leaf_cell, trL_cell, List.map_cons, List.map_nil, MCmd.tr, MNeed.tr, MPack.tr, MPlan.tr] using this : reifyAV false (H28 ++ E30 ++ E32) (.one c30) = some (.one (encL 4 MPack.enc x0))) (mapO_c (by have := reify_one (r32) (by omega); simpa only [leaf_cell, trL_cell, List.map_cons, List.map_nil, MCmd.tr, MNeed.tr, MPack.tr, MPlan.tr] using this : reifyAV false (H28 ++ E30 ++ E32) (.one c32) = some (.one (encL 1 eStr x1))) (mapO_c (reifyAV_canon (.one (Cell.str (bs x2))) false (H28 ++ E30 ++ E32)) (mapO_nil' _))))
  have r36 := Rep.app E35 r33
  have r37 := Rep.app E35 r34
  have r38 := Rep.app E35 r32
  have e39 : callS run_laws_eqStringS [.one c35, .one (encL 1 eStr w)] (H28 ++ E30 ++ E32 ++ E35) = some [.one (Cell.bool true)] := by
    rw [callS_of (mapO_c (by have := reify_one (r35) (by omega); simpa only [leaf_cell, trL_cell, List.map_cons, List.map_nil, MCmd.tr, MNeed.tr, MPack.tr, MPlan.tr] using this : reifyAV false (H28 ++ E30 ++ E32 ++ E35) (.one c35) = some (.one (encL 1 eStr w))) (mapO_c (reifyAV_canon (.one (encL 1 eStr w)) false (H28 ++ E30 ++ E32 ++ E35)) (mapO_nil' _))), c_laws_eqStringS _ _ bw bw]
    simp
  have e40 : callS run_laws_heldStringS [.one c8, .one (Cell.int 1)] (H28 ++ E30 ++ E32 ++ E35) = some [.one (Cell.int ((1 + cntL one1 w : Nat) : Int))] := by
    rw [callS_of (mapO_c (by have := reify_one (r36) (by omega); simpa only [leaf_cell, trL_cell, List.map_cons, List.map_nil, MCmd.tr, MNeed.tr, MPack.tr, MPlan.tr] using this : reifyAV false (H28 ++ E30 ++ E32 ++ E35) (.one c8) = some (.one (encL 1 eStr (mkL mkStr one1 w (1))))) (mapO_c (reifyAV_canon (.one (Cell.int 1)) false (H28 ++ E30 ++ E32 ++ E35)) (mapO_nil' _)))]
    exact e_laws_heldStringS w (1) bm kw
  refine out_of (H := H28 ++ E30 ++ E32 ++ E35) (run_laws_FnExactWantOf_of 0 ?_)
  simp only [laws_FnExactWantOf, lenC_encL, callS_canon, callL_canon, Option.map_some, Option.bind_some, shape_one, shape_agg, shape_nil, cellsAt_0, cellsAt_1, cellsAt_2, cellsAt_3, cells_one, cells_agg, cB_zero, cI_zero, cS_zero, cC_zero, cB_cons, cI_cons, cS_cons, cC_cons, cond_true, cond_false, List.length_cons, List.length_nil, beq_self_eq_true, Bool.and_true, Bool.true_and, lenC_encL, lenC_lst, deref_ref, emptyK_nil, bs_size, bs_toList]
  rw [decide_eq_false (by omega), cond_false]
  try simp only [callS_canon, callL_canon, Option.map_some, Option.bind_some, shape_one, shape_agg, shape_nil, cellsAt_0, cellsAt_1, cellsAt_2, cellsAt_3, cells_one, cells_agg, cB_zero, cI_zero, cS_zero, cC_zero, cB_cons, cI_cons, cS_cons, cC_cons, cond_true, cond_false, List.length_cons, List.length_nil, beq_self_eq_true, Bool.and_true, Bool.true_and, lenC_encL, lenC_lst, deref_ref, emptyK_nil, bs_size, bs_toList]
  rw [c_laws_szPackS _ _ hx0 (by omega) (by omega)]
  simp only [callS_canon, callL_canon, Option.map_some, Option.bind_some, shape_one, shape_agg, shape_nil, cellsAt_0, cellsAt_1, cellsAt_2, cellsAt_3, cells_one, cells_agg, cB_zero, cI_zero, cS_zero, cC_zero, cB_cons, cI_cons, cS_cons, cC_cons, cond_true, cond_false, List.length_cons, List.length_nil, beq_self_eq_true, Bool.and_true, Bool.true_and, lenC_encL, lenC_lst, deref_ref, emptyK_nil, bs_size, bs_toList, condSz]
  rw [if_pos g1, szI_pos g1]
  try simp only [callS_canon, callL_canon, Option.map_some, Option.bind_some, shape_one, shape_agg, shape_nil, cellsAt_0, cellsAt_1, cellsAt_2, cellsAt_3, cells_one, cells_agg, cB_zero, cI_zero, cS_zero, cC_zero, cB_cons, cI_cons, cS_cons, cC_cons, cond_true, cond_false, List.length_cons, List.length_nil, beq_self_eq_true, Bool.and_true, Bool.true_and, lenC_encL, lenC_lst, deref_ref, emptyK_nil, bs_size, bs_toList]
  rw [c_laws_szStringS _ _ hx1 (by omega) (by omega)]
  simp only [callS_canon, callL_canon, Option.map_some, Option.bind_some, shape_one, shape_agg, shape_nil, cellsAt_0, cellsAt_1, cellsAt_2, cellsAt_3, cells_one, cells_agg, cB_zero, cI_zero, cS_zero, cC_zero, cB_cons, cI_cons, cS_cons, cC_cons, cond_true, cond_false, List.length_cons, List.length_nil, beq_self_eq_true, Bool.and_true, Bool.true_and, lenC_encL, lenC_lst, deref_ref, emptyK_nil, bs_size, bs_toList, condSz]
  rw [if_pos g2]
  refine bind_st e1 ?_
  repeat (first | with_reducible refine cond_sf n22 ?_ | with_reducible refine cond_sf n25 ?_ | with_reducible refine cond_sf n28 ?_ | refine cond_shape rfl ?_ | refine bind_cC rfl ?_ | refine bind_cS rfl ?_ | refine bind_cB rfl ?_ | refine bind_cI rfl ?_ | with_reducible refine cond_nb ?_ | with_reducible refine cond_bn ?_ | refine cond_sf rfl ?_)
  refine bind_st e2 ?_
  repeat (first | with_reducible refine cond_sf n22 ?_ | with_reducible refine cond_sf n25 ?_ | with_reducible refine cond_sf n28 ?_ | refine cond_shape rfl ?_ | refine bind_cC rfl ?_ | refine bind_cS rfl ?_ | refine bind_cB rfl ?_ | refine bind_cI rfl ?_ | with_reducible refine cond_nb ?_ | with_reducible refine cond_bn ?_ | refine cond_sf rfl ?_)
  refine bind_st e4 ?_
  repeat (first | with_reducible refine cond_sf n22 ?_ | with_reducible refine cond_sf n25 ?_ | with_reducible refine cond_sf n28 ?_ | refine cond_shape rfl ?_ | refine bind_cC rfl ?_ | refine bind_cS rfl ?_ | refine bind_cB rfl ?_ | refine bind_cI rfl ?_ | with_reducible refine cond_nb ?_ | with_reducible refine cond_bn ?_ | refine cond_sf rfl ?_)
  refine bind_st e5 ?_
  repeat (first | with_reducible refine cond_sf n22 ?_ | with_reducible refine cond_sf n25 ?_ | with_reducible refine cond_sf n28 ?_ | refine cond_shape rfl ?_ | refine bind_cC rfl ?_ | refine bind_cS rfl ?_ | refine bind_cB rfl ?_ | refine bind_cI rfl ?_ | with_reducible refine cond_nb ?_ | with_reducible refine cond_bn ?_ | refine cond_sf rfl ?_)
  refine bind_st e6 ?_
  repeat (first | with_reducible refine cond_sf n22 ?_ | with_reducible refine cond_sf n25 ?_ | with_reducible refine cond_sf n28 ?_ | refine cond_shape rfl ?_ | refine bind_cC rfl ?_ | refine bind_cS rfl ?_ | refine bind_cB rfl ?_ | refine bind_cI rfl ?_ | with_reducible refine cond_nb ?_ | with_reducible refine cond_bn ?_ | refine cond_sf rfl ?_)
  refine bind_st e8 ?_
  repeat (first | with_reducible refine cond_sf n22 ?_ | with_reducible refine cond_sf n25 ?_ | with_reducible refine cond_sf n28 ?_ | refine cond_shape rfl ?_ | refine bind_cC rfl ?_ | refine bind_cS rfl ?_ | refine bind_cB rfl ?_ | refine bind_cI rfl ?_ | with_reducible refine cond_nb ?_ | with_reducible refine cond_bn ?_ | refine cond_sf rfl ?_)
  refine bind_st e11 ?_
  repeat (first | with_reducible refine cond_sf n22 ?_ | with_reducible refine cond_sf n25 ?_ | with_reducible refine cond_sf n28 ?_ | refine cond_shape rfl ?_ | refine bind_cC rfl ?_ | refine bind_cS rfl ?_ | refine bind_cB rfl ?_ | refine bind_cI rfl ?_ | with_reducible refine cond_nb ?_ | with_reducible refine cond_bn ?_ | refine cond_sf rfl ?_)
  refine bind_st e12 ?_
  repeat (first | with_reducible refine cond_sf n22 ?_ | with_reducible refine cond_sf n25 ?_ | with_reducible refine cond_sf n28 ?_ | refine cond_shape rfl ?_ | refine bind_cC rfl ?_ | refine bind_cS rfl ?_ | refine bind_cB rfl ?_ | refine bind_cI rfl ?_ | with_reducible refine cond_nb ?_ | with_reducible refine cond_bn ?_ | refine cond_sf rfl ?_)
  refine bind_st e16 ?_
  repeat (first | with_reducible refine cond_sf n22 ?_ | with_reducible refine cond_sf n25 ?_ | with_reducible refine cond_sf n28 ?_ | refine cond_shape rfl ?_ | refine bind_cC rfl ?_ | refine bind_cS rfl ?_ | refine bind_cB rfl ?_ | refine bind_cI rfl ?_ | with_reducible refine cond_nb ?_ | with_reducible refine cond_bn ?_ | refine cond_sf rfl ?_)
  refine bind_st e17 ?_
  repeat (first | with_reducible refine cond_sf n22 ?_ | with_reducible refine cond_sf n25 ?_ | with_reducible refine cond_sf n28 ?_ | refine cond_shape rfl ?_ | refine bind_cC rfl ?_ | refine bind_cS rfl ?_ | refine bind_cB rfl ?_ | refine bind_cI rfl ?_ | with_reducible refine cond_nb ?_ | with_reducible refine cond_bn ?_ | refine cond_sf rfl ?_)
  refine bind_st e21 ?_
  repeat (first | with_reducible refine cond_sf n22 ?_ | with_reducible refine cond_sf n25 ?_ | with_reducible refine cond_sf n28 ?_ | refine cond_shape rfl ?_ | refine bind_cC rfl ?_ | refine bind_cS rfl ?_ | refine bind_cB rfl ?_ | refine bind_cI rfl ?_ | with_reducible refine cond_nb ?_ | with_reducible refine cond_bn ?_ | refine cond_sf rfl ?_)
  refine bind_st e22 ?_
  repeat (first | with_reducible refine cond_sf n22 ?_ | with_reducible refine cond_sf n25 ?_ | with_reducible refine cond_sf n28 ?_ | refine cond_shape rfl ?_ | refine bind_cC rfl ?_ | refine bind_cS rfl ?_ | refine bind_cB rfl ?_ | refine bind_cI rfl ?_ | with_reducible refine cond_nb ?_ | with_reducible refine cond_bn ?_ | refine cond_sf rfl ?_)
  refine bind_st e25 ?_
  repeat (first | with_reducible refine cond_sf n22 ?_ | with_reducible refine cond_sf n25 ?_ | with_reducible refine cond_sf n28 ?_ | refine cond_shape rfl ?_ | refine bind_cC rfl ?_ | refine bind_cS rfl ?_ | refine bind_cB rfl ?_ | refine bind_cI rfl ?_ | with_reducible refine cond_nb ?_ | with_reducible refine cond_bn ?_ | refine cond_sf rfl ?_)
  refine bind_st e27 ?_
  repeat (first | with_reducible refine cond_sf n22 ?_ | with_reducible refine cond_sf n25 ?_ | with_reducible refine cond_sf n28 ?_ | refine cond_shape rfl ?_ | refine bind_cC rfl ?_ | refine bind_cS rfl ?_ | refine bind_cB rfl ?_ | refine bind_cI rfl ?_ | with_reducible refine cond_nb ?_ | with_reducible refine cond_bn ?_ | refine cond_sf rfl ?_)
  refine bind_st e28 ?_
  repeat (first | with_reducible refine cond_sf n22 ?_ | with_reducible refine cond_sf n25 ?_ | with_reducible refine cond_sf n28 ?_ | refine cond_shape rfl ?_ | refine bind_cC rfl ?_ | refine bind_cS rfl ?_ | refine bind_cB rfl ?_ | refine bind_cI rfl ?_ | with_reducible refine cond_nb ?_ | with_reducible refine cond_bn ?_ | refine cond_sf rfl ?_)
  refine bind_st e29 ?_
  repeat (first | with_reducible refine cond_sf n22 ?_ | with_reducible refine cond_sf n25 ?_ | with_reducible refine cond_sf n28 ?_ | refine cond_shape rfl ?_ | refine bind_cC rfl ?_ | refine bind_cS rfl ?_ | refine bind_cB rfl ?_ | refine bind_cI rfl ?_ | with_reducible refine cond_nb ?_ | with_reducible refine cond_bn ?_ | refine cond_sf rfl ?_)
  refine bind_st e30 ?_
  repeat (first | with_reducible refine cond_sf n22 ?_ | with_reducible refine cond_sf n25 ?_ | with_reducible refine cond_sf n28 ?_ | refine cond_shape rfl ?_ | refine bind_cC rfl ?_ | refine bind_cS rfl ?_ | refine bind_cB rfl ?_ | refine bind_cI rfl ?_ | with_reducible refine cond_nb ?_ | with_reducible refine cond_bn ?_ | refine cond_sf rfl ?_)
  refine bind_st e32 ?_
  repeat (first | with_reducible refine cond_sf n22 ?_ | with_reducible refine cond_sf n25 ?_ | with_reducible refine cond_sf n28 ?_ | refine cond_shape rfl ?_ | refine bind_cC rfl ?_ | refine bind_cS rfl ?_ | refine bind_cB rfl ?_ | refine bind_cI rfl ?_ | with_reducible refine cond_nb ?_ | with_reducible refine cond_bn ?_ | refine cond_sf rfl ?_)
  refine bind_st e35 ?_
  repeat (first | with_reducible refine cond_sf n22 ?_ | with_reducible refine cond_sf n25 ?_ | with_reducible refine cond_sf n28 ?_ | refine cond_shape rfl ?_ | refine bind_cC rfl ?_ | refine bind_cS rfl ?_ | refine bind_cB rfl ?_ | refine bind_cI rfl ?_ | with_reducible refine cond_nb ?_ | with_reducible refine cond_bn ?_ | refine cond_sf rfl ?_)
  refine bind_st e39 ?_
  repeat (first | with_reducible refine cond_sf n22 ?_ | with_reducible refine cond_sf n25 ?_ | with_reducible refine cond_sf n28 ?_ | refine cond_shape rfl ?_ | refine bind_cC rfl ?_ | refine bind_cS rfl ?_ | refine bind_cB rfl ?_ | refine bind_cI rfl ?_ | with_reducible refine cond_nb ?_ | with_reducible refine cond_bn ?_ | refine cond_sf rfl ?_)
  refine bind_st e40 ?_
  repeat (first | with_reducible refine cond_sf n22 ?_ | with_reducible refine cond_sf n25 ?_ | with_reducible refine cond_sf n28 ?_ | refine cond_shape rfl ?_ | refine bind_cC rfl ?_ | refine bind_cS rfl ?_ | refine bind_cB rfl ?_ | refine bind_cI rfl ?_ | with_reducible refine cond_nb ?_ | with_reducible refine cond_bn ?_ | refine cond_sf rfl ?_)
  rfl
end Go.Ev
