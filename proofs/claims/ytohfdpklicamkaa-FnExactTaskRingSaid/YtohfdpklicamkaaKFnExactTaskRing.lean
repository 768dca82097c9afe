/- The law FnExactTaskRing: it answers true. Printed out of its text by a program of this claim. Conditions: none. -/
import Derived.Test.YtohfdpklicamkaaKall
set_option linter.unusedSimpArgs false
set_option linter.unusedVariables false
namespace Go.Ev
open Go
theorem c_laws_FnExactTaskRing (x0 : MPlan) (hx0 : MPlan.Bd maxLen x0) : out run_laws_FnExactTaskRing [.agg [encL 1 eStr x0.Tasks, encL 1 eStrs x0.Deps]] = some [.one (Cell.bool true)] := by
  by_cases g0 : ((MPlan.wt x0 : Nat) : Int) ≤ 1048576
  rotate_left
  · refine out_of (H := []) (run_laws_FnExactTaskRing_of 0 ?_)
    simp only [laws_FnExactTaskRing, lenC_encL, callS_canon, callL_canon, Option.map_some, Option.bind_some, shape_one, shape_agg, shape_nil, cellsAt_0, cellsAt_1, cellsAt_2, cellsAt_3, cells_one, cells_agg, cB_zero, cI_zero, cS_zero, cC_zero, cB_cons, cI_cons, cS_cons, cC_cons, cond_true, cond_false, List.length_cons, List.length_nil, beq_self_eq_true, Bool.and_true, Bool.true_and, lenC_encL, lenC_lst, deref_ref, emptyK_nil, bs_size, bs_toList]
    rw [c_laws_szPlan _ _ hx0 (by omega) (by omega)]
    simp only [callS_canon, callL_canon, Option.map_some, Option.bind_some, shape_one, shape_agg, shape_nil, cellsAt_0, cellsAt_1, cellsAt_2, cellsAt_3, cells_one, cells_agg, cB_zero, cI_zero, cS_zero, cC_zero, cB_cons, cI_cons, cS_cons, cC_cons, cond_true, cond_false, List.length_cons, List.length_nil, beq_self_eq_true, Bool.and_true, Bool.true_and, lenC_encL, lenC_lst, deref_ref, emptyK_nil, bs_size, bs_toList, condSz]
    rw [if_neg g0]
  have b0 : MPlan.Bd 1048576 x0 := MPlan.bd_wt hx0 (by omega : MPlan.wt (x0) ≤ 1048576)
  have u0 : MPlan.wt x0 ≤ 1048576 := by omega
  have bw := b_TaskRing x0 b0 u0
  have spec := c_spec_TaskRing x0 b0 u0
  have impl := f_impl_TaskRing x0 b0 u0
  generalize hw : m_TaskRing x0 = w at bw spec impl
  have bm : bdL maxLen (bdS maxLen) w := (by have hM := maxLen_eq; exact (bdL_mono bw (by omega) fun y hy => (Nat.le_trans hy (by omega))))
  obtain ⟨cs1, E1, i1, e1, r1, w1, _⟩ := freshA (f_laws_toPlan x0 b0) (([] : List Entry)) (mapO_canon [.agg [encL 1 eStr x0.Tasks, encL 1 eStrs x0.Deps]] _ _)
  obtain ⟨c1_0, c1_1, rfl⟩ := MPlan.open r1
  obtain ⟨H2, z2, e2⟩ := callL_reps (run := run_spec_TaskRing) (n := 3) (by omega) (Sp.cons (P := RepA (([] : List Entry) ++ E1) true true 3) (a := AV.agg [c1_0, c1_1]) (b := AT.agg (MPlan.tr x0)) (Rep.more2 (m := 3) r1 (by omega)) .nil)
  have e2 : callL run_spec_TaskRing [.agg [c1_0, c1_1]] (([] : List Entry) ++ E1) = some ([.one (encL 1 eStr w)], H2) := by
    rw [e2]
    simp only [AT.av, leaf_cell, trL_cell, List.map_cons, List.map_nil, MCmd.tr, MNeed.tr, MPack.tr, MPlan.tr, MRule.tr]
    rw [spec]
    rfl
  obtain ⟨cs3, E3, i3, e3, r3, w3, _⟩ := freshA (f_laws_toPlan x0 b0) (H2) (mapO_canon [.agg [encL 1 eStr x0.Tasks, encL 1 eStrs x0.Deps]] _ _)
  obtain ⟨c3_0, c3_1, rfl⟩ := MPlan.open r3
  obtain ⟨c4, E4, i4, e4, r4, w4, _⟩ := freshO (impl) (H2 ++ E3) (mapO_c (by have := reify_agg (r3) (by omega); simpa only [leaf_cell, trL_cell, List.map_cons, List.map_nil, MCmd.tr, MNeed.tr, MPack.tr, MPlan.tr, MRule.tr] using this : reifyAV false (H2 ++ E3) (.agg [c3_0, c3_1]) = some (.agg [encL 1 eStr x0.Tasks, encL 1 eStrs x0.Deps])) (mapO_nil' _))
  have r5 := Rep.app2 E4 r3
  have e6 : callS run_laws_eqStringS [.one c4, .one (encL 1 eStr w)] (H2 ++ E3 ++ E4) = some [.one (Cell.bool true)] := by
    rw [callS_of (mapO_c (by have := reify_one (r4) (by omega); simpa only [leaf_cell, trL_cell, List.map_cons, List.map_nil, MCmd.tr, MNeed.tr, MPack.tr, MPlan.tr, MRule.tr] using this : reifyAV false (H2 ++ E3 ++ E4) (.one c4) = some (.one (encL 1 eStr w))) (mapO_c (reifyAV_canon (.one (encL 1 eStr w)) false (H2 ++ E3 ++ E4)) (mapO_nil' _))), c_laws_eqStringS _ _ bw bw]
    simp
  obtain ⟨cs7, E7, i7, e7, r7, w7, _⟩ := freshA (f_laws_toPlan x0 b0) (H2 ++ E3 ++ E4) (mapO_canon [.agg [encL 1 eStr x0.Tasks, encL 1 eStrs x0.Deps]] _ _)
  obtain ⟨c7_0, c7_1, rfl⟩ := MPlan.open r7
  have r8 := Rep.app2 E7 r5
  have r9 := Rep.app E7 r4
  have e10 : callS run_laws_eqPlan [.agg [c3_0, c3_1], .agg [c7_0, c7_1]] (H2 ++ E3 ++ E4 ++ E7) = some [.one (Cell.bool true)] := by
    rw [callS_of (mapO_c (by have := reify_agg (r8) (by omega); simpa only [leaf_cell, trL_cell, List.map_cons, List.map_nil, MCmd.tr, MNeed.tr, MPack.tr, MPlan.tr, MRule.tr] using this : reifyAV false (H2 ++ E3 ++ E4 ++ E7) (.agg [c3_0, c3_1]) = some (.agg [encL 1 eStr x0.Tasks, encL 1 eStrs x0.Deps])) (mapO_c (by have := reify_agg (r7) (by omega); simpa only [leaf_cell, trL_cell, List.map_cons, List.map_nil, MCmd.tr, MNeed.tr, MPack.tr, MPlan.tr, MRule.tr] using this : reifyAV false (H2 ++ E3 ++ E4 ++ E7) (.agg [c7_0, c7_1]) = some (.agg [encL 1 eStr x0.Tasks, encL 1 eStrs x0.Deps])) (mapO_nil' _))), c_laws_eqPlan _ _ b0 b0]
    simp
  have y11 : 1 + x0.cntA ≤ markMax := by
    have := MPlan.cntA_le x0
    unfold markMax
    omega
  obtain ⟨H11, e11, u11, q11⟩ := k_laws_markPlan x0 (1) hx0 r8 w3.nd y11
  have e11 : run_laws_markPlan [.agg [c3_0, c3_1], .one (Cell.int 1)] (H2 ++ E3 ++ E4 ++ E7) = some ([.one (Cell.int ((1 + x0.cntA : Nat) : Int))], H11) := e11
  have r12 := u11.rep r9 (fun j hj h => by have := w4.lo j hj; have := w4.hi j hj; have := w3.lo j h; have := w3.hi j h; have := w3.le; have := w4.le; have := w7.le; omega)
  have n11 : decide (((1 + x0.cntA : Nat) : Int) < 0) = false := decide_eq_false (by omega)
  have e13 : callS run_laws_eqStringS [.one c4, .one (encL 1 eStr w)] (H11) = some [.one (Cell.bool true)] := by
    rw [callS_of (mapO_c (by have := reify_one (r12) (by omega); simpa only [leaf_cell, trL_cell, List.map_cons, List.map_nil, MCmd.tr, MNeed.tr, MPack.tr, MPlan.tr, MRule.tr] using this : reifyAV false (H11) (.one c4) = some (.one (encL 1 eStr w))) (mapO_c (reifyAV_canon (.one (encL 1 eStr w)) false (H11)) (mapO_nil' _))), c_laws_eqStringS _ _ bw bw]
    simp
  have kw : 1 + cntL one1 w ≤ markMax := by
    have := cnt_TaskRing x0 b0 u0
    rw [hw] at this
    unfold markMax
    omega
  have y14 := kw
  obtain ⟨H14, e14, u14, q14⟩ := k_laws_markStringS w (1) bm r12 w4.nd y14
  have e14 : run_laws_markStringS [.one c4, .one (Cell.int 1)] (H11) = some ([.one (Cell.int ((1 + cntL one1 w : Nat) : Int))], H14) := e14
  have n14 : decide (((1 + cntL one1 w : Nat) : Int) < 0) = false := decide_eq_false (by omega)
  have e15 : callS run_laws_heldStringS [.one c4, .one (Cell.int 1)] (H14) = some [.one (Cell.int ((1 + cntL one1 w : Nat) : Int))] := by
    rw [callS_of (mapO_c (by have := reify_one (q14) (by omega); simpa only [leaf_cell, trL_cell, List.map_cons, List.map_nil, MCmd.tr, MNeed.tr, MPack.tr, MPlan.tr, MRule.tr] using this : reifyAV false (H14) (.one c4) = some (.one (encL 1 eStr (mkL mkStr one1 w (1))))) (mapO_c (reifyAV_canon (.one (Cell.int 1)) false (H14)) (mapO_nil' _)))]
    exact e_laws_heldStringS w (1) bm kw
  obtain ⟨cs16, E16, i16, e16, r16, w16, _⟩ := freshA (f_laws_toPlan x0 b0) (H14) (mapO_canon [.agg [encL 1 eStr x0.Tasks, encL 1 eStrs x0.Deps]] _ _)
  obtain ⟨c16_0, c16_1, rfl⟩ := MPlan.open r16
  have r17 := Rep.app E16 q14
  obtain ⟨c18, E18, i18, e18, r18, w18, _⟩ := freshO (impl) (H14 ++ E16) (mapO_c (by have := reify_agg (r16) (by omega); simpa only [leaf_cell, trL_cell, List.map_cons, List.map_nil, MCmd.tr, MNeed.tr, MPack.tr, MPlan.tr, MRule.tr] using this : reifyAV false (H14 ++ E16) (.agg [c16_0, c16_1]) = some (.agg [encL 1 eStr x0.Tasks, encL 1 eStrs x0.Deps])) (mapO_nil' _))
  have r19 := Rep.app E18 r17
  have r20 := Rep.app2 E18 r16
  have e21 : callS run_laws_eqStringS [.one c18, .one (encL 1 eStr w)] (H14 ++ E16 ++ E18) = some [.one (Cell.bool true)] := by
    rw [callS_of (mapO_c (by have := reify_one (r18) (by omega); simpa only [leaf_cell, trL_cell, List.map_cons, List.map_nil, MCmd.tr, MNeed.tr, MPack.tr, MPlan.tr, MRule.tr] using this : reifyAV false (H14 ++ E16 ++ E18) (.one c18) = some (.one (encL 1 eStr w))) (mapO_c (reifyAV_canon (.one (encL 1 eStr w)) false (H14 ++ E16 ++ E18)) (mapO_nil' _))), c_laws_eqStringS _ _ bw bw]
    simp
  have e22 : callS run_laws_heldStringS [.one c4, .one (Cell.int 1)] (H14 ++ E16 ++ E18) = some [.one (Cell.int ((1 + cntL one1 w : Nat) : Int))] := by
    rw [callS_of (mapO_c (by have := reify_one (r19) (by omega); simpa only [leaf_cell, trL_cell, List.map_cons, List.map_nil, MCmd.tr, MNeed.tr, MPack.tr, MPlan.tr, MRule.tr] using this : reifyAV false (H14 ++ E16 ++ E18) (.one c4) = some (.one (encL 1 eStr (mkL mkStr one1 w (1))))) (mapO_c (reifyAV_canon (.one (Cell.int 1)) false (H14 ++ E16 ++ E18)) (mapO_nil' _)))]
    exact e_laws_heldStringS w (1) bm kw
  refine out_of (H := H14 ++ E16 ++ E18) (run_laws_FnExactTaskRing_of 0 ?_)
  simp only [laws_FnExactTaskRing, lenC_encL, callS_canon, callL_canon, Option.map_some, Option.bind_some, shape_one, shape_agg, shape_nil, cellsAt_0, cellsAt_1, cellsAt_2, cellsAt_3, cells_one, cells_agg, cB_zero, cI_zero, cS_zero, cC_zero, cB_cons, cI_cons, cS_cons, cC_cons, cond_true, cond_false, List.length_cons, List.length_nil, beq_self_eq_true, Bool.and_true, Bool.true_and, lenC_encL, lenC_lst, deref_ref, emptyK_nil, bs_size, bs_toList]
  rw [c_laws_szPlan _ _ hx0 (by omega) (by omega)]
  simp only [callS_canon, callL_canon, Option.map_some, Option.bind_some, shape_one, shape_agg, shape_nil, cellsAt_0, cellsAt_1, cellsAt_2, cellsAt_3, cells_one, cells_agg, cB_zero, cI_zero, cS_zero, cC_zero, cB_cons, cI_cons, cS_cons, cC_cons, cond_true, cond_false, List.length_cons, List.length_nil, beq_self_eq_true, Bool.and_true, Bool.true_and, lenC_encL, lenC_lst, deref_ref, emptyK_nil, bs_size, bs_toList, condSz]
  rw [if_pos g0]
  refine bind_st e1 ?_
  repeat (first | with_reducible refine cond_sf n11 ?_ | with_reducible refine cond_sf n14 ?_ | refine cond_shape rfl ?_ | refine bind_cC rfl ?_ | refine bind_cS rfl ?_ | refine bind_cB rfl ?_ | refine bind_cI rfl ?_ | with_reducible refine cond_nb ?_ | with_reducible refine cond_bn ?_ | refine cond_sf rfl ?_)
  refine bind_st e2 ?_
  repeat (first | with_reducible refine cond_sf n11 ?_ | with_reducible refine cond_sf n14 ?_ | refine cond_shape rfl ?_ | refine bind_cC rfl ?_ | refine bind_cS rfl ?_ | refine bind_cB rfl ?_ | refine bind_cI rfl ?_ | with_reducible refine cond_nb ?_ | with_reducible refine cond_bn ?_ | refine cond_sf rfl ?_)
  refine bind_st e3 ?_
  repeat (first | with_reducible refine cond_sf n11 ?_ | with_reducible refine cond_sf n14 ?_ | refine cond_shape rfl ?_ | refine bind_cC rfl ?_ | refine bind_cS rfl ?_ | refine bind_cB rfl ?_ | refine bind_cI rfl ?_ | with_reducible refine cond_nb ?_ | with_reducible refine cond_bn ?_ | refine cond_sf rfl ?_)
  refine bind_st e4 ?_
  repeat (first | with_reducible refine cond_sf n11 ?_ | with_reducible refine cond_sf n14 ?_ | refine cond_shape rfl ?_ | refine bind_cC rfl ?_ | refine bind_cS rfl ?_ | refine bind_cB rfl ?_ | refine bind_cI rfl ?_ | with_reducible refine cond_nb ?_ | with_reducible refine cond_bn ?_ | refine cond_sf rfl ?_)
  refine bind_st e6 ?_
  repeat (first | with_reducible refine cond_sf n11 ?_ | with_reducible refine cond_sf n14 ?_ | refine cond_shape rfl ?_ | refine bind_cC rfl ?_ | refine bind_cS rfl ?_ | refine bind_cB rfl ?_ | refine bind_cI rfl ?_ | with_reducible refine cond_nb ?_ | with_reducible refine cond_bn ?_ | refine cond_sf rfl ?_)
  refine bind_st e7 ?_
  repeat (first | with_reducible refine cond_sf n11 ?_ | with_reducible refine cond_sf n14 ?_ | refine cond_shape rfl ?_ | refine bind_cC rfl ?_ | refine bind_cS rfl ?_ | refine bind_cB rfl ?_ | refine bind_cI rfl ?_ | with_reducible refine cond_nb ?_ | with_reducible refine cond_bn ?_ | refine cond_sf rfl ?_)
  refine bind_st e10 ?_
  repeat (first | with_reducible refine cond_sf n11 ?_ | with_reducible refine cond_sf n14 ?_ | refine cond_shape rfl ?_ | refine bind_cC rfl ?_ | refine bind_cS rfl ?_ | refine bind_cB rfl ?_ | refine bind_cI rfl ?_ | with_reducible refine cond_nb ?_ | with_reducible refine cond_bn ?_ | refine cond_sf rfl ?_)
  refine bind_st e11 ?_
  repeat (first | with_reducible refine cond_sf n11 ?_ | with_reducible refine cond_sf n14 ?_ | refine cond_shape rfl ?_ | refine bind_cC rfl ?_ | refine bind_cS rfl ?_ | refine bind_cB rfl ?_ | refine bind_cI rfl ?_ | with_reducible refine cond_nb ?_ | with_reducible refine cond_bn ?_ | refine cond_sf rfl ?_)
  refine bind_st e13 ?_
  repeat (first | with_reducible refine cond_sf n11 ?_ | with_reducible refine cond_sf n14 ?_ | refine cond_shape rfl ?_ | refine bind_cC rfl ?_ | refine bind_cS rfl ?_ | refine bind_cB rfl ?_ | refine bind_cI rfl ?_ | with_reducible refine cond_nb ?_ | with_reducible refine cond_bn ?_ | refine cond_sf rfl ?_)
  refine bind_st e14 ?_
  repeat (first | with_reducible refine cond_sf n11 ?_ | with_reducible refine cond_sf n14 ?_ | refine cond_shape rfl ?_ | refine bind_cC rfl ?_ | refine bind_cS rfl ?_ | refine bind_cB rfl ?_ | refine bind_cI rfl ?_ | with_reducible refine cond_nb ?_ | with_reducible refine cond_bn ?_ | refine cond_sf rfl ?_)
  refine bind_st e15 ?_
  repeat (first | with_reducible refine cond_sf n11 ?_ | with_reducible refine cond_sf n14 ?_ | refine cond_shape rfl ?_ | refine bind_cC rfl ?_ | refine bind_cS rfl ?_ | refine bind_cB rfl ?_ | refine bind_cI rfl ?_ | with_reducible refine cond_nb ?_ | with_reducible refine cond_bn ?_ | refine cond_sf rfl ?_)
  refine bind_st e16 ?_
  repeat (first | with_reducible refine cond_sf n11 ?_ | with_reducible refine cond_sf n14 ?_ | refine cond_shape rfl ?_ | refine bind_cC rfl ?_ | refine bind_cS rfl ?_ | refine bind_cB rfl ?_ | refine bind_cI rfl ?_ | with_reducible refine cond_nb ?_ | with_reducible refine cond_bn ?_ | refine cond_sf rfl ?_)
  refine bind_st e18 ?_
  repeat (first | with_reducible refine cond_sf n11 ?_ | with_reducible refine cond_sf n14 ?_ | refine cond_shape rfl ?_ | refine bind_cC rfl ?_ | refine bind_cS rfl ?_ | refine bind_cB rfl ?_ | refine bind_cI rfl ?_ | with_reducible refine cond_nb ?_ | with_reducible refine cond_bn ?_ | refine cond_sf rfl ?_)
  refine bind_st e21 ?_
  repeat (first | with_reducible refine cond_sf n11 ?_ | with_reducible refine cond_sf n14 ?_ | refine cond_shape rfl ?_ | refine bind_cC rfl ?_ | refine bind_cS rfl ?_ | refine bind_cB rfl ?_ | refine bind_cI rfl ?_ | with_reducible refine cond_nb ?_ | with_reducible refine cond_bn ?_ | refine cond_sf rfl ?_)
  refine bind_st e22 ?_
  repeat (first | with_reducible refine cond_sf n11 ?_ | with_reducible refine cond_sf n14 ?_ | refine cond_shape rfl ?_ | refine bind_cC rfl ?_ | refine bind_cS rfl ?_ | refine bind_cB rfl ?_ | refine bind_cI rfl ?_ | with_reducible refine cond_nb ?_ | with_reducible refine cond_bn ?_ | refine cond_sf rfl ?_)
  rfl
end Go.Ev
