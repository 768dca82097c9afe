/- The law FnExactParseLock: it answers true. Printed out of its text by a program of this claim. Conditions: none. -/
import Derived.Test.YtholafaogipaiaaDoorKall
set_option linter.unusedSimpArgs false
set_option linter.unusedVariables false
namespace Go.Ev
open Go
theorem c_laws_FnExactParseLock (x0 : Str) (hx0 : bdS maxLen x0) : out run_laws_FnExactParseLock [.one (Cell.str (bs x0))] = some [.one (Cell.bool true)] := by
  by_cases g0 : (x0.length : Int) ≤ 1048576
  rotate_left
  · refine out_of (H := []) (run_laws_FnExactParseLock_of 0 ?_)
    simp only [laws_FnExactParseLock, lenC_encL, callS_canon, callL_canon, Option.map_some, Option.bind_some, shape_one, shape_agg, shape_nil, cellsAt_0, cellsAt_1, cellsAt_2, cellsAt_3, cells_one, cells_agg, cB_zero, cI_zero, cS_zero, cC_zero, cB_cons, cI_cons, cS_cons, cC_cons, cond_true, cond_false, List.length_cons, List.length_nil, beq_self_eq_true, Bool.and_true, Bool.true_and, lenC_encL, lenC_lst, deref_ref, emptyK_nil, bs_size, bs_toList]
    rw [decide_eq_true (by omega), cond_true]
  have b0 : bdS 1048576 x0 := by unfold bdS; omega
  have bw := b_ParseLock x0 b0
  have spec := c_spec_ParseLock x0 b0
  have impl := f_impl_ParseLock x0 b0
  generalize hw : m_ParseLock x0 = w at bw spec impl
  have bm : bdL maxLen (MPick.Bd maxLen) w.1 := (by have hM := maxLen_eq; exact (bdL_mono bw (by omega) fun y hy => ⟨(Nat.le_trans hy.1 (by omega)), ⟨hy.2.1, hy.2.2.1, hy.2.2.2.1, (bdL_mono hy.2.2.2.2 (by omega) fun y hy => (Nat.le_trans hy (by omega)))⟩⟩))
  have e1 : Option.map (fun xs => (xs, (([] : List Entry) : List Entry))) (outL run_spec_ParseLock [.one (Cell.str (bs x0))]) = some ([.one (encL 5 MPick.enc w.1), .one (Cell.bool w.2)], ([] : List Entry)) := by rw [spec]; rfl
  obtain ⟨c2, E2, i2, e2, r2, w2, _⟩ := freshO1 (impl) (([] : List Entry)) (mapO_c (reifyAV_canon (.one (Cell.str (bs x0))) false (([] : List Entry))) (mapO_nil' _))
  have e3 : callS run_laws_eqPickS [.one c2, .one (encL 5 MPick.enc w.1)] (([] : List Entry) ++ E2) = some [.one (Cell.bool true)] := by
    rw [callS_of (mapO_c (by have := reify_one (r2) (by omega); simpa only [leaf_cell, trL_cell, List.map_cons, List.map_nil, MVer.tr, MPick.tr] using this : reifyAV false (([] : List Entry) ++ E2) (.one c2) = some (.one (encL 5 MPick.enc w.1))) (mapO_c (reifyAV_canon (.one (encL 5 MPick.enc w.1)) false (([] : List Entry) ++ E2)) (mapO_nil' _))), c_laws_eqPickS _ _ bw bw]
    simp
  have kw : 1 + cntL MPick.cntR w.1 ≤ markMax := by
    have := cnt_ParseLock x0 b0
    rw [hw] at this
    unfold markMax
    omega
  have y4 := kw
  obtain ⟨H4, e4, u4, q4⟩ := k_laws_markPickS w.1 (1) bm r2 w2.nd y4
  have e4 : run_laws_markPickS [.one c2, .one (Cell.int 1)] (([] : List Entry) ++ E2) = some ([.one (Cell.int ((1 + cntL MPick.cntR w.1 : Nat) : Int))], H4) := e4
  have n4 : decide (((1 + cntL MPick.cntR w.1 : Nat) : Int) < 0) = false := decide_eq_false (by omega)
  have e5 : callS run_laws_heldPickS [.one c2, .one (Cell.int 1)] (H4) = some [.one (Cell.int ((1 + cntL MPick.cntR w.1 : Nat) : Int))] := by
    rw [callS_of (mapO_c (by have := reify_one (q4) (by omega); simpa only [leaf_cell, trL_cell, List.map_cons, List.map_nil, MVer.tr, MPick.tr] using this : reifyAV false (H4) (.one c2) = some (.one (encL 5 MPick.enc (mkL MPick.mkR MPick.cntR w.1 (1))))) (mapO_c (reifyAV_canon (.one (Cell.int 1)) false (H4)) (mapO_nil' _)))]
    exact e_laws_heldPickS w.1 (1) bm kw
  obtain ⟨c6, E6, i6, e6, r6, w6, _⟩ := freshO1 (impl) (H4) (mapO_c (reifyAV_canon (.one (Cell.str (bs x0))) false (H4)) (mapO_nil' _))
  have r7 := Rep.app E6 q4
  have e8 : callS run_laws_eqPickS [.one c6, .one (encL 5 MPick.enc w.1)] (H4 ++ E6) = some [.one (Cell.bool true)] := by
    rw [callS_of (mapO_c (by have := reify_one (r6) (by omega); simpa only [leaf_cell, trL_cell, List.map_cons, List.map_nil, MVer.tr, MPick.tr] using this : reifyAV false (H4 ++ E6) (.one c6) = some (.one (encL 5 MPick.enc w.1))) (mapO_c (reifyAV_canon (.one (encL 5 MPick.enc w.1)) false (H4 ++ E6)) (mapO_nil' _))), c_laws_eqPickS _ _ bw bw]
    simp
  have e9 : callS run_laws_heldPickS [.one c2, .one (Cell.int 1)] (H4 ++ E6) = some [.one (Cell.int ((1 + cntL MPick.cntR w.1 : Nat) : Int))] := by
    rw [callS_of (mapO_c (by have := reify_one (r7) (by omega); simpa only [leaf_cell, trL_cell, List.map_cons, List.map_nil, MVer.tr, MPick.tr] using this : reifyAV false (H4 ++ E6) (.one c2) = some (.one (encL 5 MPick.enc (mkL MPick.mkR MPick.cntR w.1 (1))))) (mapO_c (reifyAV_canon (.one (Cell.int 1)) false (H4 ++ E6)) (mapO_nil' _)))]
    exact e_laws_heldPickS w.1 (1) bm kw
  refine out_of (H := H4 ++ E6) (run_laws_FnExactParseLock_of 0 ?_)
  simp only [laws_FnExactParseLock, lenC_encL, callS_canon, callL_canon, Option.map_some, Option.bind_some, shape_one, shape_agg, shape_nil, cellsAt_0, cellsAt_1, cellsAt_2, cellsAt_3, cells_one, cells_agg, cB_zero, cI_zero, cS_zero, cC_zero, cB_cons, cI_cons, cS_cons, cC_cons, cond_true, cond_false, List.length_cons, List.length_nil, beq_self_eq_true, Bool.and_true, Bool.true_and, lenC_encL, lenC_lst, deref_ref, emptyK_nil, bs_size, bs_toList]
  rw [decide_eq_false (by omega), cond_false]
  try simp only [callS_canon, callL_canon, Option.map_some, Option.bind_some, shape_one, shape_agg, shape_nil, cellsAt_0, cellsAt_1, cellsAt_2, cellsAt_3, cells_one, cells_agg, cB_zero, cI_zero, cS_zero, cC_zero, cB_cons, cI_cons, cS_cons, cC_cons, cond_true, cond_false, List.length_cons, List.length_nil, beq_self_eq_true, Bool.and_true, Bool.true_and, lenC_encL, lenC_lst, deref_ref, emptyK_nil, bs_size, bs_toList]
  refine bind_st e1 ?_
  repeat (first | with_reducible refine cond_sf n4 ?_ | refine cond_shape rfl ?_ | refine bind_cC rfl ?_ | refine bind_cS rfl ?_ | refine bind_cB rfl ?_ | refine bind_cI rfl ?_ | with_reducible refine cond_nb ?_ | with_reducible refine cond_bn ?_ | refine cond_sf rfl ?_)
  refine bind_st e2 ?_
  repeat (first | with_reducible refine cond_sf n4 ?_ | refine cond_shape rfl ?_ | refine bind_cC rfl ?_ | refine bind_cS rfl ?_ | refine bind_cB rfl ?_ | refine bind_cI rfl ?_ | with_reducible refine cond_nb ?_ | with_reducible refine cond_bn ?_ | refine cond_sf rfl ?_)
  refine bind_st e3 ?_
  repeat (first | with_reducible refine cond_sf n4 ?_ | refine cond_shape rfl ?_ | refine bind_cC rfl ?_ | refine bind_cS rfl ?_ | refine bind_cB rfl ?_ | refine bind_cI rfl ?_ | with_reducible refine cond_nb ?_ | with_reducible refine cond_bn ?_ | refine cond_sf rfl ?_)
  refine bind_st e4 ?_
  repeat (first | with_reducible refine cond_sf n4 ?_ | refine cond_shape rfl ?_ | refine bind_cC rfl ?_ | refine bind_cS rfl ?_ | refine bind_cB rfl ?_ | refine bind_cI rfl ?_ | with_reducible refine cond_nb ?_ | with_reducible refine cond_bn ?_ | refine cond_sf rfl ?_)
  refine bind_st e5 ?_
  repeat (first | with_reducible refine cond_sf n4 ?_ | refine cond_shape rfl ?_ | refine bind_cC rfl ?_ | refine bind_cS rfl ?_ | refine bind_cB rfl ?_ | refine bind_cI rfl ?_ | with_reducible refine cond_nb ?_ | with_reducible refine cond_bn ?_ | refine cond_sf rfl ?_)
  refine bind_st e6 ?_
  repeat (first | with_reducible refine cond_sf n4 ?_ | refine cond_shape rfl ?_ | refine bind_cC rfl ?_ | refine bind_cS rfl ?_ | refine bind_cB rfl ?_ | refine bind_cI rfl ?_ | with_reducible refine cond_nb ?_ | with_reducible refine cond_bn ?_ | refine cond_sf rfl ?_)
  refine bind_st e8 ?_
  repeat (first | with_reducible refine cond_sf n4 ?_ | refine cond_shape rfl ?_ | refine bind_cC rfl ?_ | refine bind_cS rfl ?_ | refine bind_cB rfl ?_ | refine bind_cI rfl ?_ | with_reducible refine cond_nb ?_ | with_reducible refine cond_bn ?_ | refine cond_sf rfl ?_)
  refine bind_st e9 ?_
  repeat (first | with_reducible refine cond_sf n4 ?_ | refine cond_shape rfl ?_ | refine bind_cC rfl ?_ | refine bind_cS rfl ?_ | refine bind_cB rfl ?_ | refine bind_cI rfl ?_ | with_reducible refine cond_nb ?_ | with_reducible refine cond_bn ?_ | refine cond_sf rfl ?_)
  rfl
end Go.Ev
