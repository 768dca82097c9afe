/- What the functions come to (mark1). Conditions: none. -/
import Derived.Test.YtkpiaalieeacgaaKgraph
set_option linter.unusedSimpArgs false
set_option linter.unusedVariables false
namespace Go.Ev
open Go
theorem c_laws_FnExactDepsOf (x : MPlan) (s : Str) (hx : x.Bd maxLen) (hs : bdS maxLen s) : out run_laws_FnExactDepsOf [.agg [strsC x.Tasks, encL 1 eStrs x.Deps], .one (Cell.str (bs s))] = some [.one (Cell.bool true)] := by
  by_cases g0 : (s.length : Int) ≤ 1048576
  rotate_left
  · refine out_of (H := []) (run_laws_FnExactDepsOf_of 0 ?_)
    simp only [laws_FnExactDepsOf, callS_canon, callL_canon, Option.map_some, Option.bind_some, shape_one, shape_agg, shape_nil, cellsAt_0, cellsAt_1, cellsAt_2, cellsAt_3, cells_one, cells_agg, cB_zero, cI_zero, cS_zero, cC_zero, cB_cons, cI_cons, cS_cons, cC_cons, cond_true, cond_false, List.length_cons, List.length_nil, beq_self_eq_true, Bool.and_true, Bool.true_and, lenC_encL, lenC_lst, deref_ref, emptyK_nil, bs_size, bs_toList]
    rw [decide_eq_true (by omega), cond_true]
  by_cases g : ((x.wt : Nat) : Int) ≤ 1048576
  rotate_left
  · refine out_of (H := []) (run_laws_FnExactDepsOf_of 0 ?_)
    simp only [laws_FnExactDepsOf, callS_canon, callL_canon, Option.map_some, Option.bind_some, shape_one, shape_agg, shape_nil, cellsAt_0, cellsAt_1, cellsAt_2, cellsAt_3, cells_one, cells_agg, cB_zero, cI_zero, cS_zero, cC_zero, cB_cons, cI_cons, cS_cons, cC_cons, cond_true, cond_false, List.length_cons, List.length_nil, beq_self_eq_true, Bool.and_true, Bool.true_and, lenC_encL, lenC_lst, deref_ref, emptyK_nil, bs_size, bs_toList]
    rw [decide_eq_false (by omega), cond_false, c_laws_szPlan _ _ hx (by omega) (by omega)]
    simp only [callS_canon, callL_canon, Option.map_some, Option.bind_some, shape_one, shape_agg, shape_nil, cellsAt_0, cellsAt_1, cellsAt_2, cellsAt_3, cells_one, cells_agg, cB_zero, cI_zero, cS_zero, cC_zero, cB_cons, cI_cons, cS_cons, cC_cons, cond_true, cond_false, List.length_cons, List.length_nil, beq_self_eq_true, Bool.and_true, Bool.true_and, lenC_encL, lenC_lst, deref_ref, emptyK_nil, bs_size, bs_toList, condSz]
    rw [if_neg g]
  have bx := MPlan.bd_wt (N := 1048576) hx (by omega)
  have bw := nextOf_bd x bx s
  have bm : bdL maxLen (bdS maxLen) (nextOf x.Tasks x.Deps s) := bdL_mono bw (by rw [maxLen_eq]; omega) fun y hy => Nat.le_trans hy (by rw [maxLen_eq]; omega)
  have kx : 1 + x.cntA ≤ markMax := by have := x.cntA_le; unfold markMax; omega
  have kw : 1 + cntL one1 (nextOf x.Tasks x.Deps s) ≤ markMax := by rw [cntL_one1]; have := bw.1; unfold markMax; omega
  generalize hw : nextOf x.Tasks x.Deps s = w at bw bm kw
  have hc : ∀ H, mapO (reifyAV false H) [.agg [strsC x.Tasks, encL 1 eStrs x.Deps]] = some [.agg [strsC x.Tasks, encL 1 eStrs x.Deps]] := fun H => mapO_canon _ _ _
  have ha : ∀ {H : List Entry} {ids : List Nat} {a b : Cell}, Sp (Rep H true true 3) ids [a, b] x.tr → reifyAV false H (.agg [a, b]) = some (.agg [strsC x.Tasks, encL 1 eStrs x.Deps]) := by
    intro H ids a b h
    have := reify_agg h (by omega)
    simpa only [MPlan.tr, List.map_cons, List.map_nil, trL_cell] using this
  have hb : ∀ {H : List Entry} {ids : List Nat} {c : Cell} {l : List Str}, Rep H true true 2 ids c (trL 1 trStr l) → reifyAV false H (.one c) = some (.one (strsC l)) := by
    intro H ids c l h
    have := reify_one h (by omega)
    simpa only [trL_cell] using this
  have hstr : ∀ H, reifyAV false H (.one (Cell.str (bs s))) = some (.one (Cell.str (bs s))) := fun H => reifyAV_canon _ _ _
  have hwc : ∀ H, reifyAV false H (.one (strsC w)) = some (.one (strsC w)) := fun H => reifyAV_canon _ _ _
  have hi : ∀ (n : Int) H, reifyAV false H (.one (Cell.int n)) = some (.one (Cell.int n)) := fun n H => reifyAV_canon _ _ _
  have spec := c_spec_DepsOf x bx s
  have impl := f_impl_DepsOf x bx s
  rw [hw] at spec impl
  have eqw : out run_laws_eqStringS [.one (strsC w), .one (strsC w)] = some [.one (Cell.bool true)] := by rw [c_laws_eqStringS _ _ bw bw]; simp
  have eqx : out run_laws_eqPlan [.agg [strsC x.Tasks, encL 1 eStrs x.Deps], .agg [strsC x.Tasks, encL 1 eStrs x.Deps]] = some [.one (Cell.bool true)] := by rw [c_laws_eqPlan _ _ bx bx]; simp
  -- what the reference answers
  obtain ⟨cs0, E0, i0, e0, r0, w0, _⟩ := freshA (f_laws_toPlan x bx) [] (hc _)
  obtain ⟨c0a, c0b, rfl⟩ := MPlan.open r0
  obtain ⟨H1, z1, e1⟩ := callL_reps (run := run_spec_DepsOf) (n := 3) (by omega) (Sp.cons (P := RepA ([] ++ E0) true true 3) (a := AV.agg [c0a, c0b]) (b := AT.agg x.tr) r0 (Sp.cons (i := []) (a := AV.one (Cell.str (bs s))) (b := AT.one (.leaf (.string (bs s)))) (leaf_reps (H := [] ++ E0) (w := true) (q := true) (n := 2) _) .nil))
  have e1 : callL run_spec_DepsOf [.agg [c0a, c0b], .one (Cell.str (bs s))] ([] ++ E0) = some ([.one (strsC w)], H1) := by
    rw [e1]
    simp only [List.map_cons, List.map_nil, AT.av, MPlan.tr, leaf_cell, trL_cell]
    rw [spec]
    rfl
  -- what the program answers
  obtain ⟨cs2, E2, i2, e2, r2, w2, _⟩ := freshA (f_laws_toPlan x bx) H1 (hc _)
  obtain ⟨c2a, c2b, rfl⟩ := MPlan.open r2
  obtain ⟨c3, E3, i3, e3, r3, w3, _⟩ := freshO impl (H1 ++ E2) (mapO_c (ha r2) (mapO_c (hstr _) (mapO_nil' _)))
  have e4 : callS run_laws_eqStringS [.one c3, .one (strsC w)] (H1 ++ E2 ++ E3) = some [.one (Cell.bool true)] := by rw [callS_of (mapO_c (hb r3) (mapO_c (hwc _) (mapO_nil' _))), eqw]
  obtain ⟨cs5, E5, i5, e5, r5, w5, _⟩ := freshA (f_laws_toPlan x bx) (H1 ++ E2 ++ E3) (hc _)
  obtain ⟨c5a, c5b, rfl⟩ := MPlan.open r5
  have r2' := Rep.app2 E5 (Rep.app2 E3 r2)
  have r3' := r3.app E5
  have e6 : callS run_laws_eqPlan [.agg [c2a, c2b], .agg [c5a, c5b]] (H1 ++ E2 ++ E3 ++ E5) = some [.one (Cell.bool true)] := by rw [callS_of (mapO_c (ha r2') (mapO_c (ha r5) (mapO_nil' _))), eqx]
  -- the argument is marked
  obtain ⟨H7, e7, u7, _⟩ := k_laws_markPlan x 1 hx r2' w2.nd kx
  have e7 : run_laws_markPlan [.agg [c2a, c2b], .one (Cell.int 1)] (H1 ++ E2 ++ E3 ++ E5) = some ([.one (Cell.int ((1 + x.cntA : Nat) : Int))], H7) := e7
  have r3'' := u7.rep r3' fun j hj h => by have := w3.lo j hj; have := w2.hi j h; omega
  have e8 : callS run_laws_eqStringS [.one c3, .one (strsC w)] H7 = some [.one (Cell.bool true)] := by rw [callS_of (mapO_c (hb r3'') (mapO_c (hwc _) (mapO_nil' _))), eqw]
  -- the result is marked
  obtain ⟨H9, e9, u9, r9⟩ := k_laws_markStringS w 1 bm r3'' w3.nd kw
  have e9 : run_laws_markStringS [.one c3, .one (Cell.int 1)] H7 = some ([.one (Cell.int ((1 + cntL one1 w : Nat) : Int))], H9) := e9
  have held := e_laws_heldStringS w 1 bm kw
  have e10 : callS run_laws_heldStringS [.one c3, .one (Cell.int 1)] H9 = some [.one (Cell.int ((1 + cntL one1 w : Nat) : Int))] := by rw [callS_of (mapO_c (hb r9) (mapO_c (hi 1 _) (mapO_nil' _)))]; exact held
  -- once more
  obtain ⟨cs11, E11, i11, e11, r11, w11, _⟩ := freshA (f_laws_toPlan x bx) H9 (hc _)
  obtain ⟨c11a, c11b, rfl⟩ := MPlan.open r11
  obtain ⟨c12, E12, i12, e12, r12, w12, _⟩ := freshO impl (H9 ++ E11) (mapO_c (ha r11) (mapO_c (hstr _) (mapO_nil' _)))
  have e13 : callS run_laws_eqStringS [.one c12, .one (strsC w)] (H9 ++ E11 ++ E12) = some [.one (Cell.bool true)] := by rw [callS_of (mapO_c (hb r12) (mapO_c (hwc _) (mapO_nil' _))), eqw]
  have r9' := (r9.app E11).app E12
  have e14 : callS run_laws_heldStringS [.one c3, .one (Cell.int 1)] (H9 ++ E11 ++ E12) = some [.one (Cell.int ((1 + cntL one1 w : Nat) : Int))] := by rw [callS_of (mapO_c (hb r9') (mapO_c (hi 1 _) (mapO_nil' _)))]; exact held
  have k1 : decide (((1 + x.cntA : Nat) : Int) < 0) = false := decide_eq_false (by omega)
  have k2 : decide (((1 + cntL one1 w : Nat) : Int) < 0) = false := decide_eq_false (by omega)
  refine out_of (H := H9 ++ E11 ++ E12) (run_laws_FnExactDepsOf_of 0 ?_)
  simp only [laws_FnExactDepsOf, callS_canon, callL_canon, Option.map_some, Option.bind_some, shape_one, shape_agg, shape_nil, cellsAt_0, cellsAt_1, cellsAt_2, cellsAt_3, cells_one, cells_agg, cB_zero, cI_zero, cS_zero, cC_zero, cB_cons, cI_cons, cS_cons, cC_cons, cond_true, cond_false, List.length_cons, List.length_nil, beq_self_eq_true, Bool.and_true, Bool.true_and, lenC_encL, lenC_lst, deref_ref, emptyK_nil, bs_size, bs_toList]
  rw [decide_eq_false (by omega), cond_false, c_laws_szPlan _ _ hx (by omega) (by omega)]
  simp only [callS_canon, callL_canon, Option.map_some, Option.bind_some, shape_one, shape_agg, shape_nil, cellsAt_0, cellsAt_1, cellsAt_2, cellsAt_3, cells_one, cells_agg, cB_zero, cI_zero, cS_zero, cC_zero, cB_cons, cI_cons, cS_cons, cC_cons, cond_true, cond_false, List.length_cons, List.length_nil, beq_self_eq_true, Bool.and_true, Bool.true_and, lenC_encL, lenC_lst, deref_ref, emptyK_nil, bs_size, bs_toList, condSz]
  rw [if_pos g]
  simp only [e0, e1, e2, e3, e4, e5, e6, e7, e8, e9, e10, e11, e12, e13, e14, k1, k2, bne_self_eq_false, Bool.not_true, callS_canon, callL_canon, Option.map_some, Option.bind_some, shape_one, shape_agg, shape_nil, cellsAt_0, cellsAt_1, cellsAt_2, cellsAt_3, cells_one, cells_agg, cB_zero, cI_zero, cS_zero, cC_zero, cB_cons, cI_cons, cS_cons, cC_cons, cond_true, cond_false, List.length_cons, List.length_nil, beq_self_eq_true, Bool.and_true, Bool.true_and, lenC_encL, lenC_lst, deref_ref, emptyK_nil, bs_size, bs_toList]

end Go.Ev
