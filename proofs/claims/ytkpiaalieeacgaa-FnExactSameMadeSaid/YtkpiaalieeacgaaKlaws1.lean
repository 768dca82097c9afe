/- What the functions come to (laws1). Conditions: none. -/
import Derived.Test.YtkpiaalieeacgaaKmade
set_option linter.unusedSimpArgs false
set_option linter.unusedVariables false
namespace Go.Ev
open Go
theorem c_laws_FnExactSameMade (x y : MMade) (hx : x.Bd maxLen) (hy : y.Bd maxLen) : out run_laws_FnExactSameMade [.agg [Cell.str (bs x.Task), encL 2 MFile.enc x.Outs, Cell.str (bs x.Log)], .agg [Cell.str (bs y.Task), encL 2 MFile.enc y.Outs, Cell.str (bs y.Log)]] = some [.one (Cell.bool true)] := by
  refine out_of (H := []) (run_laws_FnExactSameMade_of 0 ?_)
  simp only [laws_FnExactSameMade, callS_canon, callL_canon, Option.map_some, Option.bind_some, shape_one, shape_agg, shape_nil, cellsAt_0, cellsAt_1, cellsAt_2, cellsAt_3, cells_one, cells_agg, cB_zero, cI_zero, cS_zero, cC_zero, cB_cons, cI_cons, cS_cons, cC_cons, cond_true, cond_false, List.length_cons, List.length_nil, beq_self_eq_true, Bool.and_true, Bool.true_and, lenC_encL, lenC_lst, deref_ref, emptyK_nil, bs_size, bs_toList]
  rw [c_laws_szMade _ _ hx (by omega) (by omega)]
  simp only [callS_canon, callL_canon, Option.map_some, Option.bind_some, shape_one, shape_agg, shape_nil, cellsAt_0, cellsAt_1, cellsAt_2, cellsAt_3, cells_one, cells_agg, cB_zero, cI_zero, cS_zero, cC_zero, cB_cons, cI_cons, cS_cons, cC_cons, cond_true, cond_false, List.length_cons, List.length_nil, beq_self_eq_true, Bool.and_true, Bool.true_and, lenC_encL, lenC_lst, deref_ref, emptyK_nil, bs_size, bs_toList, condSz]
  by_cases g : ((x.wt : Nat) : Int) ≤ 1048576
  · rw [if_pos g, szI_pos g, c_laws_szMade _ _ hy (by omega) (by omega)]
    simp only [callS_canon, callL_canon, Option.map_some, Option.bind_some, shape_one, shape_agg, shape_nil, cellsAt_0, cellsAt_1, cellsAt_2, cellsAt_3, cells_one, cells_agg, cB_zero, cI_zero, cS_zero, cC_zero, cB_cons, cI_cons, cS_cons, cC_cons, cond_true, cond_false, List.length_cons, List.length_nil, beq_self_eq_true, Bool.and_true, Bool.true_and, lenC_encL, lenC_lst, deref_ref, emptyK_nil, bs_size, bs_toList, condSz]
    by_cases g2 : ((y.wt : Nat) : Int) ≤ 1048576 - ((x.wt : Nat) : Int)
    · rw [if_pos g2]
      have bx := MMade.bd_wt (N := 1048576) hx (by omega)
      have by' := MMade.bd_wt (N := 1048576) hy (by omega)
      simp only [c_laws_toMade _ bx, c_laws_toMade _ by', c_spec_SameMade _ _ bx, c_impl_SameMade _ _ bx, callS_canon, callL_canon, Option.map_some, Option.bind_some, shape_one, shape_agg, shape_nil, cellsAt_0, cellsAt_1, cellsAt_2, cellsAt_3, cells_one, cells_agg, cB_zero, cI_zero, cS_zero, cC_zero, cB_cons, cI_cons, cS_cons, cC_cons, cond_true, cond_false, List.length_cons, List.length_nil, beq_self_eq_true, Bool.and_true, Bool.true_and, lenC_encL, lenC_lst, deref_ref, emptyK_nil, bs_size, bs_toList]
      simp [c_laws_eqMade _ _ bx bx, c_laws_eqMade _ _ by' by', cB, shapeOk, cellsAt, AV.cells]
    · rw [if_neg g2]
  · rw [if_neg g]

end Go.Ev
