/- What the functions come to (laws1). Conditions: none. -/
import Derived.Test.YtkpiaalieeacgaaKtask
set_option linter.unusedSimpArgs false
set_option linter.unusedVariables false
namespace Go.Ev
open Go
theorem c_laws_FnExactPlanOk (x : MPlan) (hx : x.Bd maxLen) : out run_laws_FnExactPlanOk [.agg [strsC x.Tasks, encL 1 eStrs x.Deps]] = some [.one (Cell.bool true)] := by
  refine out_of (H := []) (run_laws_FnExactPlanOk_of 0 ?_)
  simp only [laws_FnExactPlanOk, callS_canon, callL_canon, Option.map_some, Option.bind_some, shape_one, shape_agg, shape_nil, cellsAt_0, cellsAt_1, cellsAt_2, cellsAt_3, cells_one, cells_agg, cB_zero, cI_zero, cS_zero, cC_zero, cB_cons, cI_cons, cS_cons, cC_cons, cond_true, cond_false, List.length_cons, List.length_nil, beq_self_eq_true, Bool.and_true, Bool.true_and, lenC_encL, lenC_lst, deref_ref, emptyK_nil, bs_size, bs_toList]
  rw [c_laws_szPlan _ _ hx (by omega) (by omega)]
  simp only [callS_canon, callL_canon, Option.map_some, Option.bind_some, shape_one, shape_agg, shape_nil, cellsAt_0, cellsAt_1, cellsAt_2, cellsAt_3, cells_one, cells_agg, cB_zero, cI_zero, cS_zero, cC_zero, cB_cons, cI_cons, cS_cons, cC_cons, cond_true, cond_false, List.length_cons, List.length_nil, beq_self_eq_true, Bool.and_true, Bool.true_and, lenC_encL, lenC_lst, deref_ref, emptyK_nil, bs_size, bs_toList, condSz]
  by_cases g : ((x.wt : Nat) : Int) ≤ 1048576
  · rw [if_pos g]
    have bx := MPlan.bd_wt (N := 1048576) hx (by omega)
    simp only [c_laws_toPlan _ bx, c_spec_PlanOk _ bx, c_impl_PlanOk _ bx, callS_canon, callL_canon, Option.map_some, Option.bind_some, shape_one, shape_agg, shape_nil, cellsAt_0, cellsAt_1, cellsAt_2, cellsAt_3, cells_one, cells_agg, cB_zero, cI_zero, cS_zero, cC_zero, cB_cons, cI_cons, cS_cons, cC_cons, cond_true, cond_false, List.length_cons, List.length_nil, beq_self_eq_true, Bool.and_true, Bool.true_and, lenC_encL, lenC_lst, deref_ref, emptyK_nil, bs_size, bs_toList]
    simp [c_laws_eqPlan _ _ bx bx, cB, shapeOk, cellsAt, AV.cells]
  · rw [if_neg g]

end Go.Ev
