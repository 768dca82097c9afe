/- What the functions come to (laws1). Conditions: none. -/
import Derived.Test.YtkpiaalieeacgaaKtask
set_option linter.unusedSimpArgs false
set_option linter.unusedVariables false
namespace Go.Ev
open Go
theorem c_laws_FnExactOnOk (s : Str) (hs : bdS maxLen s) : out run_laws_FnExactOnOk [.one (Cell.str (bs s))] = some [.one (Cell.bool true)] := by
  refine out_of (H := []) (run_laws_FnExactOnOk_of 0 ?_)
  simp only [laws_FnExactOnOk, callS_canon, callL_canon, Option.map_some, Option.bind_some, shape_one, shape_agg, shape_nil, cellsAt_0, cellsAt_1, cellsAt_2, cellsAt_3, cells_one, cells_agg, cB_zero, cI_zero, cS_zero, cC_zero, cB_cons, cI_cons, cS_cons, cC_cons, cond_true, cond_false, List.length_cons, List.length_nil, beq_self_eq_true, Bool.and_true, Bool.true_and, lenC_encL, lenC_lst, deref_ref, emptyK_nil, bs_size, bs_toList]
  by_cases g : s.length ≤ 1048576
  · rw [decide_eq_false (by omega), cond_false]
    simp only [c_spec_OnOk s (by omega), c_impl_OnOk s (by omega), callS_canon, callL_canon, Option.map_some, Option.bind_some, shape_one, shape_agg, shape_nil, cellsAt_0, cellsAt_1, cellsAt_2, cellsAt_3, cells_one, cells_agg, cB_zero, cI_zero, cS_zero, cC_zero, cB_cons, cI_cons, cS_cons, cC_cons, cond_true, cond_false, List.length_cons, List.length_nil, beq_self_eq_true, Bool.and_true, Bool.true_and, lenC_encL, lenC_lst, deref_ref, emptyK_nil, bs_size, bs_toList]
    simp
  · rw [decide_eq_true (by omega), cond_true]
end Go.Ev
