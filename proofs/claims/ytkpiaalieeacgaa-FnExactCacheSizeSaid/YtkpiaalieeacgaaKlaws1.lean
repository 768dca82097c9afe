/- What the functions come to (laws1). Conditions: none. -/
import Derived.Test.YtkpiaalieeacgaaKmade
set_option linter.unusedSimpArgs false
set_option linter.unusedVariables false
namespace Go.Ev
open Go
theorem c_laws_FnExactCacheSize (xs : List MSlot) (hx : bdL maxLen (MSlot.Bd maxLen) xs) : out run_laws_FnExactCacheSize [.one (encL 2 MSlot.enc xs)] = some [.one (Cell.bool true)] := by
  refine out_of (H := []) (run_laws_FnExactCacheSize_of 0 ?_)
  simp only [laws_FnExactCacheSize, callS_canon, callL_canon, Option.map_some, Option.bind_some, shape_one, shape_agg, shape_nil, cellsAt_0, cellsAt_1, cellsAt_2, cellsAt_3, cells_one, cells_agg, cB_zero, cI_zero, cS_zero, cC_zero, cB_cons, cI_cons, cS_cons, cC_cons, cond_true, cond_false, List.length_cons, List.length_nil, beq_self_eq_true, Bool.and_true, Bool.true_and, lenC_encL, lenC_lst, deref_ref, emptyK_nil, bs_size, bs_toList]
  rw [c_laws_szSlotS _ _ hx (by omega) (by omega)]
  simp only [callS_canon, callL_canon, Option.map_some, Option.bind_some, shape_one, shape_agg, shape_nil, cellsAt_0, cellsAt_1, cellsAt_2, cellsAt_3, cells_one, cells_agg, cB_zero, cI_zero, cS_zero, cC_zero, cB_cons, cI_cons, cS_cons, cC_cons, cond_true, cond_false, List.length_cons, List.length_nil, beq_self_eq_true, Bool.and_true, Bool.true_and, lenC_encL, lenC_lst, deref_ref, emptyK_nil, bs_size, bs_toList, condSz]
  by_cases g : ((wtL MSlot.wt xs : Nat) : Int) ≤ 1048576
  · rw [if_pos g]
    have bx : bdL 1048576 (MSlot.Bd 1048576) xs := bdL_wt hx (by omega) fun y h hw => MSlot.bd_wt h hw
    simp only [c_laws_toSlotS _ bx, c_spec_CacheSize _ bx, c_impl_CacheSize _ bx, c_laws_eqSlotS _ _ bx bx, callS_canon, callL_canon, Option.map_some, Option.bind_some, shape_one, shape_agg, shape_nil, cellsAt_0, cellsAt_1, cellsAt_2, cellsAt_3, cells_one, cells_agg, cB_zero, cI_zero, cS_zero, cC_zero, cB_cons, cI_cons, cS_cons, cC_cons, cond_true, cond_false, List.length_cons, List.length_nil, beq_self_eq_true, Bool.and_true, Bool.true_and, lenC_encL, lenC_lst, deref_ref, emptyK_nil, bs_size, bs_toList]
    simp [c_laws_eqSlotS _ _ bx bx, cB, shapeOk, cellsAt, AV.cells]
  · rw [if_neg g]
end Go.Ev
