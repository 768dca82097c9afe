/- What the evaluator says of the functions, each as a Lean function over cells. Printed by a program of this claim. Conditions: none. -/
import Derived.Test.YtkpiaalieeacgaaSh0
import Derived.KernelRfl
namespace Go.Ev
open Go Go.Proofs
set_option maxRecDepth 100000
set_option linter.unusedVariables false
set_option linter.unusedSimpArgs false
noncomputable def pl_laws_FnExactRuleAt : List (Nat × Run) := [(fid_laws_szRuleS, run_laws_szRuleS), (fid_spec_RuleAt, run_spec_RuleAt), (fid_laws_toRuleS, run_laws_toRuleS), (fid_impl_RuleAt, run_impl_RuleAt), (fid_laws_eqRule, run_laws_eqRule), (fid_laws_eqRuleS, run_laws_eqRuleS), (fid_laws_markRuleS, run_laws_markRuleS), (fid_laws_markRule, run_laws_markRule), (fid_laws_heldRule, run_laws_heldRule)]
noncomputable def G_laws_FnExactRuleAt : Ctx := ctx tyTab fiTab pl_laws_FnExactRuleAt
noncomputable def run_laws_FnExactRuleAt : Run := lim G_laws_FnExactRuleAt fid_laws_FnExactRuleAt
theorem ok_laws_FnExactRuleAt : FnOk Try.prog OkT fid_laws_FnExactRuleAt run_laws_FnExactRuleAt := lim_ok (l := pl_laws_FnExactRuleAt) Try_mix tyTab_ok fiTab_ok okT (.cons ok_laws_szRuleS (.cons ok_spec_RuleAt (.cons ok_laws_toRuleS (.cons ok_impl_RuleAt (.cons ok_laws_eqRule (.cons ok_laws_eqRuleS (.cons ok_laws_markRuleS (.cons ok_laws_markRule (.cons ok_laws_heldRule .nil))))))))) fid_laws_FnExactRuleAt
noncomputable def laws_FnExactRuleAt (k m : Nat) (c1 : Cell) (s2 : ByteArray) : Option Res :=
  cond (decide ((s2.size : Int) > 1048576))
  (some ([.one (Cell.bool true)], []))
  ((callS run_laws_szRuleS [.one (c1), .one (Cell.int 1048576)] []).bind fun r3 =>
  cond (shapeOk rk_laws_szRuleS r3)
  ((cI .i64 (cellsAt r3 0) 0).bind fun i4 =>
  cond (decide (i4 < 0))
  (some ([.one (Cell.bool true)], []))
  ((callF run_laws_toRuleS [.one (c1)] []).bind fun r5 =>
  cond (shapeOk rk_laws_toRuleS r5.1)
  ((cC (cellsAt r5.1 0) 0).bind fun c6 =>
  (callL run_spec_RuleAt [.one (c6), .one (Cell.str s2)] r5.2).bind fun r7 =>
  cond (shapeOk rk_spec_RuleAt r7.1)
  ((cS (cellsAt r7.1 0) 0).bind fun s8 =>
  (cC (cellsAt r7.1 0) 1).bind fun c9 =>
  (cC (cellsAt r7.1 0) 2).bind fun c10 =>
  (cC (cellsAt r7.1 0) 3).bind fun c11 =>
  (cB (cellsAt r7.1 0) 4).bind fun b12 =>
  (cB (cellsAt r7.1 1) 0).bind fun b13 =>
  (callF run_laws_toRuleS [.one (c1)] r7.2).bind fun r14 =>
  cond (shapeOk rk_laws_toRuleS r14.1)
  ((cC (cellsAt r14.1 0) 0).bind fun c15 =>
  (callF run_impl_RuleAt [.one (c15), .one (Cell.str s2)] r14.2).bind fun r16 =>
  cond (shapeOk rk_impl_RuleAt r16.1)
  ((cS (cellsAt r16.1 0) 0).bind fun s17 =>
  (cC (cellsAt r16.1 0) 1).bind fun c18 =>
  (cC (cellsAt r16.1 0) 2).bind fun c19 =>
  (cC (cellsAt r16.1 0) 3).bind fun c20 =>
  (cB (cellsAt r16.1 0) 4).bind fun b21 =>
  (cB (cellsAt r16.1 1) 0).bind fun b22 =>
  (callS run_laws_eqRule [.agg [Cell.str s17, c18, c19, c20, Cell.bool b21], .agg [Cell.str s8, c9, c10, c11, Cell.bool b12]] r16.2).bind fun r23 =>
  cond (shapeOk rk_laws_eqRule r23)
  ((cB (cellsAt r23 0) 0).bind fun b24 =>
  cond (!b24)
  (some ([.one (Cell.bool false)], r16.2))
  (cond (!(b22 == b13))
  (some ([.one (Cell.bool false)], r16.2))
  ((callF run_laws_toRuleS [.one (c1)] r16.2).bind fun r25 =>
  cond (shapeOk rk_laws_toRuleS r25.1)
  ((cC (cellsAt r25.1 0) 0).bind fun c26 =>
  (callS run_laws_eqRuleS [.one (c15), .one (c26)] r25.2).bind fun r27 =>
  cond (shapeOk rk_laws_eqRuleS r27)
  ((cB (cellsAt r27 0) 0).bind fun b28 =>
  cond (!b28)
  (some ([.one (Cell.bool false)], r25.2))
  ((run_laws_markRuleS [.one (c15), .one (Cell.int 1)] r25.2).bind fun r29 =>
  cond (shapeOk rk_laws_markRuleS r29.1)
  ((cI .i64 (cellsAt r29.1 0) 0).bind fun i30 =>
  cond (decide (i30 < 0))
  (some ([.one (Cell.bool false)], r29.2))
  ((callS run_laws_eqRule [.agg [Cell.str s17, c18, c19, c20, Cell.bool b21], .agg [Cell.str s8, c9, c10, c11, Cell.bool b12]] r29.2).bind fun r31 =>
  cond (shapeOk rk_laws_eqRule r31)
  ((cB (cellsAt r31 0) 0).bind fun b32 =>
  cond (!b32)
  (some ([.one (Cell.bool false)], r29.2))
  (cond (!(b22 == b13))
  (some ([.one (Cell.bool false)], r29.2))
  ((run_laws_markRule [.agg [Cell.str s17, c18, c19, c20, Cell.bool b21], .one (Cell.int 1)] r29.2).bind fun r33 =>
  cond (shapeOk rk_laws_markRule r33.1)
  ((cI .i64 (cellsAt r33.1 0) 0).bind fun i34 =>
  (callS run_laws_heldRule [.agg [Cell.str s17, c18, c19, c20, Cell.bool b21], .one (Cell.int 1)] r33.2).bind fun r35 =>
  cond (shapeOk rk_laws_heldRule r35)
  ((cI .i64 (cellsAt r35 0) 0).bind fun i36 =>
  cond (decide (i36 < 0))
  (some ([.one (Cell.bool false)], r33.2))
  (cond (i36 != i34)
  (some ([.one (Cell.bool false)], r33.2))
  ((callF run_laws_toRuleS [.one (c1)] r33.2).bind fun r37 =>
  cond (shapeOk rk_laws_toRuleS r37.1)
  ((cC (cellsAt r37.1 0) 0).bind fun c38 =>
  (callF run_impl_RuleAt [.one (c38), .one (Cell.str s2)] r37.2).bind fun r39 =>
  cond (shapeOk rk_impl_RuleAt r39.1)
  ((cS (cellsAt r39.1 0) 0).bind fun s40 =>
  (cC (cellsAt r39.1 0) 1).bind fun c41 =>
  (cC (cellsAt r39.1 0) 2).bind fun c42 =>
  (cC (cellsAt r39.1 0) 3).bind fun c43 =>
  (cB (cellsAt r39.1 0) 4).bind fun b44 =>
  (cB (cellsAt r39.1 1) 0).bind fun b45 =>
  (callS run_laws_eqRule [.agg [Cell.str s40, c41, c42, c43, Cell.bool b44], .agg [Cell.str s8, c9, c10, c11, Cell.bool b12]] r39.2).bind fun r46 =>
  cond (shapeOk rk_laws_eqRule r46)
  ((cB (cellsAt r46 0) 0).bind fun b47 =>
  cond (!b47)
  (some ([.one (Cell.bool false)], r39.2))
  (cond (!(b45 == b13))
  (some ([.one (Cell.bool false)], r39.2))
  ((callS run_laws_heldRule [.agg [Cell.str s17, c18, c19, c20, Cell.bool b21], .one (Cell.int 1)] r39.2).bind fun r48 =>
  cond (shapeOk rk_laws_heldRule r48)
  ((cI .i64 (cellsAt r48 0) 0).bind fun i49 =>
  cond (decide (i49 < 0))
  (some ([.one (Cell.bool false)], r39.2))
  (cond (i49 != i34)
  (some ([.one (Cell.bool false)], r39.2))
  (some ([.one (Cell.bool true)], r39.2))))
  none)))
  none)
  none)
  none)))
  none)
  none)))
  none))
  none))
  none)
  none)))
  none)
  none)
  none)
  none)
  none))
  none)
theorem laws_FnExactRuleAt_code (k m : Nat) (c1 : Cell) (s2 : ByteArray) : evC G_laws_FnExactRuleAt fi_laws_FnExactRuleAt (evF G_laws_FnExactRuleAt (k + 1)) m fi_laws_FnExactRuleAt.code none (retK G_laws_FnExactRuleAt fi_laws_FnExactRuleAt) (enter fi_laws_FnExactRuleAt [.one (c1), .one (Cell.str s2)] []) = laws_FnExactRuleAt (k + 1) m c1 s2 := by
  kernel_rfl
theorem laws_FnExactRuleAt_eq (k : Nat) (c1 : Cell) (s2 : ByteArray) : evF G_laws_FnExactRuleAt (k + 2) fid_laws_FnExactRuleAt [.one (c1), .one (Cell.str s2)] [] = laws_FnExactRuleAt (k + 1) (k + 1) c1 s2 :=
  Eq.trans (by kernel_rfl) (laws_FnExactRuleAt_code k (k + 1) c1 s2)
theorem run_laws_FnExactRuleAt_of {c1 : Cell} {s2 : ByteArray} {r : Res} (k : Nat) (h : laws_FnExactRuleAt (k + 1) (k + 1) c1 s2 = some r) : run_laws_FnExactRuleAt [.one (c1), .one (Cell.str s2)] [] = some r := lim_of ((laws_FnExactRuleAt_eq k c1 s2).trans h)
end Go.Ev
