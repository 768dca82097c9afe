/- Conditions: none. -/
import Derived.Test.YtholafaogipaiaaGreatDoorSh6
import Derived.KernelRfl
namespace Go.Ev
open Go Go.Proofs
set_option maxRecDepth 100000
set_option linter.unusedVariables false
set_option linter.unusedSimpArgs false
noncomputable def pl_fbs : List (Nat × Run) := [(fid_fcc, run_fcc), (fid_fce, run_fce), (fid_fcg, run_fcg), (fid_fdf, run_fdf), (fid_fck, run_fck), (fid_fcm, run_fcm), (fid_fco, run_fco), (fid_fan, run_fan), (fid_fbu, run_fbu), (fid_fbw, run_fbw), (fid_fby, run_fby)]
noncomputable def G_fbs : Ctx := ctx tyTab fiTab pl_fbs
noncomputable def run_fbs : Run := lim G_fbs fid_fbs
theorem ok_fbs : FnOk Tryz.prog OkT fid_fbs run_fbs := lim_ok (l := pl_fbs) Tryz_mix tyTab_ok fiTab_ok okT (.cons ok_fcc (.cons ok_fce (.cons ok_fcg (.cons ok_fdf (.cons ok_fck (.cons ok_fcm (.cons ok_fco (.cons ok_fan (.cons ok_fbu (.cons ok_fbw (.cons ok_fby .nil))))))))))) fid_fbs
noncomputable def fbs (k m : Nat) (c1 : Cell) (c2 : Cell) (c3 : Cell) : Option Res :=
  (callS run_fcc [.one (c1), .one (Cell.int 1048576)] []).bind fun r4 =>
  cond (shapeOk rk_fcc r4)
  ((cI .i64 (cellsAt r4 0) 0).bind fun i5 =>
  cond (decide (i5 < 0))
  (some ([.one (Cell.bool true)], []))
  ((callS run_fce [.one (c2), .one (Cell.int i5)] []).bind fun r6 =>
  cond (shapeOk rk_fce r6)
  ((cI .i64 (cellsAt r6 0) 0).bind fun i7 =>
  cond (decide (i7 < 0))
  (some ([.one (Cell.bool true)], []))
  ((callS run_fcg [.one (c3), .one (Cell.int i7)] []).bind fun r8 =>
  cond (shapeOk rk_fcg r8)
  ((cI .i64 (cellsAt r8 0) 0).bind fun i9 =>
  cond (decide (i9 < 0))
  (some ([.one (Cell.bool true)], []))
  ((callL run_fck [.one (c1)] []).bind fun r10 =>
  cond (shapeOk rk_fck r10.1)
  ((cC (cellsAt r10.1 0) 0).bind fun c11 =>
  (callL run_fcm [.one (c2)] r10.2).bind fun r12 =>
  cond (shapeOk rk_fcm r12.1)
  ((cC (cellsAt r12.1 0) 0).bind fun c13 =>
  (callL run_fco [.one (c3)] r12.2).bind fun r14 =>
  cond (shapeOk rk_fco r14.1)
  ((cC (cellsAt r14.1 0) 0).bind fun c15 =>
  (callS run_fdf [.one (c11), .one (c13), .one (c15)] r14.2).bind fun r16 =>
  cond (shapeOk rk_fdf r16)
  ((cB (cellsAt r16 0) 0).bind fun b17 =>
  (callL run_fck [.one (c1)] r14.2).bind fun r18 =>
  cond (shapeOk rk_fck r18.1)
  ((cC (cellsAt r18.1 0) 0).bind fun c19 =>
  (callL run_fcm [.one (c2)] r18.2).bind fun r20 =>
  cond (shapeOk rk_fcm r20.1)
  ((cC (cellsAt r20.1 0) 0).bind fun c21 =>
  (callL run_fco [.one (c3)] r20.2).bind fun r22 =>
  cond (shapeOk rk_fco r22.1)
  ((cC (cellsAt r22.1 0) 0).bind fun c23 =>
  (callS run_fan [.one (c19), .one (c21), .one (c23)] r22.2).bind fun r24 =>
  cond (shapeOk rk_fan r24)
  ((cB (cellsAt r24 0) 0).bind fun b25 =>
  cond (!(b25 == b17))
  (some ([.one (Cell.bool false)], r22.2))
  ((callL run_fck [.one (c1)] r22.2).bind fun r26 =>
  cond (shapeOk rk_fck r26.1)
  ((cC (cellsAt r26.1 0) 0).bind fun c27 =>
  (callS run_fbu [.one (c19), .one (c27)] r26.2).bind fun r28 =>
  cond (shapeOk rk_fbu r28)
  ((cB (cellsAt r28 0) 0).bind fun b29 =>
  cond (!b29)
  (some ([.one (Cell.bool false)], r26.2))
  ((callL run_fcm [.one (c2)] r26.2).bind fun r30 =>
  cond (shapeOk rk_fcm r30.1)
  ((cC (cellsAt r30.1 0) 0).bind fun c31 =>
  (callS run_fbw [.one (c21), .one (c31)] r30.2).bind fun r32 =>
  cond (shapeOk rk_fbw r32)
  ((cB (cellsAt r32 0) 0).bind fun b33 =>
  cond (!b33)
  (some ([.one (Cell.bool false)], r30.2))
  ((callL run_fco [.one (c3)] r30.2).bind fun r34 =>
  cond (shapeOk rk_fco r34.1)
  ((cC (cellsAt r34.1 0) 0).bind fun c35 =>
  (callS run_fby [.one (c23), .one (c35)] r34.2).bind fun r36 =>
  cond (shapeOk rk_fby r36)
  ((cB (cellsAt r36 0) 0).bind fun b37 =>
  cond (!b37)
  (some ([.one (Cell.bool false)], r34.2))
  (some ([.one (Cell.bool true)], r34.2)))
  none)
  none))
  none)
  none))
  none)
  none))
  none)
  none)
  none)
  none)
  none)
  none)
  none)
  none))
  none))
  none))
  none
theorem fbs_code (k m : Nat) (c1 : Cell) (c2 : Cell) (c3 : Cell) : evC G_fbs fi_fbs (evF G_fbs (k + 1)) m fi_fbs.code none (retK G_fbs fi_fbs) (enter fi_fbs [.one (c1), .one (c2), .one (c3)] []) = fbs (k + 1) m c1 c2 c3 := by
  kernel_rfl
theorem fbs_eq (k : Nat) (c1 : Cell) (c2 : Cell) (c3 : Cell) : evF G_fbs (k + 2) fid_fbs [.one (c1), .one (c2), .one (c3)] [] = fbs (k + 1) (k + 1) c1 c2 c3 :=
  Eq.trans (by kernel_rfl) (fbs_code k (k + 1) c1 c2 c3)
theorem run_fbs_of {c1 : Cell} {c2 : Cell} {c3 : Cell} {r : Res} (k : Nat) (h : fbs (k + 1) (k + 1) c1 c2 c3 = some r) : run_fbs [.one (c1), .one (c2), .one (c3)] [] = some r := lim_of ((fbs_eq k c1 c2 c3).trans h)
end Go.Ev
