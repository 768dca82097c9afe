/- What the evaluator says of the functions, each as a Lean function over cells. Printed by a program of this claim. Conditions: none. -/
import Derived.Test.YtkpiaalieeacgaaSh0
import Derived.KernelRfl
namespace Go.Ev
open Go Go.Proofs
set_option maxRecDepth 100000
set_option linter.unusedVariables false
set_option linter.unusedSimpArgs false
noncomputable def pl_laws_heldStringS : List (Nat × Run) := [(fid_laws_markText, run_laws_markText)]
noncomputable def G_laws_heldStringS : Ctx := ctx tyTab fiTab pl_laws_heldStringS
noncomputable def run_laws_heldStringS : Run := lim G_laws_heldStringS fid_laws_heldStringS
theorem ok_laws_heldStringS : FnOk Try.prog OkT fid_laws_heldStringS run_laws_heldStringS := lim_ok (l := pl_laws_heldStringS) Try_mix tyTab_ok fiTab_ok okT (.cons ok_laws_markText .nil) fid_laws_heldStringS
noncomputable def laws_heldStringS_l0 (k m : Nat) : Nat → Cell → Int → Int → Option Res
  | 0, _, _, _ => none
  | n + 1, c3, i4, i5 =>
    (lenC c3).bind fun n6 =>
    cond (decide (i5 < (n6 : Int)))
    ((idxA 1 (c3) i5).bind fun c7 =>
    (deref [] (c7)).bind fun p8 =>
    (cS p8.1 p8.2).bind fun s9 =>
    (callS run_laws_markText [.one (Cell.int i4)] []).bind fun r10 =>
    cond (shapeOk rk_laws_markText r10)
    ((cS (cellsAt r10 0) 0).bind fun s11 =>
    cond (!(s9.toList == s11.toList))
    (some ([.one (Cell.int (-1))], []))
    (laws_heldStringS_l0 k m n (c3) (IntKind.i64.wrap (i4 + 1)) (IntKind.i64.wrap (i5 + 1))))
    none)
    (some ([.one (Cell.int i4)], []))
noncomputable def laws_heldStringS (k m : Nat) (c1 : Cell) (i2 : Int) : Option Res :=
  laws_heldStringS_l0 k m m (c1) i2 0
noncomputable abbrev laws_heldStringS_l0_B (k m : Nat) : (Ex → Fr → Option Res) → Fr → Option Res := evC G_laws_heldStringS fi_laws_heldStringS (evF G_laws_heldStringS (k + 1)) m (sub [1, 0, 1, 2, 3] fi_laws_heldStringS.code) none
noncomputable abbrev laws_heldStringS_l0_K (k m : Nat) : Ex → Fr → Option Res := blockK 0 (seqK (evC G_laws_heldStringS fi_laws_heldStringS (evF G_laws_heldStringS (k + 1)) m (sub [1, 1] fi_laws_heldStringS.code) none) (retK G_laws_heldStringS fi_laws_heldStringS))
theorem laws_heldStringS_l0_eq (k m : Nat) : ∀ (n : Nat) (c3 : Cell) (i4 : Int) (i5 : Int), loopK (some [0, 1, 5]) (laws_heldStringS_l0_B k m) (laws_heldStringS_l0_K k m) n ⟨fT 22 0 [(0, .av (.one (c3))), (1, .av (.one (Cell.int i4))), (5, .av (.one (Cell.int i5)))], fX 22 0 [], []⟩ = laws_heldStringS_l0 (k + 1) m n c3 i4 i5 := by
  intro n
  induction n with
  | zero => intros; rfl
  | succ n ih =>
    intros
    simp only [laws_heldStringS_l0, ← ih]
    kernel_rfl
theorem laws_heldStringS_code (k m : Nat) (c1 : Cell) (i2 : Int) : evC G_laws_heldStringS fi_laws_heldStringS (evF G_laws_heldStringS (k + 1)) m fi_laws_heldStringS.code none (retK G_laws_heldStringS fi_laws_heldStringS) (enter fi_laws_heldStringS [.one (c1), .one (Cell.int i2)] []) = laws_heldStringS (k + 1) m c1 i2 := by
  simp only [laws_heldStringS, ← laws_heldStringS_l0_eq k m]
  kernel_rfl
theorem laws_heldStringS_eq (k : Nat) (c1 : Cell) (i2 : Int) : evF G_laws_heldStringS (k + 2) fid_laws_heldStringS [.one (c1), .one (Cell.int i2)] [] = laws_heldStringS (k + 1) (k + 1) c1 i2 :=
  Eq.trans (by kernel_rfl) (laws_heldStringS_code k (k + 1) c1 i2)
theorem run_laws_heldStringS_of {c1 : Cell} {i2 : Int} {r : Res} (k : Nat) (h : laws_heldStringS (k + 1) (k + 1) c1 i2 = some r) : run_laws_heldStringS [.one (c1), .one (Cell.int i2)] [] = some r := lim_of ((laws_heldStringS_eq k c1 i2).trans h)
noncomputable def pl_laws_FnExactDepsOf : List (Nat × Run) := [(fid_laws_szPlan, run_laws_szPlan), (fid_spec_DepsOf, run_spec_DepsOf), (fid_laws_toPlan, run_laws_toPlan), (fid_impl_DepsOf, run_impl_DepsOf), (fid_laws_eqStringS, run_laws_eqStringS), (fid_laws_eqPlan, run_laws_eqPlan), (fid_laws_markPlan, run_laws_markPlan), (fid_laws_markStringS, run_laws_markStringS), (fid_laws_heldStringS, run_laws_heldStringS)]
noncomputable def G_laws_FnExactDepsOf : Ctx := ctx tyTab fiTab pl_laws_FnExactDepsOf
noncomputable def run_laws_FnExactDepsOf : Run := lim G_laws_FnExactDepsOf fid_laws_FnExactDepsOf
theorem ok_laws_FnExactDepsOf : FnOk Try.prog OkT fid_laws_FnExactDepsOf run_laws_FnExactDepsOf := lim_ok (l := pl_laws_FnExactDepsOf) Try_mix tyTab_ok fiTab_ok okT (.cons ok_laws_szPlan (.cons ok_spec_DepsOf (.cons ok_laws_toPlan (.cons ok_impl_DepsOf (.cons ok_laws_eqStringS (.cons ok_laws_eqPlan (.cons ok_laws_markPlan (.cons ok_laws_markStringS (.cons ok_laws_heldStringS .nil))))))))) fid_laws_FnExactDepsOf
noncomputable def laws_FnExactDepsOf (k m : Nat) (c1 : Cell) (c2 : Cell) (s3 : ByteArray) : Option Res :=
  cond (decide ((s3.size : Int) > 1048576))
  (some ([.one (Cell.bool true)], []))
  ((callS run_laws_szPlan [.agg [c1, c2], .one (Cell.int 1048576)] []).bind fun r4 =>
  cond (shapeOk rk_laws_szPlan r4)
  ((cI .i64 (cellsAt r4 0) 0).bind fun i5 =>
  cond (decide (i5 < 0))
  (some ([.one (Cell.bool true)], []))
  ((callF run_laws_toPlan [.agg [c1, c2]] []).bind fun r6 =>
  cond (shapeOk rk_laws_toPlan r6.1)
  ((cC (cellsAt r6.1 0) 0).bind fun c7 =>
  (cC (cellsAt r6.1 0) 1).bind fun c8 =>
  (callL run_spec_DepsOf [.agg [c7, c8], .one (Cell.str s3)] r6.2).bind fun r9 =>
  cond (shapeOk rk_spec_DepsOf r9.1)
  ((cC (cellsAt r9.1 0) 0).bind fun c10 =>
  (callF run_laws_toPlan [.agg [c1, c2]] r9.2).bind fun r11 =>
  cond (shapeOk rk_laws_toPlan r11.1)
  ((cC (cellsAt r11.1 0) 0).bind fun c12 =>
  (cC (cellsAt r11.1 0) 1).bind fun c13 =>
  (callF run_impl_DepsOf [.agg [c12, c13], .one (Cell.str s3)] r11.2).bind fun r14 =>
  cond (shapeOk rk_impl_DepsOf r14.1)
  ((cC (cellsAt r14.1 0) 0).bind fun c15 =>
  (callS run_laws_eqStringS [.one (c15), .one (c10)] r14.2).bind fun r16 =>
  cond (shapeOk rk_laws_eqStringS r16)
  ((cB (cellsAt r16 0) 0).bind fun b17 =>
  cond (!b17)
  (some ([.one (Cell.bool false)], r14.2))
  ((callF run_laws_toPlan [.agg [c1, c2]] r14.2).bind fun r18 =>
  cond (shapeOk rk_laws_toPlan r18.1)
  ((cC (cellsAt r18.1 0) 0).bind fun c19 =>
  (cC (cellsAt r18.1 0) 1).bind fun c20 =>
  (callS run_laws_eqPlan [.agg [c12, c13], .agg [c19, c20]] r18.2).bind fun r21 =>
  cond (shapeOk rk_laws_eqPlan r21)
  ((cB (cellsAt r21 0) 0).bind fun b22 =>
  cond (!b22)
  (some ([.one (Cell.bool false)], r18.2))
  ((run_laws_markPlan [.agg [c12, c13], .one (Cell.int 1)] r18.2).bind fun r23 =>
  cond (shapeOk rk_laws_markPlan r23.1)
  ((cI .i64 (cellsAt r23.1 0) 0).bind fun i24 =>
  cond (decide (i24 < 0))
  (some ([.one (Cell.bool false)], r23.2))
  ((callS run_laws_eqStringS [.one (c15), .one (c10)] r23.2).bind fun r25 =>
  cond (shapeOk rk_laws_eqStringS r25)
  ((cB (cellsAt r25 0) 0).bind fun b26 =>
  cond (!b26)
  (some ([.one (Cell.bool false)], r23.2))
  ((run_laws_markStringS [.one (c15), .one (Cell.int 1)] r23.2).bind fun r27 =>
  cond (shapeOk rk_laws_markStringS r27.1)
  ((cI .i64 (cellsAt r27.1 0) 0).bind fun i28 =>
  (callS run_laws_heldStringS [.one (c15), .one (Cell.int 1)] r27.2).bind fun r29 =>
  cond (shapeOk rk_laws_heldStringS r29)
  ((cI .i64 (cellsAt r29 0) 0).bind fun i30 =>
  cond (decide (i30 < 0))
  (some ([.one (Cell.bool false)], r27.2))
  (cond (i30 != i28)
  (some ([.one (Cell.bool false)], r27.2))
  ((callF run_laws_toPlan [.agg [c1, c2]] r27.2).bind fun r31 =>
  cond (shapeOk rk_laws_toPlan r31.1)
  ((cC (cellsAt r31.1 0) 0).bind fun c32 =>
  (cC (cellsAt r31.1 0) 1).bind fun c33 =>
  (callF run_impl_DepsOf [.agg [c32, c33], .one (Cell.str s3)] r31.2).bind fun r34 =>
  cond (shapeOk rk_impl_DepsOf r34.1)
  ((cC (cellsAt r34.1 0) 0).bind fun c35 =>
  (callS run_laws_eqStringS [.one (c35), .one (c10)] r34.2).bind fun r36 =>
  cond (shapeOk rk_laws_eqStringS r36)
  ((cB (cellsAt r36 0) 0).bind fun b37 =>
  cond (!b37)
  (some ([.one (Cell.bool false)], r34.2))
  ((callS run_laws_heldStringS [.one (c15), .one (Cell.int 1)] r34.2).bind fun r38 =>
  cond (shapeOk rk_laws_heldStringS r38)
  ((cI .i64 (cellsAt r38 0) 0).bind fun i39 =>
  cond (decide (i39 < 0))
  (some ([.one (Cell.bool false)], r34.2))
  (cond (i39 != i28)
  (some ([.one (Cell.bool false)], r34.2))
  (some ([.one (Cell.bool true)], r34.2))))
  none))
  none)
  none)
  none)))
  none)
  none))
  none))
  none))
  none)
  none))
  none)
  none)
  none)
  none)
  none))
  none)
theorem laws_FnExactDepsOf_code (k m : Nat) (c1 : Cell) (c2 : Cell) (s3 : ByteArray) : evC G_laws_FnExactDepsOf fi_laws_FnExactDepsOf (evF G_laws_FnExactDepsOf (k + 1)) m fi_laws_FnExactDepsOf.code none (retK G_laws_FnExactDepsOf fi_laws_FnExactDepsOf) (enter fi_laws_FnExactDepsOf [.agg [c1, c2], .one (Cell.str s3)] []) = laws_FnExactDepsOf (k + 1) m c1 c2 s3 := by
  kernel_rfl
theorem laws_FnExactDepsOf_eq (k : Nat) (c1 : Cell) (c2 : Cell) (s3 : ByteArray) : evF G_laws_FnExactDepsOf (k + 2) fid_laws_FnExactDepsOf [.agg [c1, c2], .one (Cell.str s3)] [] = laws_FnExactDepsOf (k + 1) (k + 1) c1 c2 s3 :=
  Eq.trans (by kernel_rfl) (laws_FnExactDepsOf_code k (k + 1) c1 c2 s3)
theorem run_laws_FnExactDepsOf_of {c1 : Cell} {c2 : Cell} {s3 : ByteArray} {r : Res} (k : Nat) (h : laws_FnExactDepsOf (k + 1) (k + 1) c1 c2 s3 = some r) : run_laws_FnExactDepsOf [.agg [c1, c2], .one (Cell.str s3)] [] = some r := lim_of ((laws_FnExactDepsOf_eq k c1 c2 s3).trans h)
end Go.Ev
