/- What the evaluator says of the functions, each as a Lean function over cells. Printed by a program of this claim. Conditions: none. -/
import Derived.Test.YtiocamjonchabaaSh1
import Derived.KernelRfl
namespace Go.Ev
open Go Go.Proofs
set_option maxRecDepth 100000
set_option linter.unusedVariables false
set_option linter.unusedSimpArgs false
noncomputable def pl_laws_markPackS : List (Nat × Run) := [(fid_laws_markStringS, run_laws_markStringS), (fid_laws_markText, run_laws_markText), (fid_laws_markNeedS, run_laws_markNeedS), (fid_laws_markCmdS, run_laws_markCmdS)]
noncomputable def G_laws_markPackS : Ctx := ctx tyTab fiTab pl_laws_markPackS
noncomputable def run_laws_markPackS : Run := lim G_laws_markPackS fid_laws_markPackS
theorem ok_laws_markPackS : FnOk Try.prog OkT fid_laws_markPackS run_laws_markPackS := lim_ok (l := pl_laws_markPackS) Try_mix tyTab_ok fiTab_ok okT (.cons ok_laws_markStringS (.cons ok_laws_markText (.cons ok_laws_markNeedS (.cons ok_laws_markCmdS .nil)))) fid_laws_markPackS
noncomputable def laws_markPackS_l0 (k m : Nat) : Nat → Cell → Int → Int → List Entry → Option Res
  | 0, _, _, _, _ => none
  | n + 1, c3, i4, i5, H6 =>
    (lenC c3).bind fun n7 =>
    cond (decide (i5 < (n7 : Int)))
    ((callS run_laws_markText [.one (Cell.int i4)] H6).bind fun r8 =>
    cond (shapeOk rk_laws_markText r8)
    ((cS (cellsAt r8 0) 0).bind fun s9 =>
    (idxA 4 (c3) i5).bind fun c10 =>
    (fldA c10 0).bind fun c11 =>
    (hStore H6 (c11) [Cell.str s9]).bind fun h12 =>
    (idxA 4 (c3) i5).bind fun c13 =>
    (fldA c13 1).bind fun c14 =>
    (deref h12 (c14)).bind fun p15 =>
    (cC p15.1 p15.2).bind fun c16 =>
    (run_laws_markStringS [.one (c16), .one (Cell.int (IntKind.i64.wrap (i4 + 1)))] h12).bind fun r17 =>
    cond (shapeOk rk_laws_markStringS r17.1)
    ((cI .i64 (cellsAt r17.1 0) 0).bind fun i18 =>
    (idxA 4 (c3) i5).bind fun c19 =>
    (fldA c19 2).bind fun c20 =>
    (deref r17.2 (c20)).bind fun p21 =>
    (cC p21.1 p21.2).bind fun c22 =>
    (run_laws_markNeedS [.one (c22), .one (Cell.int i18)] r17.2).bind fun r23 =>
    cond (shapeOk rk_laws_markNeedS r23.1)
    ((cI .i64 (cellsAt r23.1 0) 0).bind fun i24 =>
    (idxA 4 (c3) i5).bind fun c25 =>
    (fldA c25 3).bind fun c26 =>
    (deref r23.2 (c26)).bind fun p27 =>
    (cC p27.1 p27.2).bind fun c28 =>
    (run_laws_markCmdS [.one (c28), .one (Cell.int i24)] r23.2).bind fun r29 =>
    cond (shapeOk rk_laws_markCmdS r29.1)
    ((cI .i64 (cellsAt r29.1 0) 0).bind fun i30 =>
    laws_markPackS_l0 k m n (c3) i30 (IntKind.i64.wrap (i5 + 1)) r29.2)
    none)
    none)
    none)
    none)
    (some ([.one (Cell.int i4)], H6))
noncomputable def laws_markPackS (k m : Nat) (c1 : Cell) (i2 : Int) (H : List Entry) : Option Res :=
  laws_markPackS_l0 k m m (c1) i2 0 H
noncomputable abbrev laws_markPackS_l0_B (k m : Nat) : (Ex → Fr → Option Res) → Fr → Option Res := evC G_laws_markPackS fi_laws_markPackS (evF G_laws_markPackS (k + 1)) m (sub [1, 0, 1, 2, 3] fi_laws_markPackS.code) none
noncomputable abbrev laws_markPackS_l0_K (k m : Nat) : Ex → Fr → Option Res := blockK 0 (seqK (evC G_laws_markPackS fi_laws_markPackS (evF G_laws_markPackS (k + 1)) m (sub [1, 1] fi_laws_markPackS.code) none) (retK G_laws_markPackS fi_laws_markPackS))
theorem laws_markPackS_l0_eq (k m : Nat) : ∀ (n : Nat) (c3 : Cell) (i4 : Int) (i5 : Int) (H6 : List Entry), loopK (some [0, 1, 5]) (laws_markPackS_l0_B k m) (laws_markPackS_l0_K k m) n ⟨fT 42 0 [(0, .av (.one (c3))), (1, .av (.one (Cell.int i4))), (5, .av (.one (Cell.int i5)))], fX 42 0 [], H6⟩ = laws_markPackS_l0 (k + 1) m n c3 i4 i5 H6 := by
  intro n
  induction n with
  | zero => intros; rfl
  | succ n ih =>
    intros
    simp only [laws_markPackS_l0, ← ih]
    kernel_rfl
theorem laws_markPackS_code (k m : Nat) (c1 : Cell) (i2 : Int) (H : List Entry) : evC G_laws_markPackS fi_laws_markPackS (evF G_laws_markPackS (k + 1)) m fi_laws_markPackS.code none (retK G_laws_markPackS fi_laws_markPackS) (enter fi_laws_markPackS [.one (c1), .one (Cell.int i2)] H) = laws_markPackS (k + 1) m c1 i2 H := by
  simp only [laws_markPackS, ← laws_markPackS_l0_eq k m]
  kernel_rfl
theorem laws_markPackS_eq (k : Nat) (c1 : Cell) (i2 : Int) (H : List Entry) : evF G_laws_markPackS (k + 2) fid_laws_markPackS [.one (c1), .one (Cell.int i2)] H = laws_markPackS (k + 1) (k + 1) c1 i2 H :=
  Eq.trans (by kernel_rfl) (laws_markPackS_code k (k + 1) c1 i2 H)
theorem run_laws_markPackS_of {c1 : Cell} {i2 : Int} {H : List Entry} {r : Res} (k : Nat) (h : laws_markPackS (k + 1) (k + 1) c1 i2 H = some r) : run_laws_markPackS [.one (c1), .one (Cell.int i2)] H = some r := lim_of ((laws_markPackS_eq k c1 i2 H).trans h)
noncomputable def pl_laws_heldStringS : List (Nat × Run) := [(fid_laws_markText, run_laws_markText)]
noncomputable def G_laws_heldStringS : Ctx := ctx tyTab fiTab pl_laws_heldStringS
noncomputable def run_laws_heldStringS : Run := lim G_laws_heldStringS fid_laws_heldStringS
theorem ok_laws_heldStringS : FnOk Try.prog OkT fid_laws_heldStringS run_laws_heldStringS := lim_ok (l := pl_laws_heldStringS) Try_mix tyTab_ok fiTab_ok okT (.cons ok_laws_markText .nil) fid_laws_heldStringS
noncomputable def laws_heldStringS_l0 (k m : Nat) : Nat → Cell → Int → Int → Option Res
  | 0, _, _, _ => none
  | n + 1, c3, i4, i5 =>
    (lenC c3).bind fun n6 =>
    cond (decide (i5 < (n6 : Int)))
    ((idxA 1 (c3) i5).bind fun c7 =>
    (deref [] (c7)).bind fun p8 =>
    (cS p8.1 p8.2).bind fun s9 =>
    (callS run_laws_markText [.one (Cell.int i4)] []).bind fun r10 =>
    cond (shapeOk rk_laws_markText r10)
    ((cS (cellsAt r10 0) 0).bind fun s11 =>
    cond (!(s9.toList == s11.toList))
    (some ([.one (Cell.int (-1))], []))
    (laws_heldStringS_l0 k m n (c3) (IntKind.i64.wrap (i4 + 1)) (IntKind.i64.wrap (i5 + 1))))
    none)
    (some ([.one (Cell.int i4)], []))
noncomputable def laws_heldStringS (k m : Nat) (c1 : Cell) (i2 : Int) : Option Res :=
  laws_heldStringS_l0 k m m (c1) i2 0
noncomputable abbrev laws_heldStringS_l0_B (k m : Nat) : (Ex → Fr → Option Res) → Fr → Option Res := evC G_laws_heldStringS fi_laws_heldStringS (evF G_laws_heldStringS (k + 1)) m (sub [1, 0, 1, 2, 3] fi_laws_heldStringS.code) none
noncomputable abbrev laws_heldStringS_l0_K (k m : Nat) : Ex → Fr → Option Res := blockK 0 (seqK (evC G_laws_heldStringS fi_laws_heldStringS (evF G_laws_heldStringS (k + 1)) m (sub [1, 1] fi_laws_heldStringS.code) none) (retK G_laws_heldStringS fi_laws_heldStringS))
theorem laws_heldStringS_l0_eq (k m : Nat) : ∀ (n : Nat) (c3 : Cell) (i4 : Int) (i5 : Int), loopK (some [0, 1, 5]) (laws_heldStringS_l0_B k m) (laws_heldStringS_l0_K k m) n ⟨fT 22 0 [(0, .av (.one (c3))), (1, .av (.one (Cell.int i4))), (5, .av (.one (Cell.int i5)))], fX 22 0 [], []⟩ = laws_heldStringS_l0 (k + 1) m n c3 i4 i5 := by
  intro n
  induction n with
  | zero => intros; rfl
  | succ n ih =>
    intros
    simp only [laws_heldStringS_l0, ← ih]
    kernel_rfl
theorem laws_heldStringS_code (k m : Nat) (c1 : Cell) (i2 : Int) : evC G_laws_heldStringS fi_laws_heldStringS (evF G_laws_heldStringS (k + 1)) m fi_laws_heldStringS.code none (retK G_laws_heldStringS fi_laws_heldStringS) (enter fi_laws_heldStringS [.one (c1), .one (Cell.int i2)] []) = laws_heldStringS (k + 1) m c1 i2 := by
  simp only [laws_heldStringS, ← laws_heldStringS_l0_eq k m]
  kernel_rfl
theorem laws_heldStringS_eq (k : Nat) (c1 : Cell) (i2 : Int) : evF G_laws_heldStringS (k + 2) fid_laws_heldStringS [.one (c1), .one (Cell.int i2)] [] = laws_heldStringS (k + 1) (k + 1) c1 i2 :=
  Eq.trans (by kernel_rfl) (laws_heldStringS_code k (k + 1) c1 i2)
theorem run_laws_heldStringS_of {c1 : Cell} {i2 : Int} {r : Res} (k : Nat) (h : laws_heldStringS (k + 1) (k + 1) c1 i2 = some r) : run_laws_heldStringS [.one (c1), .one (Cell.int i2)] [] = some r := lim_of ((laws_heldStringS_eq k c1 i2).trans h)
noncomputable def pl_laws_FnExactOrder : List (Nat × Run) := [(fid_laws_szPackS, run_laws_szPackS), (fid_spec_Order, run_spec_Order), (fid_laws_toPackS, run_laws_toPackS), (fid_impl_Order, run_impl_Order), (fid_laws_eqStringS, run_laws_eqStringS), (fid_laws_eqPackS, run_laws_eqPackS), (fid_laws_markPackS, run_laws_markPackS), (fid_laws_markStringS, run_laws_markStringS), (fid_laws_heldStringS, run_laws_heldStringS)]
noncomputable def G_laws_FnExactOrder : Ctx := ctx tyTab fiTab pl_laws_FnExactOrder
noncomputable def run_laws_FnExactOrder : Run := lim G_laws_FnExactOrder fid_laws_FnExactOrder
theorem ok_laws_FnExactOrder : FnOk Try.prog OkT fid_laws_FnExactOrder run_laws_FnExactOrder := lim_ok (l := pl_laws_FnExactOrder) Try_mix tyTab_ok fiTab_ok okT (.cons ok_laws_szPackS (.cons ok_spec_Order (.cons ok_laws_toPackS (.cons ok_impl_Order (.cons ok_laws_eqStringS (.cons ok_laws_eqPackS (.cons ok_laws_markPackS (.cons ok_laws_markStringS (.cons ok_laws_heldStringS .nil))))))))) fid_laws_FnExactOrder
noncomputable def laws_FnExactOrder (k m : Nat) (c1 : Cell) : Option Res :=
  (callS run_laws_szPackS [.one (c1), .one (Cell.int 1048576)] []).bind fun r2 =>
  cond (shapeOk rk_laws_szPackS r2)
  ((cI .i64 (cellsAt r2 0) 0).bind fun i3 =>
  cond (decide (i3 < 0))
  (some ([.one (Cell.bool true)], []))
  ((callF run_laws_toPackS [.one (c1)] []).bind fun r4 =>
  cond (shapeOk rk_laws_toPackS r4.1)
  ((cC (cellsAt r4.1 0) 0).bind fun c5 =>
  (callL run_spec_Order [.one (c5)] r4.2).bind fun r6 =>
  cond (shapeOk rk_spec_Order r6.1)
  ((cC (cellsAt r6.1 0) 0).bind fun c7 =>
  (cB (cellsAt r6.1 1) 0).bind fun b8 =>
  (callF run_laws_toPackS [.one (c1)] r6.2).bind fun r9 =>
  cond (shapeOk rk_laws_toPackS r9.1)
  ((cC (cellsAt r9.1 0) 0).bind fun c10 =>
  (callF run_impl_Order [.one (c10)] r9.2).bind fun r11 =>
  cond (shapeOk rk_impl_Order r11.1)
  ((cC (cellsAt r11.1 0) 0).bind fun c12 =>
  (cB (cellsAt r11.1 1) 0).bind fun b13 =>
  (callS run_laws_eqStringS [.one (c12), .one (c7)] r11.2).bind fun r14 =>
  cond (shapeOk rk_laws_eqStringS r14)
  ((cB (cellsAt r14 0) 0).bind fun b15 =>
  cond (!b15)
  (some ([.one (Cell.bool false)], r11.2))
  (cond (!(b13 == b8))
  (some ([.one (Cell.bool false)], r11.2))
  ((callF run_laws_toPackS [.one (c1)] r11.2).bind fun r16 =>
  cond (shapeOk rk_laws_toPackS r16.1)
  ((cC (cellsAt r16.1 0) 0).bind fun c17 =>
  (callS run_laws_eqPackS [.one (c10), .one (c17)] r16.2).bind fun r18 =>
  cond (shapeOk rk_laws_eqPackS r18)
  ((cB (cellsAt r18 0) 0).bind fun b19 =>
  cond (!b19)
  (some ([.one (Cell.bool false)], r16.2))
  ((run_laws_markPackS [.one (c10), .one (Cell.int 1)] r16.2).bind fun r20 =>
  cond (shapeOk rk_laws_markPackS r20.1)
  ((cI .i64 (cellsAt r20.1 0) 0).bind fun i21 =>
  cond (decide (i21 < 0))
  (some ([.one (Cell.bool false)], r20.2))
  ((callS run_laws_eqStringS [.one (c12), .one (c7)] r20.2).bind fun r22 =>
  cond (shapeOk rk_laws_eqStringS r22)
  ((cB (cellsAt r22 0) 0).bind fun b23 =>
  cond (!b23)
  (some ([.one (Cell.bool false)], r20.2))
  (cond (!(b13 == b8))
  (some ([.one (Cell.bool false)], r20.2))
  ((run_laws_markStringS [.one (c12), .one (Cell.int 1)] r20.2).bind fun r24 =>
  cond (shapeOk rk_laws_markStringS r24.1)
  ((cI .i64 (cellsAt r24.1 0) 0).bind fun i25 =>
  (callS run_laws_heldStringS [.one (c12), .one (Cell.int 1)] r24.2).bind fun r26 =>
  cond (shapeOk rk_laws_heldStringS r26)
  ((cI .i64 (cellsAt r26 0) 0).bind fun i27 =>
  cond (decide (i27 < 0))
  (some ([.one (Cell.bool false)], r24.2))
  (cond (i27 != i25)
  (some ([.one (Cell.bool false)], r24.2))
  ((callF run_laws_toPackS [.one (c1)] r24.2).bind fun r28 =>
  cond (shapeOk rk_laws_toPackS r28.1)
  ((cC (cellsAt r28.1 0) 0).bind fun c29 =>
  (callF run_impl_Order [.one (c29)] r28.2).bind fun r30 =>
  cond (shapeOk rk_impl_Order r30.1)
  ((cC (cellsAt r30.1 0) 0).bind fun c31 =>
  (cB (cellsAt r30.1 1) 0).bind fun b32 =>
  (callS run_laws_eqStringS [.one (c31), .one (c7)] r30.2).bind fun r33 =>
  cond (shapeOk rk_laws_eqStringS r33)
  ((cB (cellsAt r33 0) 0).bind fun b34 =>
  cond (!b34)
  (some ([.one (Cell.bool false)], r30.2))
  (cond (!(b32 == b8))
  (some ([.one (Cell.bool false)], r30.2))
  ((callS run_laws_heldStringS [.one (c12), .one (Cell.int 1)] r30.2).bind fun r35 =>
  cond (shapeOk rk_laws_heldStringS r35)
  ((cI .i64 (cellsAt r35 0) 0).bind fun i36 =>
  cond (decide (i36 < 0))
  (some ([.one (Cell.bool false)], r30.2))
  (cond (i36 != i25)
  (some ([.one (Cell.bool false)], r30.2))
  (some ([.one (Cell.bool true)], r30.2))))
  none)))
  none)
  none)
  none)))
  none)
  none)))
  none))
  none))
  none)
  none)))
  none)
  none)
  none)
  none)
  none))
  none
theorem laws_FnExactOrder_code (k m : Nat) (c1 : Cell) : evC G_laws_FnExactOrder fi_laws_FnExactOrder (evF G_laws_FnExactOrder (k + 1)) m fi_laws_FnExactOrder.code none (retK G_laws_FnExactOrder fi_laws_FnExactOrder) (enter fi_laws_FnExactOrder [.one (c1)] []) = laws_FnExactOrder (k + 1) m c1 := by
  kernel_rfl
theorem laws_FnExactOrder_eq (k : Nat) (c1 : Cell) : evF G_laws_FnExactOrder (k + 2) fid_laws_FnExactOrder [.one (c1)] [] = laws_FnExactOrder (k + 1) (k + 1) c1 :=
  Eq.trans (by kernel_rfl) (laws_FnExactOrder_code k (k + 1) c1)
theorem run_laws_FnExactOrder_of {c1 : Cell} {r : Res} (k : Nat) (h : laws_FnExactOrder (k + 1) (k + 1) c1 = some r) : run_laws_FnExactOrder [.one (c1)] [] = some r := lim_of ((laws_FnExactOrder_eq k c1).trans h)
end Go.Ev
