/- What the evaluator says of the functions, each as a Lean function over cells. Printed by a program of this claim. Conditions: none. -/
import Derived.Test.YtkpiaalieeacgaaSh0
import Derived.KernelRfl
namespace Go.Ev
open Go Go.Proofs
set_option maxRecDepth 100000
set_option linter.unusedVariables false
set_option linter.unusedSimpArgs false
noncomputable def pl_laws_markPickS : List (Nat × Run) := [(fid_laws_markStringS, run_laws_markStringS), (fid_laws_markText, run_laws_markText)]
noncomputable def G_laws_markPickS : Ctx := ctx tyTab fiTab pl_laws_markPickS
noncomputable def run_laws_markPickS : Run := lim G_laws_markPickS fid_laws_markPickS
theorem ok_laws_markPickS : FnOk Try.prog OkT fid_laws_markPickS run_laws_markPickS := lim_ok (l := pl_laws_markPickS) Try_mix tyTab_ok fiTab_ok okT (.cons ok_laws_markStringS (.cons ok_laws_markText .nil)) fid_laws_markPickS
noncomputable def laws_markPickS_l0 (k m : Nat) : Nat → Cell → Int → Int → List Entry → Option Res
  | 0, _, _, _, _ => none
  | n + 1, c3, i4, i5, H6 =>
    (lenC c3).bind fun n7 =>
    cond (decide (i5 < (n7 : Int)))
    ((callS run_laws_markText [.one (Cell.int i4)] H6).bind fun r8 =>
    cond (shapeOk rk_laws_markText r8)
    ((cS (cellsAt r8 0) 0).bind fun s9 =>
    (idxA 5 (c3) i5).bind fun c10 =>
    (fldA c10 0).bind fun c11 =>
    (hStore H6 (c11) [Cell.str s9]).bind fun h12 =>
    (idxA 5 (c3) i5).bind fun c13 =>
    (fldA c13 1).bind fun c14 =>
    (fldA c14 0).bind fun c15 =>
    (hStore h12 (c15) [Cell.int (IntKind.i64.wrap (i4 + 1))]).bind fun h16 =>
    (idxA 5 (c3) i5).bind fun c17 =>
    (fldA c17 1).bind fun c18 =>
    (fldA c18 1).bind fun c19 =>
    (hStore h16 (c19) [Cell.int (IntKind.i64.wrap ((IntKind.i64.wrap (i4 + 1)) + 1))]).bind fun h20 =>
    (idxA 5 (c3) i5).bind fun c21 =>
    (fldA c21 1).bind fun c22 =>
    (fldA c22 2).bind fun c23 =>
    (hStore h20 (c23) [Cell.int (IntKind.i64.wrap ((IntKind.i64.wrap ((IntKind.i64.wrap (i4 + 1)) + 1)) + 1))]).bind fun h24 =>
    (idxA 5 (c3) i5).bind fun c25 =>
    (fldA c25 1).bind fun c26 =>
    (fldA c26 3).bind fun c27 =>
    (deref h24 (c27)).bind fun p28 =>
    (cC p28.1 p28.2).bind fun c29 =>
    (run_laws_markStringS [.one (c29), .one (Cell.int (IntKind.i64.wrap ((IntKind.i64.wrap ((IntKind.i64.wrap ((IntKind.i64.wrap (i4 + 1)) + 1)) + 1)) + 1)))] h24).bind fun r30 =>
    cond (shapeOk rk_laws_markStringS r30.1)
    ((cI .i64 (cellsAt r30.1 0) 0).bind fun i31 =>
    laws_markPickS_l0 k m n (c3) i31 (IntKind.i64.wrap (i5 + 1)) r30.2)
    none)
    none)
    (some ([.one (Cell.int i4)], H6))
noncomputable def laws_markPickS (k m : Nat) (c1 : Cell) (i2 : Int) (H : List Entry) : Option Res :=
  laws_markPickS_l0 k m m (c1) i2 0 H
noncomputable abbrev laws_markPickS_l0_B (k m : Nat) : (Ex → Fr → Option Res) → Fr → Option Res := evC G_laws_markPickS fi_laws_markPickS (evF G_laws_markPickS (k + 1)) m (sub [1, 0, 1, 2, 3] fi_laws_markPickS.code) none
noncomputable abbrev laws_markPickS_l0_K (k m : Nat) : Ex → Fr → Option Res := blockK 0 (seqK (evC G_laws_markPickS fi_laws_markPickS (evF G_laws_markPickS (k + 1)) m (sub [1, 1] fi_laws_markPickS.code) none) (retK G_laws_markPickS fi_laws_markPickS))
theorem laws_markPickS_l0_eq (k m : Nat) : ∀ (n : Nat) (c3 : Cell) (i4 : Int) (i5 : Int) (H6 : List Entry), loopK (some [0, 1, 5]) (laws_markPickS_l0_B k m) (laws_markPickS_l0_K k m) n ⟨fT 53 0 [(0, .av (.one (c3))), (1, .av (.one (Cell.int i4))), (5, .av (.one (Cell.int i5)))], fX 53 0 [], H6⟩ = laws_markPickS_l0 (k + 1) m n c3 i4 i5 H6 := by
  intro n
  induction n with
  | zero => intros; rfl
  | succ n ih =>
    intros
    simp only [laws_markPickS_l0, ← ih]
    kernel_rfl
theorem laws_markPickS_code (k m : Nat) (c1 : Cell) (i2 : Int) (H : List Entry) : evC G_laws_markPickS fi_laws_markPickS (evF G_laws_markPickS (k + 1)) m fi_laws_markPickS.code none (retK G_laws_markPickS fi_laws_markPickS) (enter fi_laws_markPickS [.one (c1), .one (Cell.int i2)] H) = laws_markPickS (k + 1) m c1 i2 H := by
  simp only [laws_markPickS, ← laws_markPickS_l0_eq k m]
  kernel_rfl
theorem laws_markPickS_eq (k : Nat) (c1 : Cell) (i2 : Int) (H : List Entry) : evF G_laws_markPickS (k + 2) fid_laws_markPickS [.one (c1), .one (Cell.int i2)] H = laws_markPickS (k + 1) (k + 1) c1 i2 H :=
  Eq.trans (by kernel_rfl) (laws_markPickS_code k (k + 1) c1 i2 H)
theorem run_laws_markPickS_of {c1 : Cell} {i2 : Int} {H : List Entry} {r : Res} (k : Nat) (h : laws_markPickS (k + 1) (k + 1) c1 i2 H = some r) : run_laws_markPickS [.one (c1), .one (Cell.int i2)] H = some r := lim_of ((laws_markPickS_eq k c1 i2 H).trans h)
noncomputable def pl_laws_markVer : List (Nat × Run) := [(fid_laws_markStringS, run_laws_markStringS)]
noncomputable def G_laws_markVer : Ctx := ctx tyTab fiTab pl_laws_markVer
noncomputable def run_laws_markVer : Run := lim G_laws_markVer fid_laws_markVer
theorem ok_laws_markVer : FnOk Try.prog OkT fid_laws_markVer run_laws_markVer := lim_ok (l := pl_laws_markVer) Try_mix tyTab_ok fiTab_ok okT (.cons ok_laws_markStringS .nil) fid_laws_markVer
noncomputable def laws_markVer (k m : Nat) (i1 : Int) (i2 : Int) (i3 : Int) (c4 : Cell) (i5 : Int) (H : List Entry) : Option Res :=
  (run_laws_markStringS [.one (c4), .one (Cell.int i5)] H).bind fun r6 =>
  cond (shapeOk rk_laws_markStringS r6.1)
  ((cI .i64 (cellsAt r6.1 0) 0).bind fun i7 =>
  some ([.one (Cell.int i7)], r6.2))
  none
theorem laws_markVer_code (k m : Nat) (i1 : Int) (i2 : Int) (i3 : Int) (c4 : Cell) (i5 : Int) (H : List Entry) : evC G_laws_markVer fi_laws_markVer (evF G_laws_markVer (k + 1)) m fi_laws_markVer.code none (retK G_laws_markVer fi_laws_markVer) (enter fi_laws_markVer [.agg [Cell.int i1, Cell.int i2, Cell.int i3, c4], .one (Cell.int i5)] H) = laws_markVer (k + 1) m i1 i2 i3 c4 i5 H := by
  kernel_rfl
theorem laws_markVer_eq (k : Nat) (i1 : Int) (i2 : Int) (i3 : Int) (c4 : Cell) (i5 : Int) (H : List Entry) : evF G_laws_markVer (k + 2) fid_laws_markVer [.agg [Cell.int i1, Cell.int i2, Cell.int i3, c4], .one (Cell.int i5)] H = laws_markVer (k + 1) (k + 1) i1 i2 i3 c4 i5 H :=
  Eq.trans (by kernel_rfl) (laws_markVer_code k (k + 1) i1 i2 i3 c4 i5 H)
theorem run_laws_markVer_of {i1 : Int} {i2 : Int} {i3 : Int} {c4 : Cell} {i5 : Int} {H : List Entry} {r : Res} (k : Nat) (h : laws_markVer (k + 1) (k + 1) i1 i2 i3 c4 i5 H = some r) : run_laws_markVer [.agg [Cell.int i1, Cell.int i2, Cell.int i3, c4], .one (Cell.int i5)] H = some r := lim_of ((laws_markVer_eq k i1 i2 i3 c4 i5 H).trans h)
noncomputable def pl_laws_heldStringS : List (Nat × Run) := [(fid_laws_markText, run_laws_markText)]
noncomputable def G_laws_heldStringS : Ctx := ctx tyTab fiTab pl_laws_heldStringS
noncomputable def run_laws_heldStringS : Run := lim G_laws_heldStringS fid_laws_heldStringS
theorem ok_laws_heldStringS : FnOk Try.prog OkT fid_laws_heldStringS run_laws_heldStringS := lim_ok (l := pl_laws_heldStringS) Try_mix tyTab_ok fiTab_ok okT (.cons ok_laws_markText .nil) fid_laws_heldStringS
noncomputable def laws_heldStringS_l0 (k m : Nat) : Nat → Cell → Int → Int → Option Res
  | 0, _, _, _ => none
  | n + 1, c3, i4, i5 =>
    (lenC c3).bind fun n6 =>
    cond (decide (i5 < (n6 : Int)))
    ((idxA 1 (c3) i5).bind fun c7 =>
    (deref [] (c7)).bind fun p8 =>
    (cS p8.1 p8.2).bind fun s9 =>
    (callS run_laws_markText [.one (Cell.int i4)] []).bind fun r10 =>
    cond (shapeOk rk_laws_markText r10)
    ((cS (cellsAt r10 0) 0).bind fun s11 =>
    cond (!(s9.toList == s11.toList))
    (some ([.one (Cell.int (-1))], []))
    (laws_heldStringS_l0 k m n (c3) (IntKind.i64.wrap (i4 + 1)) (IntKind.i64.wrap (i5 + 1))))
    none)
    (some ([.one (Cell.int i4)], []))
noncomputable def laws_heldStringS (k m : Nat) (c1 : Cell) (i2 : Int) : Option Res :=
  laws_heldStringS_l0 k m m (c1) i2 0
noncomputable abbrev laws_heldStringS_l0_B (k m : Nat) : (Ex → Fr → Option Res) → Fr → Option Res := evC G_laws_heldStringS fi_laws_heldStringS (evF G_laws_heldStringS (k + 1)) m (sub [1, 0, 1, 2, 3] fi_laws_heldStringS.code) none
noncomputable abbrev laws_heldStringS_l0_K (k m : Nat) : Ex → Fr → Option Res := blockK 0 (seqK (evC G_laws_heldStringS fi_laws_heldStringS (evF G_laws_heldStringS (k + 1)) m (sub [1, 1] fi_laws_heldStringS.code) none) (retK G_laws_heldStringS fi_laws_heldStringS))
theorem laws_heldStringS_l0_eq (k m : Nat) : ∀ (n : Nat) (c3 : Cell) (i4 : Int) (i5 : Int), loopK (some [0, 1, 5]) (laws_heldStringS_l0_B k m) (laws_heldStringS_l0_K k m) n ⟨fT 22 0 [(0, .av (.one (c3))), (1, .av (.one (Cell.int i4))), (5, .av (.one (Cell.int i5)))], fX 22 0 [], []⟩ = laws_heldStringS_l0 (k + 1) m n c3 i4 i5 := by
  intro n
  induction n with
  | zero => intros; rfl
  | succ n ih =>
    intros
    simp only [laws_heldStringS_l0, ← ih]
    kernel_rfl
theorem laws_heldStringS_code (k m : Nat) (c1 : Cell) (i2 : Int) : evC G_laws_heldStringS fi_laws_heldStringS (evF G_laws_heldStringS (k + 1)) m fi_laws_heldStringS.code none (retK G_laws_heldStringS fi_laws_heldStringS) (enter fi_laws_heldStringS [.one (c1), .one (Cell.int i2)] []) = laws_heldStringS (k + 1) m c1 i2 := by
  simp only [laws_heldStringS, ← laws_heldStringS_l0_eq k m]
  kernel_rfl
theorem laws_heldStringS_eq (k : Nat) (c1 : Cell) (i2 : Int) : evF G_laws_heldStringS (k + 2) fid_laws_heldStringS [.one (c1), .one (Cell.int i2)] [] = laws_heldStringS (k + 1) (k + 1) c1 i2 :=
  Eq.trans (by kernel_rfl) (laws_heldStringS_code k (k + 1) c1 i2)
theorem run_laws_heldStringS_of {c1 : Cell} {i2 : Int} {r : Res} (k : Nat) (h : laws_heldStringS (k + 1) (k + 1) c1 i2 = some r) : run_laws_heldStringS [.one (c1), .one (Cell.int i2)] [] = some r := lim_of ((laws_heldStringS_eq k c1 i2).trans h)
noncomputable def pl_laws_heldVer : List (Nat × Run) := [(fid_laws_heldStringS, run_laws_heldStringS)]
noncomputable def G_laws_heldVer : Ctx := ctx tyTab fiTab pl_laws_heldVer
noncomputable def run_laws_heldVer : Run := lim G_laws_heldVer fid_laws_heldVer
theorem ok_laws_heldVer : FnOk Try.prog OkT fid_laws_heldVer run_laws_heldVer := lim_ok (l := pl_laws_heldVer) Try_mix tyTab_ok fiTab_ok okT (.cons ok_laws_heldStringS .nil) fid_laws_heldVer
noncomputable def laws_heldVer (k m : Nat) (i1 : Int) (i2 : Int) (i3 : Int) (c4 : Cell) (i5 : Int) : Option Res :=
  (callS run_laws_heldStringS [.one (c4), .one (Cell.int i5)] []).bind fun r6 =>
  cond (shapeOk rk_laws_heldStringS r6)
  ((cI .i64 (cellsAt r6 0) 0).bind fun i7 =>
  cond (decide (i7 < 0))
  (some ([.one (Cell.int (-1))], []))
  (some ([.one (Cell.int i7)], [])))
  none
theorem laws_heldVer_code (k m : Nat) (i1 : Int) (i2 : Int) (i3 : Int) (c4 : Cell) (i5 : Int) : evC G_laws_heldVer fi_laws_heldVer (evF G_laws_heldVer (k + 1)) m fi_laws_heldVer.code none (retK G_laws_heldVer fi_laws_heldVer) (enter fi_laws_heldVer [.agg [Cell.int i1, Cell.int i2, Cell.int i3, c4], .one (Cell.int i5)] []) = laws_heldVer (k + 1) m i1 i2 i3 c4 i5 := by
  kernel_rfl
theorem laws_heldVer_eq (k : Nat) (i1 : Int) (i2 : Int) (i3 : Int) (c4 : Cell) (i5 : Int) : evF G_laws_heldVer (k + 2) fid_laws_heldVer [.agg [Cell.int i1, Cell.int i2, Cell.int i3, c4], .one (Cell.int i5)] [] = laws_heldVer (k + 1) (k + 1) i1 i2 i3 c4 i5 :=
  Eq.trans (by kernel_rfl) (laws_heldVer_code k (k + 1) i1 i2 i3 c4 i5)
theorem run_laws_heldVer_of {i1 : Int} {i2 : Int} {i3 : Int} {c4 : Cell} {i5 : Int} {r : Res} (k : Nat) (h : laws_heldVer (k + 1) (k + 1) i1 i2 i3 c4 i5 = some r) : run_laws_heldVer [.agg [Cell.int i1, Cell.int i2, Cell.int i3, c4], .one (Cell.int i5)] [] = some r := lim_of ((laws_heldVer_eq k i1 i2 i3 c4 i5).trans h)
noncomputable def pl_laws_FnExactPickOf : List (Nat × Run) := [(fid_laws_szPickS, run_laws_szPickS), (fid_spec_PickOf, run_spec_PickOf), (fid_laws_toPickS, run_laws_toPickS), (fid_impl_PickOf, run_impl_PickOf), (fid_laws_eqVer, run_laws_eqVer), (fid_laws_eqPickS, run_laws_eqPickS), (fid_laws_markPickS, run_laws_markPickS), (fid_laws_markVer, run_laws_markVer), (fid_laws_heldVer, run_laws_heldVer)]
noncomputable def G_laws_FnExactPickOf : Ctx := ctx tyTab fiTab pl_laws_FnExactPickOf
noncomputable def run_laws_FnExactPickOf : Run := lim G_laws_FnExactPickOf fid_laws_FnExactPickOf
theorem ok_laws_FnExactPickOf : FnOk Try.prog OkT fid_laws_FnExactPickOf run_laws_FnExactPickOf := lim_ok (l := pl_laws_FnExactPickOf) Try_mix tyTab_ok fiTab_ok okT (.cons ok_laws_szPickS (.cons ok_spec_PickOf (.cons ok_laws_toPickS (.cons ok_impl_PickOf (.cons ok_laws_eqVer (.cons ok_laws_eqPickS (.cons ok_laws_markPickS (.cons ok_laws_markVer (.cons ok_laws_heldVer .nil))))))))) fid_laws_FnExactPickOf
noncomputable def laws_FnExactPickOf (k m : Nat) (c1 : Cell) (s2 : ByteArray) : Option Res :=
  cond (decide ((s2.size : Int) > 1048576))
  (some ([.one (Cell.bool true)], []))
  ((callS run_laws_szPickS [.one (c1), .one (Cell.int 1048576)] []).bind fun r3 =>
  cond (shapeOk rk_laws_szPickS r3)
  ((cI .i64 (cellsAt r3 0) 0).bind fun i4 =>
  cond (decide (i4 < 0))
  (some ([.one (Cell.bool true)], []))
  ((callF run_laws_toPickS [.one (c1)] []).bind fun r5 =>
  cond (shapeOk rk_laws_toPickS r5.1)
  ((cC (cellsAt r5.1 0) 0).bind fun c6 =>
  (callL run_spec_PickOf [.one (c6), .one (Cell.str s2)] r5.2).bind fun r7 =>
  cond (shapeOk rk_spec_PickOf r7.1)
  ((cI .i64 (cellsAt r7.1 0) 0).bind fun i8 =>
  (cI .i64 (cellsAt r7.1 0) 1).bind fun i9 =>
  (cI .i64 (cellsAt r7.1 0) 2).bind fun i10 =>
  (cC (cellsAt r7.1 0) 3).bind fun c11 =>
  (cB (cellsAt r7.1 1) 0).bind fun b12 =>
  (callF run_laws_toPickS [.one (c1)] r7.2).bind fun r13 =>
  cond (shapeOk rk_laws_toPickS r13.1)
  ((cC (cellsAt r13.1 0) 0).bind fun c14 =>
  (callF run_impl_PickOf [.one (c14), .one (Cell.str s2)] r13.2).bind fun r15 =>
  cond (shapeOk rk_impl_PickOf r15.1)
  ((cI .i64 (cellsAt r15.1 0) 0).bind fun i16 =>
  (cI .i64 (cellsAt r15.1 0) 1).bind fun i17 =>
  (cI .i64 (cellsAt r15.1 0) 2).bind fun i18 =>
  (cC (cellsAt r15.1 0) 3).bind fun c19 =>
  (cB (cellsAt r15.1 1) 0).bind fun b20 =>
  (callS run_laws_eqVer [.agg [Cell.int i16, Cell.int i17, Cell.int i18, c19], .agg [Cell.int i8, Cell.int i9, Cell.int i10, c11]] r15.2).bind fun r21 =>
  cond (shapeOk rk_laws_eqVer r21)
  ((cB (cellsAt r21 0) 0).bind fun b22 =>
  cond (!b22)
  (some ([.one (Cell.bool false)], r15.2))
  (cond (!(b20 == b12))
  (some ([.one (Cell.bool false)], r15.2))
  ((callF run_laws_toPickS [.one (c1)] r15.2).bind fun r23 =>
  cond (shapeOk rk_laws_toPickS r23.1)
  ((cC (cellsAt r23.1 0) 0).bind fun c24 =>
  (callS run_laws_eqPickS [.one (c14), .one (c24)] r23.2).bind fun r25 =>
  cond (shapeOk rk_laws_eqPickS r25)
  ((cB (cellsAt r25 0) 0).bind fun b26 =>
  cond (!b26)
  (some ([.one (Cell.bool false)], r23.2))
  ((run_laws_markPickS [.one (c14), .one (Cell.int 1)] r23.2).bind fun r27 =>
  cond (shapeOk rk_laws_markPickS r27.1)
  ((cI .i64 (cellsAt r27.1 0) 0).bind fun i28 =>
  cond (decide (i28 < 0))
  (some ([.one (Cell.bool false)], r27.2))
  ((callS run_laws_eqVer [.agg [Cell.int i16, Cell.int i17, Cell.int i18, c19], .agg [Cell.int i8, Cell.int i9, Cell.int i10, c11]] r27.2).bind fun r29 =>
  cond (shapeOk rk_laws_eqVer r29)
  ((cB (cellsAt r29 0) 0).bind fun b30 =>
  cond (!b30)
  (some ([.one (Cell.bool false)], r27.2))
  (cond (!(b20 == b12))
  (some ([.one (Cell.bool false)], r27.2))
  ((run_laws_markVer [.agg [Cell.int i16, Cell.int i17, Cell.int i18, c19], .one (Cell.int 1)] r27.2).bind fun r31 =>
  cond (shapeOk rk_laws_markVer r31.1)
  ((cI .i64 (cellsAt r31.1 0) 0).bind fun i32 =>
  (callS run_laws_heldVer [.agg [Cell.int i16, Cell.int i17, Cell.int i18, c19], .one (Cell.int 1)] r31.2).bind fun r33 =>
  cond (shapeOk rk_laws_heldVer r33)
  ((cI .i64 (cellsAt r33 0) 0).bind fun i34 =>
  cond (decide (i34 < 0))
  (some ([.one (Cell.bool false)], r31.2))
  (cond (i34 != i32)
  (some ([.one (Cell.bool false)], r31.2))
  ((callF run_laws_toPickS [.one (c1)] r31.2).bind fun r35 =>
  cond (shapeOk rk_laws_toPickS r35.1)
  ((cC (cellsAt r35.1 0) 0).bind fun c36 =>
  (callF run_impl_PickOf [.one (c36), .one (Cell.str s2)] r35.2).bind fun r37 =>
  cond (shapeOk rk_impl_PickOf r37.1)
  ((cI .i64 (cellsAt r37.1 0) 0).bind fun i38 =>
  (cI .i64 (cellsAt r37.1 0) 1).bind fun i39 =>
  (cI .i64 (cellsAt r37.1 0) 2).bind fun i40 =>
  (cC (cellsAt r37.1 0) 3).bind fun c41 =>
  (cB (cellsAt r37.1 1) 0).bind fun b42 =>
  (callS run_laws_eqVer [.agg [Cell.int i38, Cell.int i39, Cell.int i40, c41], .agg [Cell.int i8, Cell.int i9, Cell.int i10, c11]] r37.2).bind fun r43 =>
  cond (shapeOk rk_laws_eqVer r43)
  ((cB (cellsAt r43 0) 0).bind fun b44 =>
  cond (!b44)
  (some ([.one (Cell.bool false)], r37.2))
  (cond (!(b42 == b12))
  (some ([.one (Cell.bool false)], r37.2))
  ((callS run_laws_heldVer [.agg [Cell.int i16, Cell.int i17, Cell.int i18, c19], .one (Cell.int 1)] r37.2).bind fun r45 =>
  cond (shapeOk rk_laws_heldVer r45)
  ((cI .i64 (cellsAt r45 0) 0).bind fun i46 =>
  cond (decide (i46 < 0))
  (some ([.one (Cell.bool false)], r37.2))
  (cond (i46 != i32)
  (some ([.one (Cell.bool false)], r37.2))
  (some ([.one (Cell.bool true)], r37.2))))
  none)))
  none)
  none)
  none)))
  none)
  none)))
  none))
  none))
  none)
  none)))
  none)
  none)
  none)
  none)
  none))
  none)
theorem laws_FnExactPickOf_code (k m : Nat) (c1 : Cell) (s2 : ByteArray) : evC G_laws_FnExactPickOf fi_laws_FnExactPickOf (evF G_laws_FnExactPickOf (k + 1)) m fi_laws_FnExactPickOf.code none (retK G_laws_FnExactPickOf fi_laws_FnExactPickOf) (enter fi_laws_FnExactPickOf [.one (c1), .one (Cell.str s2)] []) = laws_FnExactPickOf (k + 1) m c1 s2 := by
  kernel_rfl
theorem laws_FnExactPickOf_eq (k : Nat) (c1 : Cell) (s2 : ByteArray) : evF G_laws_FnExactPickOf (k + 2) fid_laws_FnExactPickOf [.one (c1), .one (Cell.str s2)] [] = laws_FnExactPickOf (k + 1) (k + 1) c1 s2 :=
  Eq.trans (by kernel_rfl) (laws_FnExactPickOf_code k (k + 1) c1 s2)
theorem run_laws_FnExactPickOf_of {c1 : Cell} {s2 : ByteArray} {r : Res} (k : Nat) (h : laws_FnExactPickOf (k + 1) (k + 1) c1 s2 = some r) : run_laws_FnExactPickOf [.one (c1), .one (Cell.str s2)] [] = some r := lim_of ((laws_FnExactPickOf_eq k c1 s2).trans h)
end Go.Ev
