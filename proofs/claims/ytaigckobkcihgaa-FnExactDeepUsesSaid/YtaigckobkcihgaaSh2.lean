/- What the evaluator says of the functions, each as a Lean function over cells. Printed by a program of this claim. Conditions: none. -/
import Derived.Test.YtaigckobkcihgaaSh1
import Derived.KernelRfl
namespace Go.Ev
open Go Go.Proofs
set_option maxRecDepth 100000
set_option linter.unusedVariables false
set_option linter.unusedSimpArgs false
noncomputable def pl_laws_markPackS : List (Nat × Run) := [(fid_laws_markStringS, run_laws_markStringS), (fid_laws_markText, run_laws_markText), (fid_laws_markNeedS, run_laws_markNeedS), (fid_laws_markCmdS, run_laws_markCmdS)]
noncomputable def G_laws_markPackS : Ctx := ctx tyTab fiTab pl_laws_markPackS
noncomputable def run_laws_markPackS : Run := lim G_laws_markPackS fid_laws_markPackS
theorem ok_laws_markPackS : FnOk Try.prog OkT fid_laws_markPackS run_laws_markPackS := lim_ok (l := pl_laws_markPackS) Try_mix tyTab_ok fiTab_ok okT (.cons ok_laws_markStringS (.cons ok_laws_markText (.cons ok_laws_markNeedS (.cons ok_laws_markCmdS .nil)))) fid_laws_markPackS
noncomputable def laws_markPackS_l0 (k m : Nat) : Nat → Cell → Int → Int → List Entry → Option Res
  | 0, _, _, _, _ => none
  | n + 1, c3, i4, i5, H6 =>
    (lenC c3).bind fun n7 =>
    cond (decide (i5 < (n7 : Int)))
    ((callS run_laws_markText [.one (Cell.int i4)] H6).bind fun r8 =>
    cond (shapeOk rk_laws_markText r8)
    ((cS (cellsAt r8 0) 0).bind fun s9 =>
    (idxA 4 (c3) i5).bind fun c10 =>
    (fldA c10 0).bind fun c11 =>
    (hStore H6 (c11) [Cell.str s9]).bind fun h12 =>
    (idxA 4 (c3) i5).bind fun c13 =>
    (fldA c13 1).bind fun c14 =>
    (deref h12 (c14)).bind fun p15 =>
    (cC p15.1 p15.2).bind fun c16 =>
    (run_laws_markStringS [.one (c16), .one (Cell.int (IntKind.i64.wrap (i4 + 1)))] h12).bind fun r17 =>
    cond (shapeOk rk_laws_markStringS r17.1)
    ((cI .i64 (cellsAt r17.1 0) 0).bind fun i18 =>
    (idxA 4 (c3) i5).bind fun c19 =>
    (fldA c19 2).bind fun c20 =>
    (deref r17.2 (c20)).bind fun p21 =>
    (cC p21.1 p21.2).bind fun c22 =>
    (run_laws_markNeedS [.one (c22), .one (Cell.int i18)] r17.2).bind fun r23 =>
    cond (shapeOk rk_laws_markNeedS r23.1)
    ((cI .i64 (cellsAt r23.1 0) 0).bind fun i24 =>
    (idxA 4 (c3) i5).bind fun c25 =>
    (fldA c25 3).bind fun c26 =>
    (deref r23.2 (c26)).bind fun p27 =>
    (cC p27.1 p27.2).bind fun c28 =>
    (run_laws_markCmdS [.one (c28), .one (Cell.int i24)] r23.2).bind fun r29 =>
    cond (shapeOk rk_laws_markCmdS r29.1)
    ((cI .i64 (cellsAt r29.1 0) 0).bind fun i30 =>
    laws_markPackS_l0 k m n (c3) i30 (IntKind.i64.wrap (i5 + 1)) r29.2)
    none)
    none)
    none)
    none)
    (some ([.one (Cell.int i4)], H6))
noncomputable def laws_markPackS (k m : Nat) (c1 : Cell) (i2 : Int) (H : List Entry) : Option Res :=
  laws_markPackS_l0 k m m (c1) i2 0 H
noncomputable abbrev laws_markPackS_l0_B (k m : Nat) : (Ex → Fr → Option Res) → Fr → Option Res := evC G_laws_markPackS fi_laws_markPackS (evF G_laws_markPackS (k + 1)) m (sub [1, 0, 1, 2, 3] fi_laws_markPackS.code) none
noncomputable abbrev laws_markPackS_l0_K (k m : Nat) : Ex → Fr → Option Res := blockK 0 (seqK (evC G_laws_markPackS fi_laws_markPackS (evF G_laws_markPackS (k + 1)) m (sub [1, 1] fi_laws_markPackS.code) none) (retK G_laws_markPackS fi_laws_markPackS))
theorem laws_markPackS_l0_eq (k m : Nat) : ∀ (n : Nat) (c3 : Cell) (i4 : Int) (i5 : Int) (H6 : List Entry), loopK (some [0, 1, 5]) (laws_markPackS_l0_B k m) (laws_markPackS_l0_K k m) n ⟨fT 42 0 [(0, .av (.one (c3))), (1, .av (.one (Cell.int i4))), (5, .av (.one (Cell.int i5)))], fX 42 0 [], H6⟩ = laws_markPackS_l0 (k + 1) m n c3 i4 i5 H6 := by
  intro n
  induction n with
  | zero => intros; rfl
  | succ n ih =>
    intros
    simp only [laws_markPackS_l0, ← ih]
    kernel_rfl
theorem laws_markPackS_code (k m : Nat) (c1 : Cell) (i2 : Int) (H : List Entry) : evC G_laws_markPackS fi_laws_markPackS (evF G_laws_markPackS (k + 1)) m fi_laws_markPackS.code none (retK G_laws_markPackS fi_laws_markPackS) (enter fi_laws_markPackS [.one (c1), .one (Cell.int i2)] H) = laws_markPackS (k + 1) m c1 i2 H := by
  simp only [laws_markPackS, ← laws_markPackS_l0_eq k m]
  kernel_rfl
theorem laws_markPackS_eq (k : Nat) (c1 : Cell) (i2 : Int) (H : List Entry) : evF G_laws_markPackS (k + 2) fid_laws_markPackS [.one (c1), .one (Cell.int i2)] H = laws_markPackS (k + 1) (k + 1) c1 i2 H :=
  Eq.trans (by kernel_rfl) (laws_markPackS_code k (k + 1) c1 i2 H)
theorem run_laws_markPackS_of {c1 : Cell} {i2 : Int} {H : List Entry} {r : Res} (k : Nat) (h : laws_markPackS (k + 1) (k + 1) c1 i2 H = some r) : run_laws_markPackS [.one (c1), .one (Cell.int i2)] H = some r := lim_of ((laws_markPackS_eq k c1 i2 H).trans h)
noncomputable def pl_laws_heldStringS : List (Nat × Run) := [(fid_laws_markText, run_laws_markText)]
noncomputable def G_laws_heldStringS : Ctx := ctx tyTab fiTab pl_laws_heldStringS
noncomputable def run_laws_heldStringS : Run := lim G_laws_heldStringS fid_laws_heldStringS
theorem ok_laws_heldStringS : FnOk Try.prog OkT fid_laws_heldStringS run_laws_heldStringS := lim_ok (l := pl_laws_heldStringS) Try_mix tyTab_ok fiTab_ok okT (.cons ok_laws_markText .nil) fid_laws_heldStringS
noncomputable def laws_heldStringS_l0 (k m : Nat) : Nat → Cell → Int → Int → Option Res
  | 0, _, _, _ => none
  | n + 1, c3, i4, i5 =>
    (lenC c3).bind fun n6 =>
    cond (decide (i5 < (n6 : Int)))
    ((idxA 1 (c3) i5).bind fun c7 =>
    (deref [] (c7)).bind fun p8 =>
    (cS p8.1 p8.2).bind fun s9 =>
    (callS run_laws_markText [.one (Cell.int i4)] []).bind fun r10 =>
    cond (shapeOk rk_laws_markText r10)
    ((cS (cellsAt r10 0) 0).bind fun s11 =>
    cond (!(s9.toList == s11.toList))
    (some ([.one (Cell.int (-1))], []))
    (laws_heldStringS_l0 k m n (c3) (IntKind.i64.wrap (i4 + 1)) (IntKind.i64.wrap (i5 + 1))))
    none)
    (some ([.one (Cell.int i4)], []))
noncomputable def laws_heldStringS (k m : Nat) (c1 : Cell) (i2 : Int) : Option Res :=
  laws_heldStringS_l0 k m m (c1) i2 0
noncomputable abbrev laws_heldStringS_l0_B (k m : Nat) : (Ex → Fr → Option Res) → Fr → Option Res := evC G_laws_heldStringS fi_laws_heldStringS (evF G_laws_heldStringS (k + 1)) m (sub [1, 0, 1, 2, 3] fi_laws_heldStringS.code) none
noncomputable abbrev laws_heldStringS_l0_K (k m : Nat) : Ex → Fr → Option Res := blockK 0 (seqK (evC G_laws_heldStringS fi_laws_heldStringS (evF G_laws_heldStringS (k + 1)) m (sub [1, 1] fi_laws_heldStringS.code) none) (retK G_laws_heldStringS fi_laws_heldStringS))
theorem laws_heldStringS_l0_eq (k m : Nat) : ∀ (n : Nat) (c3 : Cell) (i4 : Int) (i5 : Int), loopK (some [0, 1, 5]) (laws_heldStringS_l0_B k m) (laws_heldStringS_l0_K k m) n ⟨fT 22 0 [(0, .av (.one (c3))), (1, .av (.one (Cell.int i4))), (5, .av (.one (Cell.int i5)))], fX 22 0 [], []⟩ = laws_heldStringS_l0 (k + 1) m n c3 i4 i5 := by
  intro n
  induction n with
  | zero => intros; rfl
  | succ n ih =>
    intros
    simp only [laws_heldStringS_l0, ← ih]
    kernel_rfl
theorem laws_heldStringS_code (k m : Nat) (c1 : Cell) (i2 : Int) : evC G_laws_heldStringS fi_laws_heldStringS (evF G_laws_heldStringS (k + 1)) m fi_laws_heldStringS.code none (retK G_laws_heldStringS fi_laws_heldStringS) (enter fi_laws_heldStringS [.one (c1), .one (Cell.int i2)] []) = laws_heldStringS (k + 1) m c1 i2 := by
  simp only [laws_heldStringS, ← laws_heldStringS_l0_eq k m]
  kernel_rfl
theorem laws_heldStringS_eq (k : Nat) (c1 : Cell) (i2 : Int) : evF G_laws_heldStringS (k + 2) fid_laws_heldStringS [.one (c1), .one (Cell.int i2)] [] = laws_heldStringS (k + 1) (k + 1) c1 i2 :=
  Eq.trans (by kernel_rfl) (laws_heldStringS_code k (k + 1) c1 i2)
theorem run_laws_heldStringS_of {c1 : Cell} {i2 : Int} {r : Res} (k : Nat) (h : laws_heldStringS (k + 1) (k + 1) c1 i2 = some r) : run_laws_heldStringS [.one (c1), .one (Cell.int i2)] [] = some r := lim_of ((laws_heldStringS_eq k c1 i2).trans h)
noncomputable def pl_laws_FnExactDeepUses : List (Nat × Run) := [(fid_laws_szPackS, run_laws_szPackS), (fid_spec_DeepUses, run_spec_DeepUses), (fid_laws_toPackS, run_laws_toPackS), (fid_impl_DeepUses, run_impl_DeepUses), (fid_laws_eqStringS, run_laws_eqStringS), (fid_laws_eqPackS, run_laws_eqPackS), (fid_laws_markPackS, run_laws_markPackS), (fid_laws_markStringS, run_laws_markStringS), (fid_laws_heldStringS, run_laws_heldStringS)]
noncomputable def G_laws_FnExactDeepUses : Ctx := ctx tyTab fiTab pl_laws_FnExactDeepUses
noncomputable def run_laws_FnExactDeepUses : Run := lim G_laws_FnExactDeepUses fid_laws_FnExactDeepUses
theorem ok_laws_FnExactDeepUses : FnOk Try.prog OkT fid_laws_FnExactDeepUses run_laws_FnExactDeepUses := lim_ok (l := pl_laws_FnExactDeepUses) Try_mix tyTab_ok fiTab_ok okT (.cons ok_laws_szPackS (.cons ok_spec_DeepUses (.cons ok_laws_toPackS (.cons ok_impl_DeepUses (.cons ok_laws_eqStringS (.cons ok_laws_eqPackS (.cons ok_laws_markPackS (.cons ok_laws_markStringS (.cons ok_laws_heldStringS .nil))))))))) fid_laws_FnExactDeepUses
noncomputable def laws_FnExactDeepUses (k m : Nat) (c1 : Cell) (s2 : ByteArray) : Option Res :=
  cond (decide ((s2.size : Int) > 1048576))
  (some ([.one (Cell.bool true)], []))
  ((callS run_laws_szPackS [.one (c1), .one (Cell.int 1048576)] []).bind fun r3 =>
  cond (shapeOk rk_laws_szPackS r3)
  ((cI .i64 (cellsAt r3 0) 0).bind fun i4 =>
  cond (decide (i4 < 0))
  (some ([.one (Cell.bool true)], []))
  ((callF run_laws_toPackS [.one (c1)] []).bind fun r5 =>
  cond (shapeOk rk_laws_toPackS r5.1)
  ((cC (cellsAt r5.1 0) 0).bind fun c6 =>
  (callL run_spec_DeepUses [.one (c6), .one (Cell.str s2)] r5.2).bind fun r7 =>
  cond (shapeOk rk_spec_DeepUses r7.1)
  ((cC (cellsAt r7.1 0) 0).bind fun c8 =>
  (callF run_laws_toPackS [.one (c1)] r7.2).bind fun r9 =>
  cond (shapeOk rk_laws_toPackS r9.1)
  ((cC (cellsAt r9.1 0) 0).bind fun c10 =>
  (callF run_impl_DeepUses [.one (c10), .one (Cell.str s2)] r9.2).bind fun r11 =>
  cond (shapeOk rk_impl_DeepUses r11.1)
  ((cC (cellsAt r11.1 0) 0).bind fun c12 =>
  (callS run_laws_eqStringS [.one (c12), .one (c8)] r11.2).bind fun r13 =>
  cond (shapeOk rk_laws_eqStringS r13)
  ((cB (cellsAt r13 0) 0).bind fun b14 =>
  cond (!b14)
  (some ([.one (Cell.bool false)], r11.2))
  ((callF run_laws_toPackS [.one (c1)] r11.2).bind fun r15 =>
  cond (shapeOk rk_laws_toPackS r15.1)
  ((cC (cellsAt r15.1 0) 0).bind fun c16 =>
  (callS run_laws_eqPackS [.one (c10), .one (c16)] r15.2).bind fun r17 =>
  cond (shapeOk rk_laws_eqPackS r17)
  ((cB (cellsAt r17 0) 0).bind fun b18 =>
  cond (!b18)
  (some ([.one (Cell.bool false)], r15.2))
  ((run_laws_markPackS [.one (c10), .one (Cell.int 1)] r15.2).bind fun r19 =>
  cond (shapeOk rk_laws_markPackS r19.1)
  ((cI .i64 (cellsAt r19.1 0) 0).bind fun i20 =>
  cond (decide (i20 < 0))
  (some ([.one (Cell.bool false)], r19.2))
  ((callS run_laws_eqStringS [.one (c12), .one (c8)] r19.2).bind fun r21 =>
  cond (shapeOk rk_laws_eqStringS r21)
  ((cB (cellsAt r21 0) 0).bind fun b22 =>
  cond (!b22)
  (some ([.one (Cell.bool false)], r19.2))
  ((run_laws_markStringS [.one (c12), .one (Cell.int 1)] r19.2).bind fun r23 =>
  cond (shapeOk rk_laws_markStringS r23.1)
  ((cI .i64 (cellsAt r23.1 0) 0).bind fun i24 =>
  (callS run_laws_heldStringS [.one (c12), .one (Cell.int 1)] r23.2).bind fun r25 =>
  cond (shapeOk rk_laws_heldStringS r25)
  ((cI .i64 (cellsAt r25 0) 0).bind fun i26 =>
  cond (decide (i26 < 0))
  (some ([.one (Cell.bool false)], r23.2))
  (cond (i26 != i24)
  (some ([.one (Cell.bool false)], r23.2))
  ((callF run_laws_toPackS [.one (c1)] r23.2).bind fun r27 =>
  cond (shapeOk rk_laws_toPackS r27.1)
  ((cC (cellsAt r27.1 0) 0).bind fun c28 =>
  (callF run_impl_DeepUses [.one (c28), .one (Cell.str s2)] r27.2).bind fun r29 =>
  cond (shapeOk rk_impl_DeepUses r29.1)
  ((cC (cellsAt r29.1 0) 0).bind fun c30 =>
  (callS run_laws_eqStringS [.one (c30), .one (c8)] r29.2).bind fun r31 =>
  cond (shapeOk rk_laws_eqStringS r31)
  ((cB (cellsAt r31 0) 0).bind fun b32 =>
  cond (!b32)
  (some ([.one (Cell.bool false)], r29.2))
  ((callS run_laws_heldStringS [.one (c12), .one (Cell.int 1)] r29.2).bind fun r33 =>
  cond (shapeOk rk_laws_heldStringS r33)
  ((cI .i64 (cellsAt r33 0) 0).bind fun i34 =>
  cond (decide (i34 < 0))
  (some ([.one (Cell.bool false)], r29.2))
  (cond (i34 != i24)
  (some ([.one (Cell.bool false)], r29.2))
  (some ([.one (Cell.bool true)], r29.2))))
  none))
  none)
  none)
  none)))
  none)
  none))
  none))
  none))
  none)
  none))
  none)
  none)
  none)
  none)
  none))
  none)
theorem laws_FnExactDeepUses_code (k m : Nat) (c1 : Cell) (s2 : ByteArray) : evC G_laws_FnExactDeepUses fi_laws_FnExactDeepUses (evF G_laws_FnExactDeepUses (k + 1)) m fi_laws_FnExactDeepUses.code none (retK G_laws_FnExactDeepUses fi_laws_FnExactDeepUses) (enter fi_laws_FnExactDeepUses [.one (c1), .one (Cell.str s2)] []) = laws_FnExactDeepUses (k + 1) m c1 s2 := by
  kernel_rfl
theorem laws_FnExactDeepUses_eq (k : Nat) (c1 : Cell) (s2 : ByteArray) : evF G_laws_FnExactDeepUses (k + 2) fid_laws_FnExactDeepUses [.one (c1), .one (Cell.str s2)] [] = laws_FnExactDeepUses (k + 1) (k + 1) c1 s2 :=
  Eq.trans (by kernel_rfl) (laws_FnExactDeepUses_code k (k + 1) c1 s2)
theorem run_laws_FnExactDeepUses_of {c1 : Cell} {s2 : ByteArray} {r : Res} (k : Nat) (h : laws_FnExactDeepUses (k + 1) (k + 1) c1 s2 = some r) : run_laws_FnExactDeepUses [.one (c1), .one (Cell.str s2)] [] = some r := lim_of ((laws_FnExactDeepUses_eq k c1 s2).trans h)
end Go.Ev
