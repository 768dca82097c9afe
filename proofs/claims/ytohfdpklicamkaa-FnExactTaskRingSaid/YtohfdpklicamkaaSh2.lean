/- What the evaluator says of the functions, each as a Lean function over cells. Printed by a program of this claim. Conditions: none. -/
import Derived.Test.YtohfdpklicamkaaSh1
import Derived.KernelRfl
namespace Go.Ev
open Go Go.Proofs
set_option maxRecDepth 100000
set_option linter.unusedVariables false
set_option linter.unusedSimpArgs false
noncomputable def pl_laws_markStringS : List (Nat × Run) := [(fid_laws_markText, run_laws_markText)]
noncomputable def G_laws_markStringS : Ctx := ctx tyTab fiTab pl_laws_markStringS
noncomputable def run_laws_markStringS : Run := lim G_laws_markStringS fid_laws_markStringS
theorem ok_laws_markStringS : FnOk Try.prog OkT fid_laws_markStringS run_laws_markStringS := lim_ok (l := pl_laws_markStringS) Try_mix tyTab_ok fiTab_ok okT (.cons ok_laws_markText .nil) fid_laws_markStringS
noncomputable def laws_markStringS_l0 (k m : Nat) : Nat → Cell → Int → Int → List Entry → Option Res
  | 0, _, _, _, _ => none
  | n + 1, c3, i4, i5, H6 =>
    (lenC c3).bind fun n7 =>
    cond (decide (i5 < (n7 : Int)))
    ((callS run_laws_markText [.one (Cell.int i4)] H6).bind fun r8 =>
    cond (shapeOk rk_laws_markText r8)
    ((cS (cellsAt r8 0) 0).bind fun s9 =>
    (idxA 1 (c3) i5).bind fun c10 =>
    (hStore H6 (c10) [Cell.str s9]).bind fun h11 =>
    laws_markStringS_l0 k m n (c3) (IntKind.i64.wrap (i4 + 1)) (IntKind.i64.wrap (i5 + 1)) h11)
    none)
    (some ([.one (Cell.int i4)], H6))
noncomputable def laws_markStringS (k m : Nat) (c1 : Cell) (i2 : Int) (H : List Entry) : Option Res :=
  laws_markStringS_l0 k m m (c1) i2 0 H
noncomputable abbrev laws_markStringS_l0_B (k m : Nat) : (Ex → Fr → Option Res) → Fr → Option Res := evC G_laws_markStringS fi_laws_markStringS (evF G_laws_markStringS (k + 1)) m (sub [1, 0, 1, 2, 3] fi_laws_markStringS.code) none
noncomputable abbrev laws_markStringS_l0_K (k m : Nat) : Ex → Fr → Option Res := blockK 0 (seqK (evC G_laws_markStringS fi_laws_markStringS (evF G_laws_markStringS (k + 1)) m (sub [1, 1] fi_laws_markStringS.code) none) (retK G_laws_markStringS fi_laws_markStringS))
theorem laws_markStringS_l0_eq (k m : Nat) : ∀ (n : Nat) (c3 : Cell) (i4 : Int) (i5 : Int) (H6 : List Entry), loopK (some [0, 1, 5]) (laws_markStringS_l0_B k m) (laws_markStringS_l0_K k m) n ⟨fT 20 0 [(0, .av (.one (c3))), (1, .av (.one (Cell.int i4))), (5, .av (.one (Cell.int i5)))], fX 20 0 [], H6⟩ = laws_markStringS_l0 (k + 1) m n c3 i4 i5 H6 := by
  intro n
  induction n with
  | zero => intros; rfl
  | succ n ih =>
    intros
    simp only [laws_markStringS_l0, ← ih]
    kernel_rfl
theorem laws_markStringS_code (k m : Nat) (c1 : Cell) (i2 : Int) (H : List Entry) : evC G_laws_markStringS fi_laws_markStringS (evF G_laws_markStringS (k + 1)) m fi_laws_markStringS.code none (retK G_laws_markStringS fi_laws_markStringS) (enter fi_laws_markStringS [.one (c1), .one (Cell.int i2)] H) = laws_markStringS (k + 1) m c1 i2 H := by
  simp only [laws_markStringS, ← laws_markStringS_l0_eq k m]
  kernel_rfl
theorem laws_markStringS_eq (k : Nat) (c1 : Cell) (i2 : Int) (H : List Entry) : evF G_laws_markStringS (k + 2) fid_laws_markStringS [.one (c1), .one (Cell.int i2)] H = laws_markStringS (k + 1) (k + 1) c1 i2 H :=
  Eq.trans (by kernel_rfl) (laws_markStringS_code k (k + 1) c1 i2 H)
theorem run_laws_markStringS_of {c1 : Cell} {i2 : Int} {H : List Entry} {r : Res} (k : Nat) (h : laws_markStringS (k + 1) (k + 1) c1 i2 H = some r) : run_laws_markStringS [.one (c1), .one (Cell.int i2)] H = some r := lim_of ((laws_markStringS_eq k c1 i2 H).trans h)
noncomputable def pl_laws_markStringSS : List (Nat × Run) := [(fid_laws_markStringS, run_laws_markStringS)]
noncomputable def G_laws_markStringSS : Ctx := ctx tyTab fiTab pl_laws_markStringSS
noncomputable def run_laws_markStringSS : Run := lim G_laws_markStringSS fid_laws_markStringSS
theorem ok_laws_markStringSS : FnOk Try.prog OkT fid_laws_markStringSS run_laws_markStringSS := lim_ok (l := pl_laws_markStringSS) Try_mix tyTab_ok fiTab_ok okT (.cons ok_laws_markStringS .nil) fid_laws_markStringSS
noncomputable def laws_markStringSS_l0 (k m : Nat) : Nat → Cell → Int → Int → List Entry → Option Res
  | 0, _, _, _, _ => none
  | n + 1, c3, i4, i5, H6 =>
    (lenC c3).bind fun n7 =>
    cond (decide (i5 < (n7 : Int)))
    ((idxA 1 (c3) i5).bind fun c8 =>
    (deref H6 (c8)).bind fun p9 =>
    (cC p9.1 p9.2).bind fun c10 =>
    (run_laws_markStringS [.one (c10), .one (Cell.int i4)] H6).bind fun r11 =>
    cond (shapeOk rk_laws_markStringS r11.1)
    ((cI .i64 (cellsAt r11.1 0) 0).bind fun i12 =>
    laws_markStringSS_l0 k m n (c3) i12 (IntKind.i64.wrap (i5 + 1)) r11.2)
    none)
    (some ([.one (Cell.int i4)], H6))
noncomputable def laws_markStringSS (k m : Nat) (c1 : Cell) (i2 : Int) (H : List Entry) : Option Res :=
  laws_markStringSS_l0 k m m (c1) i2 0 H
noncomputable abbrev laws_markStringSS_l0_B (k m : Nat) : (Ex → Fr → Option Res) → Fr → Option Res := evC G_laws_markStringSS fi_laws_markStringSS (evF G_laws_markStringSS (k + 1)) m (sub [1, 0, 1, 2, 3] fi_laws_markStringSS.code) none
noncomputable abbrev laws_markStringSS_l0_K (k m : Nat) : Ex → Fr → Option Res := blockK 0 (seqK (evC G_laws_markStringSS fi_laws_markStringSS (evF G_laws_markStringSS (k + 1)) m (sub [1, 1] fi_laws_markStringSS.code) none) (retK G_laws_markStringSS fi_laws_markStringSS))
theorem laws_markStringSS_l0_eq (k m : Nat) : ∀ (n : Nat) (c3 : Cell) (i4 : Int) (i5 : Int) (H6 : List Entry), loopK (some [0, 1, 5]) (laws_markStringSS_l0_B k m) (laws_markStringSS_l0_K k m) n ⟨fT 19 0 [(0, .av (.one (c3))), (1, .av (.one (Cell.int i4))), (5, .av (.one (Cell.int i5)))], fX 19 0 [], H6⟩ = laws_markStringSS_l0 (k + 1) m n c3 i4 i5 H6 := by
  intro n
  induction n with
  | zero => intros; rfl
  | succ n ih =>
    intros
    simp only [laws_markStringSS_l0, ← ih]
    kernel_rfl
theorem laws_markStringSS_code (k m : Nat) (c1 : Cell) (i2 : Int) (H : List Entry) : evC G_laws_markStringSS fi_laws_markStringSS (evF G_laws_markStringSS (k + 1)) m fi_laws_markStringSS.code none (retK G_laws_markStringSS fi_laws_markStringSS) (enter fi_laws_markStringSS [.one (c1), .one (Cell.int i2)] H) = laws_markStringSS (k + 1) m c1 i2 H := by
  simp only [laws_markStringSS, ← laws_markStringSS_l0_eq k m]
  kernel_rfl
theorem laws_markStringSS_eq (k : Nat) (c1 : Cell) (i2 : Int) (H : List Entry) : evF G_laws_markStringSS (k + 2) fid_laws_markStringSS [.one (c1), .one (Cell.int i2)] H = laws_markStringSS (k + 1) (k + 1) c1 i2 H :=
  Eq.trans (by kernel_rfl) (laws_markStringSS_code k (k + 1) c1 i2 H)
theorem run_laws_markStringSS_of {c1 : Cell} {i2 : Int} {H : List Entry} {r : Res} (k : Nat) (h : laws_markStringSS (k + 1) (k + 1) c1 i2 H = some r) : run_laws_markStringSS [.one (c1), .one (Cell.int i2)] H = some r := lim_of ((laws_markStringSS_eq k c1 i2 H).trans h)
noncomputable def pl_laws_markPlan : List (Nat × Run) := [(fid_laws_markStringS, run_laws_markStringS), (fid_laws_markStringSS, run_laws_markStringSS)]
noncomputable def G_laws_markPlan : Ctx := ctx tyTab fiTab pl_laws_markPlan
noncomputable def run_laws_markPlan : Run := lim G_laws_markPlan fid_laws_markPlan
theorem ok_laws_markPlan : FnOk Try.prog OkT fid_laws_markPlan run_laws_markPlan := lim_ok (l := pl_laws_markPlan) Try_mix tyTab_ok fiTab_ok okT (.cons ok_laws_markStringS (.cons ok_laws_markStringSS .nil)) fid_laws_markPlan
noncomputable def laws_markPlan (k m : Nat) (c1 : Cell) (c2 : Cell) (i3 : Int) (H : List Entry) : Option Res :=
  (run_laws_markStringS [.one (c1), .one (Cell.int i3)] H).bind fun r4 =>
  cond (shapeOk rk_laws_markStringS r4.1)
  ((cI .i64 (cellsAt r4.1 0) 0).bind fun i5 =>
  (run_laws_markStringSS [.one (c2), .one (Cell.int i5)] r4.2).bind fun r6 =>
  cond (shapeOk rk_laws_markStringSS r6.1)
  ((cI .i64 (cellsAt r6.1 0) 0).bind fun i7 =>
  some ([.one (Cell.int i7)], r6.2))
  none)
  none
theorem laws_markPlan_code (k m : Nat) (c1 : Cell) (c2 : Cell) (i3 : Int) (H : List Entry) : evC G_laws_markPlan fi_laws_markPlan (evF G_laws_markPlan (k + 1)) m fi_laws_markPlan.code none (retK G_laws_markPlan fi_laws_markPlan) (enter fi_laws_markPlan [.agg [c1, c2], .one (Cell.int i3)] H) = laws_markPlan (k + 1) m c1 c2 i3 H := by
  kernel_rfl
theorem laws_markPlan_eq (k : Nat) (c1 : Cell) (c2 : Cell) (i3 : Int) (H : List Entry) : evF G_laws_markPlan (k + 2) fid_laws_markPlan [.agg [c1, c2], .one (Cell.int i3)] H = laws_markPlan (k + 1) (k + 1) c1 c2 i3 H :=
  Eq.trans (by kernel_rfl) (laws_markPlan_code k (k + 1) c1 c2 i3 H)
theorem run_laws_markPlan_of {c1 : Cell} {c2 : Cell} {i3 : Int} {H : List Entry} {r : Res} (k : Nat) (h : laws_markPlan (k + 1) (k + 1) c1 c2 i3 H = some r) : run_laws_markPlan [.agg [c1, c2], .one (Cell.int i3)] H = some r := lim_of ((laws_markPlan_eq k c1 c2 i3 H).trans h)
noncomputable def pl_laws_heldStringS : List (Nat × Run) := [(fid_laws_markText, run_laws_markText)]
noncomputable def G_laws_heldStringS : Ctx := ctx tyTab fiTab pl_laws_heldStringS
noncomputable def run_laws_heldStringS : Run := lim G_laws_heldStringS fid_laws_heldStringS
theorem ok_laws_heldStringS : FnOk Try.prog OkT fid_laws_heldStringS run_laws_heldStringS := lim_ok (l := pl_laws_heldStringS) Try_mix tyTab_ok fiTab_ok okT (.cons ok_laws_markText .nil) fid_laws_heldStringS
noncomputable def laws_heldStringS_l0 (k m : Nat) : Nat → Cell → Int → Int → Option Res
  | 0, _, _, _ => none
  | n + 1, c3, i4, i5 =>
    (lenC c3).bind fun n6 =>
    cond (decide (i5 < (n6 : Int)))
    ((idxA 1 (c3) i5).bind fun c7 =>
    (deref [] (c7)).bind fun p8 =>
    (cS p8.1 p8.2).bind fun s9 =>
    (callS run_laws_markText [.one (Cell.int i4)] []).bind fun r10 =>
    cond (shapeOk rk_laws_markText r10)
    ((cS (cellsAt r10 0) 0).bind fun s11 =>
    cond (!(s9.toList == s11.toList))
    (some ([.one (Cell.int (-1))], []))
    (laws_heldStringS_l0 k m n (c3) (IntKind.i64.wrap (i4 + 1)) (IntKind.i64.wrap (i5 + 1))))
    none)
    (some ([.one (Cell.int i4)], []))
noncomputable def laws_heldStringS (k m : Nat) (c1 : Cell) (i2 : Int) : Option Res :=
  laws_heldStringS_l0 k m m (c1) i2 0
noncomputable abbrev laws_heldStringS_l0_B (k m : Nat) : (Ex → Fr → Option Res) → Fr → Option Res := evC G_laws_heldStringS fi_laws_heldStringS (evF G_laws_heldStringS (k + 1)) m (sub [1, 0, 1, 2, 3] fi_laws_heldStringS.code) none
noncomputable abbrev laws_heldStringS_l0_K (k m : Nat) : Ex → Fr → Option Res := blockK 0 (seqK (evC G_laws_heldStringS fi_laws_heldStringS (evF G_laws_heldStringS (k + 1)) m (sub [1, 1] fi_laws_heldStringS.code) none) (retK G_laws_heldStringS fi_laws_heldStringS))
theorem laws_heldStringS_l0_eq (k m : Nat) : ∀ (n : Nat) (c3 : Cell) (i4 : Int) (i5 : Int), loopK (some [0, 1, 5]) (laws_heldStringS_l0_B k m) (laws_heldStringS_l0_K k m) n ⟨fT 22 0 [(0, .av (.one (c3))), (1, .av (.one (Cell.int i4))), (5, .av (.one (Cell.int i5)))], fX 22 0 [], []⟩ = laws_heldStringS_l0 (k + 1) m n c3 i4 i5 := by
  intro n
  induction n with
  | zero => intros; rfl
  | succ n ih =>
    intros
    simp only [laws_heldStringS_l0, ← ih]
    kernel_rfl
theorem laws_heldStringS_code (k m : Nat) (c1 : Cell) (i2 : Int) : evC G_laws_heldStringS fi_laws_heldStringS (evF G_laws_heldStringS (k + 1)) m fi_laws_heldStringS.code none (retK G_laws_heldStringS fi_laws_heldStringS) (enter fi_laws_heldStringS [.one (c1), .one (Cell.int i2)] []) = laws_heldStringS (k + 1) m c1 i2 := by
  simp only [laws_heldStringS, ← laws_heldStringS_l0_eq k m]
  kernel_rfl
theorem laws_heldStringS_eq (k : Nat) (c1 : Cell) (i2 : Int) : evF G_laws_heldStringS (k + 2) fid_laws_heldStringS [.one (c1), .one (Cell.int i2)] [] = laws_heldStringS (k + 1) (k + 1) c1 i2 :=
  Eq.trans (by kernel_rfl) (laws_heldStringS_code k (k + 1) c1 i2)
theorem run_laws_heldStringS_of {c1 : Cell} {i2 : Int} {r : Res} (k : Nat) (h : laws_heldStringS (k + 1) (k + 1) c1 i2 = some r) : run_laws_heldStringS [.one (c1), .one (Cell.int i2)] [] = some r := lim_of ((laws_heldStringS_eq k c1 i2).trans h)
noncomputable def pl_laws_FnExactTaskRing : List (Nat × Run) := [(fid_laws_szPlan, run_laws_szPlan), (fid_spec_TaskRing, run_spec_TaskRing), (fid_laws_toPlan, run_laws_toPlan), (fid_impl_TaskRing, run_impl_TaskRing), (fid_laws_eqStringS, run_laws_eqStringS), (fid_laws_eqPlan, run_laws_eqPlan), (fid_laws_markPlan, run_laws_markPlan), (fid_laws_markStringS, run_laws_markStringS), (fid_laws_heldStringS, run_laws_heldStringS)]
noncomputable def G_laws_FnExactTaskRing : Ctx := ctx tyTab fiTab pl_laws_FnExactTaskRing
noncomputable def run_laws_FnExactTaskRing : Run := lim G_laws_FnExactTaskRing fid_laws_FnExactTaskRing
theorem ok_laws_FnExactTaskRing : FnOk Try.prog OkT fid_laws_FnExactTaskRing run_laws_FnExactTaskRing := lim_ok (l := pl_laws_FnExactTaskRing) Try_mix tyTab_ok fiTab_ok okT (.cons ok_laws_szPlan (.cons ok_spec_TaskRing (.cons ok_laws_toPlan (.cons ok_impl_TaskRing (.cons ok_laws_eqStringS (.cons ok_laws_eqPlan (.cons ok_laws_markPlan (.cons ok_laws_markStringS (.cons ok_laws_heldStringS .nil))))))))) fid_laws_FnExactTaskRing
noncomputable def laws_FnExactTaskRing (k m : Nat) (c1 : Cell) (c2 : Cell) : Option Res :=
  (callS run_laws_szPlan [.agg [c1, c2], .one (Cell.int 1048576)] []).bind fun r3 =>
  cond (shapeOk rk_laws_szPlan r3)
  ((cI .i64 (cellsAt r3 0) 0).bind fun i4 =>
  cond (decide (i4 < 0))
  (some ([.one (Cell.bool true)], []))
  ((callF run_laws_toPlan [.agg [c1, c2]] []).bind fun r5 =>
  cond (shapeOk rk_laws_toPlan r5.1)
  ((cC (cellsAt r5.1 0) 0).bind fun c6 =>
  (cC (cellsAt r5.1 0) 1).bind fun c7 =>
  (callL run_spec_TaskRing [.agg [c6, c7]] r5.2).bind fun r8 =>
  cond (shapeOk rk_spec_TaskRing r8.1)
  ((cC (cellsAt r8.1 0) 0).bind fun c9 =>
  (callF run_laws_toPlan [.agg [c1, c2]] r8.2).bind fun r10 =>
  cond (shapeOk rk_laws_toPlan r10.1)
  ((cC (cellsAt r10.1 0) 0).bind fun c11 =>
  (cC (cellsAt r10.1 0) 1).bind fun c12 =>
  (callF run_impl_TaskRing [.agg [c11, c12]] r10.2).bind fun r13 =>
  cond (shapeOk rk_impl_TaskRing r13.1)
  ((cC (cellsAt r13.1 0) 0).bind fun c14 =>
  (callS run_laws_eqStringS [.one (c14), .one (c9)] r13.2).bind fun r15 =>
  cond (shapeOk rk_laws_eqStringS r15)
  ((cB (cellsAt r15 0) 0).bind fun b16 =>
  cond (!b16)
  (some ([.one (Cell.bool false)], r13.2))
  ((callF run_laws_toPlan [.agg [c1, c2]] r13.2).bind fun r17 =>
  cond (shapeOk rk_laws_toPlan r17.1)
  ((cC (cellsAt r17.1 0) 0).bind fun c18 =>
  (cC (cellsAt r17.1 0) 1).bind fun c19 =>
  (callS run_laws_eqPlan [.agg [c11, c12], .agg [c18, c19]] r17.2).bind fun r20 =>
  cond (shapeOk rk_laws_eqPlan r20)
  ((cB (cellsAt r20 0) 0).bind fun b21 =>
  cond (!b21)
  (some ([.one (Cell.bool false)], r17.2))
  ((run_laws_markPlan [.agg [c11, c12], .one (Cell.int 1)] r17.2).bind fun r22 =>
  cond (shapeOk rk_laws_markPlan r22.1)
  ((cI .i64 (cellsAt r22.1 0) 0).bind fun i23 =>
  cond (decide (i23 < 0))
  (some ([.one (Cell.bool false)], r22.2))
  ((callS run_laws_eqStringS [.one (c14), .one (c9)] r22.2).bind fun r24 =>
  cond (shapeOk rk_laws_eqStringS r24)
  ((cB (cellsAt r24 0) 0).bind fun b25 =>
  cond (!b25)
  (some ([.one (Cell.bool false)], r22.2))
  ((run_laws_markStringS [.one (c14), .one (Cell.int 1)] r22.2).bind fun r26 =>
  cond (shapeOk rk_laws_markStringS r26.1)
  ((cI .i64 (cellsAt r26.1 0) 0).bind fun i27 =>
  (callS run_laws_heldStringS [.one (c14), .one (Cell.int 1)] r26.2).bind fun r28 =>
  cond (shapeOk rk_laws_heldStringS r28)
  ((cI .i64 (cellsAt r28 0) 0).bind fun i29 =>
  cond (decide (i29 < 0))
  (some ([.one (Cell.bool false)], r26.2))
  (cond (i29 != i27)
  (some ([.one (Cell.bool false)], r26.2))
  ((callF run_laws_toPlan [.agg [c1, c2]] r26.2).bind fun r30 =>
  cond (shapeOk rk_laws_toPlan r30.1)
  ((cC (cellsAt r30.1 0) 0).bind fun c31 =>
  (cC (cellsAt r30.1 0) 1).bind fun c32 =>
  (callF run_impl_TaskRing [.agg [c31, c32]] r30.2).bind fun r33 =>
  cond (shapeOk rk_impl_TaskRing r33.1)
  ((cC (cellsAt r33.1 0) 0).bind fun c34 =>
  (callS run_laws_eqStringS [.one (c34), .one (c9)] r33.2).bind fun r35 =>
  cond (shapeOk rk_laws_eqStringS r35)
  ((cB (cellsAt r35 0) 0).bind fun b36 =>
  cond (!b36)
  (some ([.one (Cell.bool false)], r33.2))
  ((callS run_laws_heldStringS [.one (c14), .one (Cell.int 1)] r33.2).bind fun r37 =>
  cond (shapeOk rk_laws_heldStringS r37)
  ((cI .i64 (cellsAt r37 0) 0).bind fun i38 =>
  cond (decide (i38 < 0))
  (some ([.one (Cell.bool false)], r33.2))
  (cond (i38 != i27)
  (some ([.one (Cell.bool false)], r33.2))
  (some ([.one (Cell.bool true)], r33.2))))
  none))
  none)
  none)
  none)))
  none)
  none))
  none))
  none))
  none)
  none))
  none)
  none)
  none)
  none)
  none))
  none
theorem laws_FnExactTaskRing_code (k m : Nat) (c1 : Cell) (c2 : Cell) : evC G_laws_FnExactTaskRing fi_laws_FnExactTaskRing (evF G_laws_FnExactTaskRing (k + 1)) m fi_laws_FnExactTaskRing.code none (retK G_laws_FnExactTaskRing fi_laws_FnExactTaskRing) (enter fi_laws_FnExactTaskRing [.agg [c1, c2]] []) = laws_FnExactTaskRing (k + 1) m c1 c2 := by
  kernel_rfl
theorem laws_FnExactTaskRing_eq (k : Nat) (c1 : Cell) (c2 : Cell) : evF G_laws_FnExactTaskRing (k + 2) fid_laws_FnExactTaskRing [.agg [c1, c2]] [] = laws_FnExactTaskRing (k + 1) (k + 1) c1 c2 :=
  Eq.trans (by kernel_rfl) (laws_FnExactTaskRing_code k (k + 1) c1 c2)
theorem run_laws_FnExactTaskRing_of {c1 : Cell} {c2 : Cell} {r : Res} (k : Nat) (h : laws_FnExactTaskRing (k + 1) (k + 1) c1 c2 = some r) : run_laws_FnExactTaskRing [.agg [c1, c2]] [] = some r := lim_of ((laws_FnExactTaskRing_eq k c1 c2).trans h)
end Go.Ev
