/- What the evaluator says of the functions, each as a Lean function over cells. Printed by a program of this claim. Conditions: none. -/
import Derived.Test.YtiocamjonchabaaSh0
import Derived.KernelRfl
namespace Go.Ev
open Go Go.Proofs
set_option maxRecDepth 100000
set_option linter.unusedVariables false
set_option linter.unusedSimpArgs false
noncomputable def pl_laws_markStringS : List (Nat × Run) := [(fid_laws_markText, run_laws_markText)]
noncomputable def G_laws_markStringS : Ctx := ctx tyTab fiTab pl_laws_markStringS
noncomputable def run_laws_markStringS : Run := lim G_laws_markStringS fid_laws_markStringS
theorem ok_laws_markStringS : FnOk Try.prog OkT fid_laws_markStringS run_laws_markStringS := lim_ok (l := pl_laws_markStringS) Try_mix tyTab_ok fiTab_ok okT (.cons ok_laws_markText .nil) fid_laws_markStringS
noncomputable def laws_markStringS_l0 (k m : Nat) : Nat → Cell → Int → Int → List Entry → Option Res
  | 0, _, _, _, _ => none
  | n + 1, c3, i4, i5, H6 =>
    (lenC c3).bind fun n7 =>
    cond (decide (i5 < (n7 : Int)))
    ((callS run_laws_markText [.one (Cell.int i4)] H6).bind fun r8 =>
    cond (shapeOk rk_laws_markText r8)
    ((cS (cellsAt r8 0) 0).bind fun s9 =>
    (idxA 1 (c3) i5).bind fun c10 =>
    (hStore H6 (c10) [Cell.str s9]).bind fun h11 =>
    laws_markStringS_l0 k m n (c3) (IntKind.i64.wrap (i4 + 1)) (IntKind.i64.wrap (i5 + 1)) h11)
    none)
    (some ([.one (Cell.int i4)], H6))
noncomputable def laws_markStringS (k m : Nat) (c1 : Cell) (i2 : Int) (H : List Entry) : Option Res :=
  laws_markStringS_l0 k m m (c1) i2 0 H
noncomputable abbrev laws_markStringS_l0_B (k m : Nat) : (Ex → Fr → Option Res) → Fr → Option Res := evC G_laws_markStringS fi_laws_markStringS (evF G_laws_markStringS (k + 1)) m (sub [1, 0, 1, 2, 3] fi_laws_markStringS.code) none
noncomputable abbrev laws_markStringS_l0_K (k m : Nat) : Ex → Fr → Option Res := blockK 0 (seqK (evC G_laws_markStringS fi_laws_markStringS (evF G_laws_markStringS (k + 1)) m (sub [1, 1] fi_laws_markStringS.code) none) (retK G_laws_markStringS fi_laws_markStringS))
theorem laws_markStringS_l0_eq (k m : Nat) : ∀ (n : Nat) (c3 : Cell) (i4 : Int) (i5 : Int) (H6 : List Entry), loopK (some [0, 1, 5]) (laws_markStringS_l0_B k m) (laws_markStringS_l0_K k m) n ⟨fT 20 0 [(0, .av (.one (c3))), (1, .av (.one (Cell.int i4))), (5, .av (.one (Cell.int i5)))], fX 20 0 [], H6⟩ = laws_markStringS_l0 (k + 1) m n c3 i4 i5 H6 := by
  intro n
  induction n with
  | zero => intros; rfl
  | succ n ih =>
    intros
    simp only [laws_markStringS_l0, ← ih]
    kernel_rfl
theorem laws_markStringS_code (k m : Nat) (c1 : Cell) (i2 : Int) (H : List Entry) : evC G_laws_markStringS fi_laws_markStringS (evF G_laws_markStringS (k + 1)) m fi_laws_markStringS.code none (retK G_laws_markStringS fi_laws_markStringS) (enter fi_laws_markStringS [.one (c1), .one (Cell.int i2)] H) = laws_markStringS (k + 1) m c1 i2 H := by
  simp only [laws_markStringS, ← laws_markStringS_l0_eq k m]
  kernel_rfl
theorem laws_markStringS_eq (k : Nat) (c1 : Cell) (i2 : Int) (H : List Entry) : evF G_laws_markStringS (k + 2) fid_laws_markStringS [.one (c1), .one (Cell.int i2)] H = laws_markStringS (k + 1) (k + 1) c1 i2 H :=
  Eq.trans (by kernel_rfl) (laws_markStringS_code k (k + 1) c1 i2 H)
theorem run_laws_markStringS_of {c1 : Cell} {i2 : Int} {H : List Entry} {r : Res} (k : Nat) (h : laws_markStringS (k + 1) (k + 1) c1 i2 H = some r) : run_laws_markStringS [.one (c1), .one (Cell.int i2)] H = some r := lim_of ((laws_markStringS_eq k c1 i2 H).trans h)
noncomputable def pl_laws_markNeedS : List (Nat × Run) := [(fid_laws_markText, run_laws_markText)]
noncomputable def G_laws_markNeedS : Ctx := ctx tyTab fiTab pl_laws_markNeedS
noncomputable def run_laws_markNeedS : Run := lim G_laws_markNeedS fid_laws_markNeedS
theorem ok_laws_markNeedS : FnOk Try.prog OkT fid_laws_markNeedS run_laws_markNeedS := lim_ok (l := pl_laws_markNeedS) Try_mix tyTab_ok fiTab_ok okT (.cons ok_laws_markText .nil) fid_laws_markNeedS
noncomputable def laws_markNeedS_l0 (k m : Nat) : Nat → Cell → Int → Int → List Entry → Option Res
  | 0, _, _, _, _ => none
  | n + 1, c3, i4, i5, H6 =>
    (lenC c3).bind fun n7 =>
    cond (decide (i5 < (n7 : Int)))
    ((callS run_laws_markText [.one (Cell.int i4)] H6).bind fun r8 =>
    cond (shapeOk rk_laws_markText r8)
    ((cS (cellsAt r8 0) 0).bind fun s9 =>
    (idxA 2 (c3) i5).bind fun c10 =>
    (fldA c10 0).bind fun c11 =>
    (hStore H6 (c11) [Cell.str s9]).bind fun h12 =>
    (callS run_laws_markText [.one (Cell.int (IntKind.i64.wrap (i4 + 1)))] h12).bind fun r13 =>
    cond (shapeOk rk_laws_markText r13)
    ((cS (cellsAt r13 0) 0).bind fun s14 =>
    (idxA 2 (c3) i5).bind fun c15 =>
    (fldA c15 1).bind fun c16 =>
    (hStore h12 (c16) [Cell.str s14]).bind fun h17 =>
    laws_markNeedS_l0 k m n (c3) (IntKind.i64.wrap ((IntKind.i64.wrap (i4 + 1)) + 1)) (IntKind.i64.wrap (i5 + 1)) h17)
    none)
    none)
    (some ([.one (Cell.int i4)], H6))
noncomputable def laws_markNeedS (k m : Nat) (c1 : Cell) (i2 : Int) (H : List Entry) : Option Res :=
  laws_markNeedS_l0 k m m (c1) i2 0 H
noncomputable abbrev laws_markNeedS_l0_B (k m : Nat) : (Ex → Fr → Option Res) → Fr → Option Res := evC G_laws_markNeedS fi_laws_markNeedS (evF G_laws_markNeedS (k + 1)) m (sub [1, 0, 1, 2, 3] fi_laws_markNeedS.code) none
noncomputable abbrev laws_markNeedS_l0_K (k m : Nat) : Ex → Fr → Option Res := blockK 0 (seqK (evC G_laws_markNeedS fi_laws_markNeedS (evF G_laws_markNeedS (k + 1)) m (sub [1, 1] fi_laws_markNeedS.code) none) (retK G_laws_markNeedS fi_laws_markNeedS))
theorem laws_markNeedS_l0_eq (k m : Nat) : ∀ (n : Nat) (c3 : Cell) (i4 : Int) (i5 : Int) (H6 : List Entry), loopK (some [0, 1, 5]) (laws_markNeedS_l0_B k m) (laws_markNeedS_l0_K k m) n ⟨fT 29 0 [(0, .av (.one (c3))), (1, .av (.one (Cell.int i4))), (5, .av (.one (Cell.int i5)))], fX 29 0 [], H6⟩ = laws_markNeedS_l0 (k + 1) m n c3 i4 i5 H6 := by
  intro n
  induction n with
  | zero => intros; rfl
  | succ n ih =>
    intros
    simp only [laws_markNeedS_l0, ← ih]
    kernel_rfl
theorem laws_markNeedS_code (k m : Nat) (c1 : Cell) (i2 : Int) (H : List Entry) : evC G_laws_markNeedS fi_laws_markNeedS (evF G_laws_markNeedS (k + 1)) m fi_laws_markNeedS.code none (retK G_laws_markNeedS fi_laws_markNeedS) (enter fi_laws_markNeedS [.one (c1), .one (Cell.int i2)] H) = laws_markNeedS (k + 1) m c1 i2 H := by
  simp only [laws_markNeedS, ← laws_markNeedS_l0_eq k m]
  kernel_rfl
theorem laws_markNeedS_eq (k : Nat) (c1 : Cell) (i2 : Int) (H : List Entry) : evF G_laws_markNeedS (k + 2) fid_laws_markNeedS [.one (c1), .one (Cell.int i2)] H = laws_markNeedS (k + 1) (k + 1) c1 i2 H :=
  Eq.trans (by kernel_rfl) (laws_markNeedS_code k (k + 1) c1 i2 H)
theorem run_laws_markNeedS_of {c1 : Cell} {i2 : Int} {H : List Entry} {r : Res} (k : Nat) (h : laws_markNeedS (k + 1) (k + 1) c1 i2 H = some r) : run_laws_markNeedS [.one (c1), .one (Cell.int i2)] H = some r := lim_of ((laws_markNeedS_eq k c1 i2 H).trans h)
noncomputable def pl_laws_markCmdS : List (Nat × Run) := [(fid_laws_markStringS, run_laws_markStringS), (fid_laws_markText, run_laws_markText)]
noncomputable def G_laws_markCmdS : Ctx := ctx tyTab fiTab pl_laws_markCmdS
noncomputable def run_laws_markCmdS : Run := lim G_laws_markCmdS fid_laws_markCmdS
theorem ok_laws_markCmdS : FnOk Try.prog OkT fid_laws_markCmdS run_laws_markCmdS := lim_ok (l := pl_laws_markCmdS) Try_mix tyTab_ok fiTab_ok okT (.cons ok_laws_markStringS (.cons ok_laws_markText .nil)) fid_laws_markCmdS
noncomputable def laws_markCmdS_l0 (k m : Nat) : Nat → Cell → Int → Int → List Entry → Option Res
  | 0, _, _, _, _ => none
  | n + 1, c3, i4, i5, H6 =>
    (lenC c3).bind fun n7 =>
    cond (decide (i5 < (n7 : Int)))
    ((callS run_laws_markText [.one (Cell.int i4)] H6).bind fun r8 =>
    cond (shapeOk rk_laws_markText r8)
    ((cS (cellsAt r8 0) 0).bind fun s9 =>
    (idxA 2 (c3) i5).bind fun c10 =>
    (fldA c10 0).bind fun c11 =>
    (hStore H6 (c11) [Cell.str s9]).bind fun h12 =>
    (idxA 2 (c3) i5).bind fun c13 =>
    (fldA c13 1).bind fun c14 =>
    (deref h12 (c14)).bind fun p15 =>
    (cC p15.1 p15.2).bind fun c16 =>
    (run_laws_markStringS [.one (c16), .one (Cell.int (IntKind.i64.wrap (i4 + 1)))] h12).bind fun r17 =>
    cond (shapeOk rk_laws_markStringS r17.1)
    ((cI .i64 (cellsAt r17.1 0) 0).bind fun i18 =>
    laws_markCmdS_l0 k m n (c3) i18 (IntKind.i64.wrap (i5 + 1)) r17.2)
    none)
    none)
    (some ([.one (Cell.int i4)], H6))
noncomputable def laws_markCmdS (k m : Nat) (c1 : Cell) (i2 : Int) (H : List Entry) : Option Res :=
  laws_markCmdS_l0 k m m (c1) i2 0 H
noncomputable abbrev laws_markCmdS_l0_B (k m : Nat) : (Ex → Fr → Option Res) → Fr → Option Res := evC G_laws_markCmdS fi_laws_markCmdS (evF G_laws_markCmdS (k + 1)) m (sub [1, 0, 1, 2, 3] fi_laws_markCmdS.code) none
noncomputable abbrev laws_markCmdS_l0_K (k m : Nat) : Ex → Fr → Option Res := blockK 0 (seqK (evC G_laws_markCmdS fi_laws_markCmdS (evF G_laws_markCmdS (k + 1)) m (sub [1, 1] fi_laws_markCmdS.code) none) (retK G_laws_markCmdS fi_laws_markCmdS))
theorem laws_markCmdS_l0_eq (k m : Nat) : ∀ (n : Nat) (c3 : Cell) (i4 : Int) (i5 : Int) (H6 : List Entry), loopK (some [0, 1, 5]) (laws_markCmdS_l0_B k m) (laws_markCmdS_l0_K k m) n ⟨fT 28 0 [(0, .av (.one (c3))), (1, .av (.one (Cell.int i4))), (5, .av (.one (Cell.int i5)))], fX 28 0 [], H6⟩ = laws_markCmdS_l0 (k + 1) m n c3 i4 i5 H6 := by
  intro n
  induction n with
  | zero => intros; rfl
  | succ n ih =>
    intros
    simp only [laws_markCmdS_l0, ← ih]
    kernel_rfl
theorem laws_markCmdS_code (k m : Nat) (c1 : Cell) (i2 : Int) (H : List Entry) : evC G_laws_markCmdS fi_laws_markCmdS (evF G_laws_markCmdS (k + 1)) m fi_laws_markCmdS.code none (retK G_laws_markCmdS fi_laws_markCmdS) (enter fi_laws_markCmdS [.one (c1), .one (Cell.int i2)] H) = laws_markCmdS (k + 1) m c1 i2 H := by
  simp only [laws_markCmdS, ← laws_markCmdS_l0_eq k m]
  kernel_rfl
theorem laws_markCmdS_eq (k : Nat) (c1 : Cell) (i2 : Int) (H : List Entry) : evF G_laws_markCmdS (k + 2) fid_laws_markCmdS [.one (c1), .one (Cell.int i2)] H = laws_markCmdS (k + 1) (k + 1) c1 i2 H :=
  Eq.trans (by kernel_rfl) (laws_markCmdS_code k (k + 1) c1 i2 H)
theorem run_laws_markCmdS_of {c1 : Cell} {i2 : Int} {H : List Entry} {r : Res} (k : Nat) (h : laws_markCmdS (k + 1) (k + 1) c1 i2 H = some r) : run_laws_markCmdS [.one (c1), .one (Cell.int i2)] H = some r := lim_of ((laws_markCmdS_eq k c1 i2 H).trans h)
noncomputable def pl_laws_markPackS : List (Nat × Run) := [(fid_laws_markStringS, run_laws_markStringS), (fid_laws_markText, run_laws_markText), (fid_laws_markNeedS, run_laws_markNeedS), (fid_laws_markCmdS, run_laws_markCmdS)]
noncomputable def G_laws_markPackS : Ctx := ctx tyTab fiTab pl_laws_markPackS
noncomputable def run_laws_markPackS : Run := lim G_laws_markPackS fid_laws_markPackS
theorem ok_laws_markPackS : FnOk Try.prog OkT fid_laws_markPackS run_laws_markPackS := lim_ok (l := pl_laws_markPackS) Try_mix tyTab_ok fiTab_ok okT (.cons ok_laws_markStringS (.cons ok_laws_markText (.cons ok_laws_markNeedS (.cons ok_laws_markCmdS .nil)))) fid_laws_markPackS
noncomputable def laws_markPackS_l0 (k m : Nat) : Nat → Cell → Int → Int → List Entry → Option Res
  | 0, _, _, _, _ => none
  | n + 1, c3, i4, i5, H6 =>
    (lenC c3).bind fun n7 =>
    cond (decide (i5 < (n7 : Int)))
    ((callS run_laws_markText [.one (Cell.int i4)] H6).bind fun r8 =>
    cond (shapeOk rk_laws_markText r8)
    ((cS (cellsAt r8 0) 0).bind fun s9 =>
    (idxA 4 (c3) i5).bind fun c10 =>
    (fldA c10 0).bind fun c11 =>
    (hStore H6 (c11) [Cell.str s9]).bind fun h12 =>
    (idxA 4 (c3) i5).bind fun c13 =>
    (fldA c13 1).bind fun c14 =>
    (deref h12 (c14)).bind fun p15 =>
    (cC p15.1 p15.2).bind fun c16 =>
    (run_laws_markStringS [.one (c16), .one (Cell.int (IntKind.i64.wrap (i4 + 1)))] h12).bind fun r17 =>
    cond (shapeOk rk_laws_markStringS r17.1)
    ((cI .i64 (cellsAt r17.1 0) 0).bind fun i18 =>
    (idxA 4 (c3) i5).bind fun c19 =>
    (fldA c19 2).bind fun c20 =>
    (deref r17.2 (c20)).bind fun p21 =>
    (cC p21.1 p21.2).bind fun c22 =>
    (run_laws_markNeedS [.one (c22), .one (Cell.int i18)] r17.2).bind fun r23 =>
    cond (shapeOk rk_laws_markNeedS r23.1)
    ((cI .i64 (cellsAt r23.1 0) 0).bind fun i24 =>
    (idxA 4 (c3) i5).bind fun c25 =>
    (fldA c25 3).bind fun c26 =>
    (deref r23.2 (c26)).bind fun p27 =>
    (cC p27.1 p27.2).bind fun c28 =>
    (run_laws_markCmdS [.one (c28), .one (Cell.int i24)] r23.2).bind fun r29 =>
    cond (shapeOk rk_laws_markCmdS r29.1)
    ((cI .i64 (cellsAt r29.1 0) 0).bind fun i30 =>
    laws_markPackS_l0 k m n (c3) i30 (IntKind.i64.wrap (i5 + 1)) r29.2)
    none)
    none)
    none)
    none)
    (some ([.one (Cell.int i4)], H6))
noncomputable def laws_markPackS (k m : Nat) (c1 : Cell) (i2 : Int) (H : List Entry) : Option Res :=
  laws_markPackS_l0 k m m (c1) i2 0 H
noncomputable abbrev laws_markPackS_l0_B (k m : Nat) : (Ex → Fr → Option Res) → Fr → Option Res := evC G_laws_markPackS fi_laws_markPackS (evF G_laws_markPackS (k + 1)) m (sub [1, 0, 1, 2, 3] fi_laws_markPackS.code) none
noncomputable abbrev laws_markPackS_l0_K (k m : Nat) : Ex → Fr → Option Res := blockK 0 (seqK (evC G_laws_markPackS fi_laws_markPackS (evF G_laws_markPackS (k + 1)) m (sub [1, 1] fi_laws_markPackS.code) none) (retK G_laws_markPackS fi_laws_markPackS))
theorem laws_markPackS_l0_eq (k m : Nat) : ∀ (n : Nat) (c3 : Cell) (i4 : Int) (i5 : Int) (H6 : List Entry), loopK (some [0, 1, 5]) (laws_markPackS_l0_B k m) (laws_markPackS_l0_K k m) n ⟨fT 42 0 [(0, .av (.one (c3))), (1, .av (.one (Cell.int i4))), (5, .av (.one (Cell.int i5)))], fX 42 0 [], H6⟩ = laws_markPackS_l0 (k + 1) m n c3 i4 i5 H6 := by
  intro n
  induction n with
  | zero => intros; rfl
  | succ n ih =>
    intros
    simp only [laws_markPackS_l0, ← ih]
    kernel_rfl
theorem laws_markPackS_code (k m : Nat) (c1 : Cell) (i2 : Int) (H : List Entry) : evC G_laws_markPackS fi_laws_markPackS (evF G_laws_markPackS (k + 1)) m fi_laws_markPackS.code none (retK G_laws_markPackS fi_laws_markPackS) (enter fi_laws_markPackS [.one (c1), .one (Cell.int i2)] H) = laws_markPackS (k + 1) m c1 i2 H := by
  simp only [laws_markPackS, ← laws_markPackS_l0_eq k m]
  kernel_rfl
theorem laws_markPackS_eq (k : Nat) (c1 : Cell) (i2 : Int) (H : List Entry) : evF G_laws_markPackS (k + 2) fid_laws_markPackS [.one (c1), .one (Cell.int i2)] H = laws_markPackS (k + 1) (k + 1) c1 i2 H :=
  Eq.trans (by kernel_rfl) (laws_markPackS_code k (k + 1) c1 i2 H)
theorem run_laws_markPackS_of {c1 : Cell} {i2 : Int} {H : List Entry} {r : Res} (k : Nat) (h : laws_markPackS (k + 1) (k + 1) c1 i2 H = some r) : run_laws_markPackS [.one (c1), .one (Cell.int i2)] H = some r := lim_of ((laws_markPackS_eq k c1 i2 H).trans h)
noncomputable def pl_laws_heldStringS : List (Nat × Run) := [(fid_laws_markText, run_laws_markText)]
noncomputable def G_laws_heldStringS : Ctx := ctx tyTab fiTab pl_laws_heldStringS
noncomputable def run_laws_heldStringS : Run := lim G_laws_heldStringS fid_laws_heldStringS
theorem ok_laws_heldStringS : FnOk Try.prog OkT fid_laws_heldStringS run_laws_heldStringS := lim_ok (l := pl_laws_heldStringS) Try_mix tyTab_ok fiTab_ok okT (.cons ok_laws_markText .nil) fid_laws_heldStringS
noncomputable def laws_heldStringS_l0 (k m : Nat) : Nat → Cell → Int → Int → Option Res
  | 0, _, _, _ => none
  | n + 1, c3, i4, i5 =>
    (lenC c3).bind fun n6 =>
    cond (decide (i5 < (n6 : Int)))
    ((idxA 1 (c3) i5).bind fun c7 =>
    (deref [] (c7)).bind fun p8 =>
    (cS p8.1 p8.2).bind fun s9 =>
    (callS run_laws_markText [.one (Cell.int i4)] []).bind fun r10 =>
    cond (shapeOk rk_laws_markText r10)
    ((cS (cellsAt r10 0) 0).bind fun s11 =>
    cond (!(s9.toList == s11.toList))
    (some ([.one (Cell.int (-1))], []))
    (laws_heldStringS_l0 k m n (c3) (IntKind.i64.wrap (i4 + 1)) (IntKind.i64.wrap (i5 + 1))))
    none)
    (some ([.one (Cell.int i4)], []))
noncomputable def laws_heldStringS (k m : Nat) (c1 : Cell) (i2 : Int) : Option Res :=
  laws_heldStringS_l0 k m m (c1) i2 0
noncomputable abbrev laws_heldStringS_l0_B (k m : Nat) : (Ex → Fr → Option Res) → Fr → Option Res := evC G_laws_heldStringS fi_laws_heldStringS (evF G_laws_heldStringS (k + 1)) m (sub [1, 0, 1, 2, 3] fi_laws_heldStringS.code) none
noncomputable abbrev laws_heldStringS_l0_K (k m : Nat) : Ex → Fr → Option Res := blockK 0 (seqK (evC G_laws_heldStringS fi_laws_heldStringS (evF G_laws_heldStringS (k + 1)) m (sub [1, 1] fi_laws_heldStringS.code) none) (retK G_laws_heldStringS fi_laws_heldStringS))
theorem laws_heldStringS_l0_eq (k m : Nat) : ∀ (n : Nat) (c3 : Cell) (i4 : Int) (i5 : Int), loopK (some [0, 1, 5]) (laws_heldStringS_l0_B k m) (laws_heldStringS_l0_K k m) n ⟨fT 22 0 [(0, .av (.one (c3))), (1, .av (.one (Cell.int i4))), (5, .av (.one (Cell.int i5)))], fX 22 0 [], []⟩ = laws_heldStringS_l0 (k + 1) m n c3 i4 i5 := by
  intro n
  induction n with
  | zero => intros; rfl
  | succ n ih =>
    intros
    simp only [laws_heldStringS_l0, ← ih]
    kernel_rfl
theorem laws_heldStringS_code (k m : Nat) (c1 : Cell) (i2 : Int) : evC G_laws_heldStringS fi_laws_heldStringS (evF G_laws_heldStringS (k + 1)) m fi_laws_heldStringS.code none (retK G_laws_heldStringS fi_laws_heldStringS) (enter fi_laws_heldStringS [.one (c1), .one (Cell.int i2)] []) = laws_heldStringS (k + 1) m c1 i2 := by
  simp only [laws_heldStringS, ← laws_heldStringS_l0_eq k m]
  kernel_rfl
theorem laws_heldStringS_eq (k : Nat) (c1 : Cell) (i2 : Int) : evF G_laws_heldStringS (k + 2) fid_laws_heldStringS [.one (c1), .one (Cell.int i2)] [] = laws_heldStringS (k + 1) (k + 1) c1 i2 :=
  Eq.trans (by kernel_rfl) (laws_heldStringS_code k (k + 1) c1 i2)
theorem run_laws_heldStringS_of {c1 : Cell} {i2 : Int} {r : Res} (k : Nat) (h : laws_heldStringS (k + 1) (k + 1) c1 i2 = some r) : run_laws_heldStringS [.one (c1), .one (Cell.int i2)] [] = some r := lim_of ((laws_heldStringS_eq k c1 i2).trans h)
noncomputable def pl_spec_l1Has : List (Nat × Run) := []
noncomputable def G_spec_l1Has : Ctx := ctx tyTab fiTab pl_spec_l1Has
noncomputable def run_spec_l1Has : Run := lim G_spec_l1Has fid_spec_l1Has
theorem ok_spec_l1Has : FnOk Try.prog OkT fid_spec_l1Has run_spec_l1Has := lim_ok (l := pl_spec_l1Has) Try_mix tyTab_ok fiTab_ok okT .nil fid_spec_l1Has
noncomputable def spec_l1Has_l0 (k m : Nat) : Nat → Cell → ByteArray → Int → Option Res
  | 0, _, _, _ => none
  | n + 1, c3, s4, i5 =>
    (lenC c3).bind fun n6 =>
    cond (decide (i5 < (n6 : Int)))
    ((idxA 1 (c3) i5).bind fun c7 =>
    (deref [] (c7)).bind fun p8 =>
    (cS p8.1 p8.2).bind fun s9 =>
    cond (s9.toList == s4.toList)
    (some ([.one (Cell.bool true)], []))
    (spec_l1Has_l0 k m n (c3) s4 (IntKind.i64.wrap (i5 + 1))))
    (some ([.one (Cell.bool false)], []))
noncomputable def spec_l1Has (k m : Nat) (c1 : Cell) (s2 : ByteArray) : Option Res :=
  spec_l1Has_l0 k m m (c1) s2 0
noncomputable abbrev spec_l1Has_l0_B (k m : Nat) : (Ex → Fr → Option Res) → Fr → Option Res := evC G_spec_l1Has fi_spec_l1Has (evF G_spec_l1Has (k + 1)) m (sub [1, 0, 1, 2, 3] fi_spec_l1Has.code) none
noncomputable abbrev spec_l1Has_l0_K (k m : Nat) : Ex → Fr → Option Res := blockK 0 (seqK (evC G_spec_l1Has fi_spec_l1Has (evF G_spec_l1Has (k + 1)) m (sub [1, 1] fi_spec_l1Has.code) none) (retK G_spec_l1Has fi_spec_l1Has))
theorem spec_l1Has_l0_eq (k m : Nat) : ∀ (n : Nat) (c3 : Cell) (s4 : ByteArray) (i5 : Int), loopK (some [0, 1, 5]) (spec_l1Has_l0_B k m) (spec_l1Has_l0_K k m) n ⟨fT 18 0 [(0, .av (.one (c3))), (1, .av (.one (Cell.str s4))), (5, .av (.one (Cell.int i5)))], fX 18 0 [], []⟩ = spec_l1Has_l0 (k + 1) m n c3 s4 i5 := by
  intro n
  induction n with
  | zero => intros; rfl
  | succ n ih =>
    intros
    simp only [spec_l1Has_l0, ← ih]
    kernel_rfl
theorem spec_l1Has_code (k m : Nat) (c1 : Cell) (s2 : ByteArray) : evC G_spec_l1Has fi_spec_l1Has (evF G_spec_l1Has (k + 1)) m fi_spec_l1Has.code none (retK G_spec_l1Has fi_spec_l1Has) (enter fi_spec_l1Has [.one (c1), .one (Cell.str s2)] []) = spec_l1Has (k + 1) m c1 s2 := by
  simp only [spec_l1Has, ← spec_l1Has_l0_eq k m]
  kernel_rfl
theorem spec_l1Has_eq (k : Nat) (c1 : Cell) (s2 : ByteArray) : evF G_spec_l1Has (k + 2) fid_spec_l1Has [.one (c1), .one (Cell.str s2)] [] = spec_l1Has (k + 1) (k + 1) c1 s2 :=
  Eq.trans (by kernel_rfl) (spec_l1Has_code k (k + 1) c1 s2)
theorem run_spec_l1Has_of {c1 : Cell} {s2 : ByteArray} {r : Res} (k : Nat) (h : spec_l1Has (k + 1) (k + 1) c1 s2 = some r) : run_spec_l1Has [.one (c1), .one (Cell.str s2)] [] = some r := lim_of ((spec_l1Has_eq k c1 s2).trans h)
noncomputable def pl_spec_Sorted : List (Nat × Run) := [(fid_spec_l1Has, run_spec_l1Has)]
noncomputable def G_spec_Sorted : Ctx := ctx tyTab fiTab pl_spec_Sorted
noncomputable def run_spec_Sorted : Run := lim G_spec_Sorted fid_spec_Sorted
theorem ok_spec_Sorted : FnOk Try.prog OkT fid_spec_Sorted run_spec_Sorted := lim_ok (l := pl_spec_Sorted) Try_mix tyTab_ok fiTab_ok okT (.cons ok_spec_l1Has .nil) fid_spec_Sorted
noncomputable def spec_Sorted_l1 (k m : Nat) (b_l0 : Cell → Cell → Int → List Entry → Option Res) : Nat → Cell → Cell → Int → Int → List Entry → Option Res
  | 0, _, _, _, _, _ => none
  | n + 1, c17, c18, i19, i20, H21 =>
    cond (decide (i20 > 0))
    ((idxA 1 (c18) (IntKind.i64.wrap (i20 - 1))).bind fun c22 =>
    (deref H21 (c22)).bind fun p23 =>
    (cS p23.1 p23.2).bind fun s24 =>
    (idxA 1 (c17) i19).bind fun c25 =>
    (deref H21 (c25)).bind fun p26 =>
    (cS p26.1 p26.2).bind fun s27 =>
    cond (!(Op.bytesLess s24.toList s27.toList || s24.toList == s27.toList))
    ((idxA 1 (c18) (IntKind.i64.wrap (i20 - 1))).bind fun c28 =>
    (deref H21 (c28)).bind fun p29 =>
    (cS p29.1 p29.2).bind fun s30 =>
    (idxA 1 (c18) i20).bind fun c31 =>
    (hStore H21 (c31) [Cell.str s30]).bind fun h32 =>
    spec_Sorted_l1 k m b_l0 n (c17) (c18) i19 (IntKind.i64.wrap (i20 - 1)) h32)
    ((idxA 1 (c17) i19).bind fun c33 =>
    (deref H21 (c33)).bind fun p34 =>
    (cS p34.1 p34.2).bind fun s35 =>
    (idxA 1 (c18) i20).bind fun c36 =>
    (hStore H21 (c36) [Cell.str s35]).bind fun h37 =>
    b_l0 (c17) (c18) (IntKind.i64.wrap (i19 + 1)) h37))
    ((idxA 1 (c17) i19).bind fun c38 =>
    (deref H21 (c38)).bind fun p39 =>
    (cS p39.1 p39.2).bind fun s40 =>
    (idxA 1 (c18) i20).bind fun c41 =>
    (hStore H21 (c41) [Cell.str s40]).bind fun h42 =>
    b_l0 (c17) (c18) (IntKind.i64.wrap (i19 + 1)) h42)
noncomputable def spec_Sorted_l0 (k m : Nat) : Nat → Cell → Cell → Int → List Entry → Option Res
  | 0, _, _, _, _ => none
  | n + 1, c2, c3, i4, H5 =>
    (lenC c2).bind fun n6 =>
    cond (decide (i4 < (n6 : Int)))
    ((idxA 1 (c2) i4).bind fun c7 =>
    (deref H5 (c7)).bind fun p8 =>
    (cS p8.1 p8.2).bind fun s9 =>
    (callS run_spec_l1Has [.one (c3), .one (Cell.str s9)] H5).bind fun r10 =>
    cond (shapeOk rk_spec_l1Has r10)
    ((cB (cellsAt r10 0) 0).bind fun b11 =>
    cond b11
    (spec_Sorted_l0 k m n (c2) (c3) (IntKind.i64.wrap (i4 + 1)) H5)
    ((idxA 1 (c2) i4).bind fun c12 =>
    (deref H5 (c12)).bind fun p13 =>
    (cS p13.1 p13.2).bind fun s14 =>
    (app H5 1 16 (c3) [[Cell.str s14]]).bind fun p15 =>
    (lenC p15.1).bind fun n16 =>
    spec_Sorted_l1 k m (spec_Sorted_l0 k m n) m (c2) (p15.1) i4 (IntKind.i64.wrap ((n16 : Int) - 1)) p15.2))
    none)
    (some ([.one (c3)], H5))
noncomputable def spec_Sorted (k m : Nat) (c1 : Cell) : Option Res :=
  spec_Sorted_l0 k m m (c1) (.lst true 1 []) 0 []
noncomputable abbrev spec_Sorted_l0_B (k m : Nat) : (Ex → Fr → Option Res) → Fr → Option Res := evC G_spec_Sorted fi_spec_Sorted (evF G_spec_Sorted (k + 1)) m (sub [1, 1, 0, 1, 2, 3] fi_spec_Sorted.code) none
noncomputable abbrev spec_Sorted_l0_K (k m : Nat) : Ex → Fr → Option Res := blockK 0 (seqK (evC G_spec_Sorted fi_spec_Sorted (evF G_spec_Sorted (k + 1)) m (sub [1, 1, 1] fi_spec_Sorted.code) none) (retK G_spec_Sorted fi_spec_Sorted))
noncomputable abbrev spec_Sorted_l1_B (k m : Nat) : (Ex → Fr → Option Res) → Fr → Option Res := evC G_spec_Sorted fi_spec_Sorted (evF G_spec_Sorted (k + 1)) m (sub [1, 1, 0, 1, 2, 3, 1, 0, 2, 1, 1, 1, 0, 2, 3] fi_spec_Sorted.code) none
noncomputable abbrev spec_Sorted_l1_K (k m : Nat) (n_l0 : Nat) : Ex → Fr → Option Res := blockK 2 (seqK (evC G_spec_Sorted fi_spec_Sorted (evF G_spec_Sorted (k + 1)) m (sub [1, 1, 0, 1, 2, 3, 1, 0, 2, 1, 1, 1, 1] fi_spec_Sorted.code) none) (blockK 1 (seqK (evC G_spec_Sorted fi_spec_Sorted (evF G_spec_Sorted (k + 1)) m (sub [1, 1, 0, 1, 2, 3, 1, 1] fi_spec_Sorted.code) none) (loopE (fun s => loopK (some [0, 3, 4]) (spec_Sorted_l0_B k m) (spec_Sorted_l0_K k m) n_l0 (keepS (some [0, 3, 4]) s)) (spec_Sorted_l0_K k m)))))
theorem spec_Sorted_l1_eq (k m : Nat) (b_l0 : Cell → Cell → Int → List Entry → Option Res) (n_l0 : Nat) (h_l0 : ∀ (c2 : Cell) (c3 : Cell) (i4 : Int) (H5 : List Entry), loopK (some [0, 3, 4]) (spec_Sorted_l0_B k m) (spec_Sorted_l0_K k m) n_l0 ⟨fT 61 0 [(0, .av (.one (c2))), (3, .av (.one (c3))), (4, .av (.one (Cell.int i4)))], fX 61 0 [], H5⟩ = b_l0 c2 c3 i4 H5) : ∀ (n : Nat) (c17 : Cell) (c18 : Cell) (i19 : Int) (i20 : Int) (H21 : List Entry), loopK (some [0, 3, 4, 5]) (spec_Sorted_l1_B k m) (spec_Sorted_l1_K k m n_l0) n ⟨fT 61 0 [(0, .av (.one (c17))), (3, .av (.one (c18))), (4, .av (.one (Cell.int i19))), (5, .av (.one (Cell.int i20)))], fX 61 0 [], H21⟩ = spec_Sorted_l1 (k + 1) m b_l0 n c17 c18 i19 i20 H21 := by
  intro n
  induction n with
  | zero => intros; rfl
  | succ n ih =>
    intros
    simp only [spec_Sorted_l1, ← h_l0, ← ih]
    kernel_rfl
theorem spec_Sorted_l0_eq (k m : Nat) : ∀ (n : Nat) (c2 : Cell) (c3 : Cell) (i4 : Int) (H5 : List Entry), loopK (some [0, 3, 4]) (spec_Sorted_l0_B k m) (spec_Sorted_l0_K k m) n ⟨fT 61 0 [(0, .av (.one (c2))), (3, .av (.one (c3))), (4, .av (.one (Cell.int i4)))], fX 61 0 [], H5⟩ = spec_Sorted_l0 (k + 1) m n c2 c3 i4 H5 := by
  intro n
  induction n with
  | zero => intros; rfl
  | succ n ih =>
    intros
    simp only [spec_Sorted_l0, ← spec_Sorted_l1_eq k m _ _ (ih), ← ih]
    kernel_rfl
theorem spec_Sorted_code (k m : Nat) (c1 : Cell) : evC G_spec_Sorted fi_spec_Sorted (evF G_spec_Sorted (k + 1)) m fi_spec_Sorted.code none (retK G_spec_Sorted fi_spec_Sorted) (enter fi_spec_Sorted [.one (c1)] []) = spec_Sorted (k + 1) m c1 := by
  simp only [spec_Sorted, ← spec_Sorted_l0_eq k m]
  kernel_rfl
theorem spec_Sorted_eq (k : Nat) (c1 : Cell) : evF G_spec_Sorted (k + 2) fid_spec_Sorted [.one (c1)] [] = spec_Sorted (k + 1) (k + 1) c1 :=
  Eq.trans (by kernel_rfl) (spec_Sorted_code k (k + 1) c1)
theorem run_spec_Sorted_of {c1 : Cell} {r : Res} (k : Nat) (h : spec_Sorted (k + 1) (k + 1) c1 = some r) : run_spec_Sorted [.one (c1)] [] = some r := lim_of ((spec_Sorted_eq k c1).trans h)
noncomputable def pl_spec_FindPack : List (Nat × Run) := []
noncomputable def G_spec_FindPack : Ctx := ctx tyTab fiTab pl_spec_FindPack
noncomputable def run_spec_FindPack : Run := lim G_spec_FindPack fid_spec_FindPack
theorem ok_spec_FindPack : FnOk Try.prog OkT fid_spec_FindPack run_spec_FindPack := lim_ok (l := pl_spec_FindPack) Try_mix tyTab_ok fiTab_ok okT .nil fid_spec_FindPack
noncomputable def spec_FindPack_l0 (k m : Nat) : Nat → Cell → ByteArray → Int → Option Res
  | 0, _, _, _ => none
  | n + 1, c3, s4, i5 =>
    (lenC c3).bind fun n6 =>
    cond (decide (i5 < (n6 : Int)))
    ((idxA 4 (c3) i5).bind fun c7 =>
    (fldA c7 0).bind fun c8 =>
    (deref [] (c8)).bind fun p9 =>
    (cS p9.1 p9.2).bind fun s10 =>
    cond (s10.toList == s4.toList)
    (some ([.one (Cell.int i5)], []))
    (spec_FindPack_l0 k m n (c3) s4 (IntKind.i64.wrap (i5 + 1))))
    (some ([.one (Cell.int (-1))], []))
noncomputable def spec_FindPack (k m : Nat) (c1 : Cell) (s2 : ByteArray) : Option Res :=
  spec_FindPack_l0 k m m (c1) s2 0
noncomputable abbrev spec_FindPack_l0_B (k m : Nat) : (Ex → Fr → Option Res) → Fr → Option Res := evC G_spec_FindPack fi_spec_FindPack (evF G_spec_FindPack (k + 1)) m (sub [1, 0, 1, 2, 3] fi_spec_FindPack.code) none
noncomputable abbrev spec_FindPack_l0_K (k m : Nat) : Ex → Fr → Option Res := blockK 0 (seqK (evC G_spec_FindPack fi_spec_FindPack (evF G_spec_FindPack (k + 1)) m (sub [1, 1] fi_spec_FindPack.code) none) (retK G_spec_FindPack fi_spec_FindPack))
theorem spec_FindPack_l0_eq (k m : Nat) : ∀ (n : Nat) (c3 : Cell) (s4 : ByteArray) (i5 : Int), loopK (some [0, 1, 5]) (spec_FindPack_l0_B k m) (spec_FindPack_l0_K k m) n ⟨fT 20 0 [(0, .av (.one (c3))), (1, .av (.one (Cell.str s4))), (5, .av (.one (Cell.int i5)))], fX 20 0 [], []⟩ = spec_FindPack_l0 (k + 1) m n c3 s4 i5 := by
  intro n
  induction n with
  | zero => intros; rfl
  | succ n ih =>
    intros
    simp only [spec_FindPack_l0, ← ih]
    kernel_rfl
theorem spec_FindPack_code (k m : Nat) (c1 : Cell) (s2 : ByteArray) : evC G_spec_FindPack fi_spec_FindPack (evF G_spec_FindPack (k + 1)) m fi_spec_FindPack.code none (retK G_spec_FindPack fi_spec_FindPack) (enter fi_spec_FindPack [.one (c1), .one (Cell.str s2)] []) = spec_FindPack (k + 1) m c1 s2 := by
  simp only [spec_FindPack, ← spec_FindPack_l0_eq k m]
  kernel_rfl
theorem spec_FindPack_eq (k : Nat) (c1 : Cell) (s2 : ByteArray) : evF G_spec_FindPack (k + 2) fid_spec_FindPack [.one (c1), .one (Cell.str s2)] [] = spec_FindPack (k + 1) (k + 1) c1 s2 :=
  Eq.trans (by kernel_rfl) (spec_FindPack_code k (k + 1) c1 s2)
theorem run_spec_FindPack_of {c1 : Cell} {s2 : ByteArray} {r : Res} (k : Nat) (h : spec_FindPack (k + 1) (k + 1) c1 s2 = some r) : run_spec_FindPack [.one (c1), .one (Cell.str s2)] [] = some r := lim_of ((spec_FindPack_eq k c1 s2).trans h)
noncomputable def pl_spec_l13Cmd : List (Nat × Run) := [(fid_spec_FindPack, run_spec_FindPack)]
noncomputable def G_spec_l13Cmd : Ctx := ctx tyTab fiTab pl_spec_l13Cmd
noncomputable def run_spec_l13Cmd : Run := lim G_spec_l13Cmd fid_spec_l13Cmd
theorem ok_spec_l13Cmd : FnOk Try.prog OkT fid_spec_l13Cmd run_spec_l13Cmd := lim_ok (l := pl_spec_l13Cmd) Try_mix tyTab_ok fiTab_ok okT (.cons ok_spec_FindPack .nil) fid_spec_l13Cmd
noncomputable def spec_l13Cmd_l0 (k m : Nat) : Nat → Cell → ByteArray → Int → Int → Option Res
  | 0, _, _, _, _ => none
  | n + 1, c6, s7, i8, i9 =>
    cond (decide (i8 ≥ 0))
    ((idxA 4 (c6) i8).bind fun c10 =>
    (fldA c10 3).bind fun c11 =>
    (deref [] (c11)).bind fun p12 =>
    (cC p12.1 p12.2).bind fun c13 =>
    (lenC c13).bind fun n14 =>
    cond (decide (i9 < (n14 : Int)))
    ((idxA 4 (c6) i8).bind fun c15 =>
    (fldA c15 3).bind fun c16 =>
    (deref [] (c16)).bind fun p17 =>
    (cC p17.1 p17.2).bind fun c18 =>
    (idxA 2 (c18) i9).bind fun c19 =>
    (fldA c19 0).bind fun c20 =>
    (deref [] (c20)).bind fun p21 =>
    (cS p21.1 p21.2).bind fun s22 =>
    cond (s22.toList == s7.toList)
    ((idxA 4 (c6) i8).bind fun c23 =>
    (fldA c23 3).bind fun c24 =>
    (deref [] (c24)).bind fun p25 =>
    (cC p25.1 p25.2).bind fun c26 =>
    (idxA 2 (c26) i9).bind fun c27 =>
    (deref [] (c27)).bind fun p28 =>
    (cS p28.1 p28.2).bind fun s29 =>
    (cC p28.1 (p28.2 + 1)).bind fun c30 =>
    some ([.agg [Cell.str s29, c30], .one (Cell.bool true)], []))
    (spec_l13Cmd_l0 k m n (c6) s7 i8 (IntKind.i64.wrap (i9 + 1))))
    (some ([.agg [Cell.str (bs []), .lst true 1 []], .one (Cell.bool false)], [])))
    (some ([.agg [Cell.str (bs []), .lst true 1 []], .one (Cell.bool false)], []))
noncomputable def spec_l13Cmd (k m : Nat) (c1 : Cell) (s2 : ByteArray) (s3 : ByteArray) : Option Res :=
  (callS run_spec_FindPack [.one (c1), .one (Cell.str s2)] []).bind fun r4 =>
  cond (shapeOk rk_spec_FindPack r4)
  ((cI .i64 (cellsAt r4 0) 0).bind fun i5 =>
  spec_l13Cmd_l0 k m m (c1) s3 i5 0)
  none
noncomputable abbrev spec_l13Cmd_l0_B (k m : Nat) : (Ex → Fr → Option Res) → Fr → Option Res := evC G_spec_l13Cmd fi_spec_l13Cmd (evF G_spec_l13Cmd (k + 1)) m (sub [1, 1, 0, 1, 2, 3] fi_spec_l13Cmd.code) none
noncomputable abbrev spec_l13Cmd_l0_K (k m : Nat) : Ex → Fr → Option Res := blockK 0 (seqK (evC G_spec_l13Cmd fi_spec_l13Cmd (evF G_spec_l13Cmd (k + 1)) m (sub [1, 1, 1] fi_spec_l13Cmd.code) none) (retK G_spec_l13Cmd fi_spec_l13Cmd))
theorem spec_l13Cmd_l0_eq (k m : Nat) : ∀ (n : Nat) (c6 : Cell) (s7 : ByteArray) (i8 : Int) (i9 : Int), loopK (some [0, 2, 6, 8, 9]) (spec_l13Cmd_l0_B k m) (spec_l13Cmd_l0_K k m) n ⟨fT 47 0 [(0, .av (.one (c6))), (2, .av (.one (Cell.str s7))), (6, .loc 6 0), (8, .av (.one (Cell.int i8))), (9, .av (.one (Cell.int i9)))], fX 47 0 [(6, [Cell.str (bs []), .lst true 1 []])], []⟩ = spec_l13Cmd_l0 (k + 1) m n c6 s7 i8 i9 := by
  intro n
  induction n with
  | zero => intros; rfl
  | succ n ih =>
    intros
    simp only [spec_l13Cmd_l0, ← ih]
    kernel_rfl
theorem spec_l13Cmd_code (k m : Nat) (c1 : Cell) (s2 : ByteArray) (s3 : ByteArray) : evC G_spec_l13Cmd fi_spec_l13Cmd (evF G_spec_l13Cmd (k + 1)) m fi_spec_l13Cmd.code none (retK G_spec_l13Cmd fi_spec_l13Cmd) (enter fi_spec_l13Cmd [.one (c1), .one (Cell.str s2), .one (Cell.str s3)] []) = spec_l13Cmd (k + 1) m c1 s2 s3 := by
  simp only [spec_l13Cmd, ← spec_l13Cmd_l0_eq k m]
  kernel_rfl
theorem spec_l13Cmd_eq (k : Nat) (c1 : Cell) (s2 : ByteArray) (s3 : ByteArray) : evF G_spec_l13Cmd (k + 2) fid_spec_l13Cmd [.one (c1), .one (Cell.str s2), .one (Cell.str s3)] [] = spec_l13Cmd (k + 1) (k + 1) c1 s2 s3 :=
  Eq.trans (by kernel_rfl) (spec_l13Cmd_code k (k + 1) c1 s2 s3)
theorem run_spec_l13Cmd_of {c1 : Cell} {s2 : ByteArray} {s3 : ByteArray} {r : Res} (k : Nat) (h : spec_l13Cmd (k + 1) (k + 1) c1 s2 s3 = some r) : run_spec_l13Cmd [.one (c1), .one (Cell.str s2), .one (Cell.str s3)] [] = some r := lim_of ((spec_l13Cmd_eq k c1 s2 s3).trans h)
noncomputable def pl_spec_l13There : List (Nat × Run) := [(fid_spec_l13Cmd, run_spec_l13Cmd)]
noncomputable def G_spec_l13There : Ctx := ctx tyTab fiTab pl_spec_l13There
noncomputable def run_spec_l13There : Run := lim G_spec_l13There fid_spec_l13There
theorem ok_spec_l13There : FnOk Try.prog OkT fid_spec_l13There run_spec_l13There := lim_ok (l := pl_spec_l13There) Try_mix tyTab_ok fiTab_ok okT (.cons ok_spec_l13Cmd .nil) fid_spec_l13There
noncomputable def spec_l13There (k m : Nat) (c1 : Cell) (s2 : ByteArray) (s3 : ByteArray) : Option Res :=
  (callL run_spec_l13Cmd [.one (c1), .one (Cell.str s2), .one (Cell.str s3)] []).bind fun r4 =>
  cond (shapeOk rk_spec_l13Cmd r4.1)
  ((cS (cellsAt r4.1 0) 0).bind fun s5 =>
  (cC (cellsAt r4.1 0) 1).bind fun c6 =>
  (cB (cellsAt r4.1 1) 0).bind fun b7 =>
  some ([.one (Cell.bool b7)], r4.2))
  none
theorem spec_l13There_code (k m : Nat) (c1 : Cell) (s2 : ByteArray) (s3 : ByteArray) : evC G_spec_l13There fi_spec_l13There (evF G_spec_l13There (k + 1)) m fi_spec_l13There.code none (retK G_spec_l13There fi_spec_l13There) (enter fi_spec_l13There [.one (c1), .one (Cell.str s2), .one (Cell.str s3)] []) = spec_l13There (k + 1) m c1 s2 s3 := by
  kernel_rfl
theorem spec_l13There_eq (k : Nat) (c1 : Cell) (s2 : ByteArray) (s3 : ByteArray) : evF G_spec_l13There (k + 2) fid_spec_l13There [.one (c1), .one (Cell.str s2), .one (Cell.str s3)] [] = spec_l13There (k + 1) (k + 1) c1 s2 s3 :=
  Eq.trans (by kernel_rfl) (spec_l13There_code k (k + 1) c1 s2 s3)
theorem run_spec_l13There_of {c1 : Cell} {s2 : ByteArray} {s3 : ByteArray} {r : Res} (k : Nat) (h : spec_l13There (k + 1) (k + 1) c1 s2 s3 = some r) : run_spec_l13There [.one (c1), .one (Cell.str s2), .one (Cell.str s3)] [] = some r := lim_of ((spec_l13There_eq k c1 s2 s3).trans h)
noncomputable def pl_spec_TaskName : List (Nat × Run) := []
noncomputable def G_spec_TaskName : Ctx := ctx tyTab fiTab pl_spec_TaskName
noncomputable def run_spec_TaskName : Run := lim G_spec_TaskName fid_spec_TaskName
theorem ok_spec_TaskName : FnOk Try.prog OkT fid_spec_TaskName run_spec_TaskName := lim_ok (l := pl_spec_TaskName) Try_mix tyTab_ok fiTab_ok okT .nil fid_spec_TaskName
noncomputable def spec_TaskName (k m : Nat) (s1 : ByteArray) (s2 : ByteArray) : Option Res :=
  (catS s1 (bs [35])).bind fun s3 =>
  (catS s3 s2).bind fun s4 =>
  some ([.one (Cell.str s4)], [])
theorem spec_TaskName_code (k m : Nat) (s1 : ByteArray) (s2 : ByteArray) : evC G_spec_TaskName fi_spec_TaskName (evF G_spec_TaskName (k + 1)) m fi_spec_TaskName.code none (retK G_spec_TaskName fi_spec_TaskName) (enter fi_spec_TaskName [.one (Cell.str s1), .one (Cell.str s2)] []) = spec_TaskName (k + 1) m s1 s2 := by
  kernel_rfl
theorem spec_TaskName_eq (k : Nat) (s1 : ByteArray) (s2 : ByteArray) : evF G_spec_TaskName (k + 2) fid_spec_TaskName [.one (Cell.str s1), .one (Cell.str s2)] [] = spec_TaskName (k + 1) (k + 1) s1 s2 :=
  Eq.trans (by kernel_rfl) (spec_TaskName_code k (k + 1) s1 s2)
theorem run_spec_TaskName_of {s1 : ByteArray} {s2 : ByteArray} {r : Res} (k : Nat) (h : spec_TaskName (k + 1) (k + 1) s1 s2 = some r) : run_spec_TaskName [.one (Cell.str s1), .one (Cell.str s2)] [] = some r := lim_of ((spec_TaskName_eq k s1 s2).trans h)
noncomputable def pl_spec_WantOf : List (Nat × Run) := [(fid_spec_Sorted, run_spec_Sorted), (fid_spec_l13There, run_spec_l13There), (fid_spec_TaskName, run_spec_TaskName)]
noncomputable def G_spec_WantOf : Ctx := ctx tyTab fiTab pl_spec_WantOf
noncomputable def run_spec_WantOf : Run := lim G_spec_WantOf fid_spec_WantOf
theorem ok_spec_WantOf : FnOk Try.prog OkT fid_spec_WantOf run_spec_WantOf := lim_ok (l := pl_spec_WantOf) Try_mix tyTab_ok fiTab_ok okT (.cons ok_spec_Sorted (.cons ok_spec_l13There (.cons ok_spec_TaskName .nil))) fid_spec_WantOf
noncomputable def spec_WantOf_l0 (k m : Nat) : Nat → Cell → Cell → ByteArray → Cell → Int → List Entry → Option Res
  | 0, _, _, _, _, _, _ => none
  | n + 1, c4, c5, s6, c7, i8, H9 =>
    (lenC c5).bind fun n10 =>
    cond (decide (i8 < (n10 : Int)))
    ((idxA 1 (c5) i8).bind fun c11 =>
    (deref H9 (c11)).bind fun p12 =>
    (cS p12.1 p12.2).bind fun s13 =>
    (callS run_spec_l13There [.one (c4), .one (Cell.str s13), .one (Cell.str s6)] H9).bind fun r14 =>
    cond (shapeOk rk_spec_l13There r14)
    ((cB (cellsAt r14 0) 0).bind fun b15 =>
    cond b15
    ((idxA 1 (c5) i8).bind fun c16 =>
    (deref H9 (c16)).bind fun p17 =>
    (cS p17.1 p17.2).bind fun s18 =>
    (callS run_spec_TaskName [.one (Cell.str s18), .one (Cell.str s6)] H9).bind fun r19 =>
    cond (shapeOk rk_spec_TaskName r19)
    ((cS (cellsAt r19 0) 0).bind fun s20 =>
    (app H9 1 16 (c7) [[Cell.str s20]]).bind fun p21 =>
    spec_WantOf_l0 k m n (c4) (c5) s6 (p21.1) (IntKind.i64.wrap (i8 + 1)) p21.2)
    none)
    (spec_WantOf_l0 k m n (c4) (c5) s6 (c7) (IntKind.i64.wrap (i8 + 1)) H9))
    none)
    ((callL run_spec_Sorted [.one (c7)] H9).bind fun r22 =>
    cond (shapeOk rk_spec_Sorted r22.1)
    ((cC (cellsAt r22.1 0) 0).bind fun c23 =>
    some ([.one (c23)], r22.2))
    none)
noncomputable def spec_WantOf (k m : Nat) (c1 : Cell) (c2 : Cell) (s3 : ByteArray) : Option Res :=
  spec_WantOf_l0 k m m (c1) (c2) s3 (.lst true 1 []) 0 []
noncomputable abbrev spec_WantOf_l0_B (k m : Nat) : (Ex → Fr → Option Res) → Fr → Option Res := evC G_spec_WantOf fi_spec_WantOf (evF G_spec_WantOf (k + 1)) m (sub [1, 1, 0, 1, 2, 3] fi_spec_WantOf.code) none
noncomputable abbrev spec_WantOf_l0_K (k m : Nat) : Ex → Fr → Option Res := blockK 0 (seqK (evC G_spec_WantOf fi_spec_WantOf (evF G_spec_WantOf (k + 1)) m (sub [1, 1, 1] fi_spec_WantOf.code) none) (retK G_spec_WantOf fi_spec_WantOf))
theorem spec_WantOf_l0_eq (k m : Nat) : ∀ (n : Nat) (c4 : Cell) (c5 : Cell) (s6 : ByteArray) (c7 : Cell) (i8 : Int) (H9 : List Entry), loopK (some [0, 1, 2, 7, 8]) (spec_WantOf_l0_B k m) (spec_WantOf_l0_K k m) n ⟨fT 34 0 [(0, .av (.one (c4))), (1, .av (.one (c5))), (2, .av (.one (Cell.str s6))), (7, .av (.one (c7))), (8, .av (.one (Cell.int i8)))], fX 34 0 [], H9⟩ = spec_WantOf_l0 (k + 1) m n c4 c5 s6 c7 i8 H9 := by
  intro n
  induction n with
  | zero => intros; rfl
  | succ n ih =>
    intros
    simp only [spec_WantOf_l0, ← ih]
    kernel_rfl
theorem spec_WantOf_code (k m : Nat) (c1 : Cell) (c2 : Cell) (s3 : ByteArray) : evC G_spec_WantOf fi_spec_WantOf (evF G_spec_WantOf (k + 1)) m fi_spec_WantOf.code none (retK G_spec_WantOf fi_spec_WantOf) (enter fi_spec_WantOf [.one (c1), .one (c2), .one (Cell.str s3)] []) = spec_WantOf (k + 1) m c1 c2 s3 := by
  simp only [spec_WantOf, ← spec_WantOf_l0_eq k m]
  kernel_rfl
theorem spec_WantOf_eq (k : Nat) (c1 : Cell) (c2 : Cell) (s3 : ByteArray) : evF G_spec_WantOf (k + 2) fid_spec_WantOf [.one (c1), .one (c2), .one (Cell.str s3)] [] = spec_WantOf (k + 1) (k + 1) c1 c2 s3 :=
  Eq.trans (by kernel_rfl) (spec_WantOf_code k (k + 1) c1 c2 s3)
theorem run_spec_WantOf_of {c1 : Cell} {c2 : Cell} {s3 : ByteArray} {r : Res} (k : Nat) (h : spec_WantOf (k + 1) (k + 1) c1 c2 s3 = some r) : run_spec_WantOf [.one (c1), .one (c2), .one (Cell.str s3)] [] = some r := lim_of ((spec_WantOf_eq k c1 c2 s3).trans h)
noncomputable def pl_slices_Clone_string : List (Nat × Run) := []
noncomputable def G_slices_Clone_string : Ctx := ctx tyTab fiTab pl_slices_Clone_string
noncomputable def run_slices_Clone_string : Run := lim G_slices_Clone_string fid_slices_Clone_string
theorem ok_slices_Clone_string : FnOk Try.prog OkT fid_slices_Clone_string run_slices_Clone_string := lim_ok (l := pl_slices_Clone_string) Try_mix tyTab_ok fiTab_ok okT .nil fid_slices_Clone_string
noncomputable def slices_Clone_string (k m : Nat) (c1 : Cell) : Option Res :=
  nilC (c1)
  (both
  (some ([.one (.lst true 1 [])], []))
  ((srcRows [] 1 c1).bind fun r2 =>
  (app [] 1 16 (.lst true 1 []) r2).bind fun p3 =>
  some ([.one (p3.1)], p3.2)))
  ((srcRows [] 1 c1).bind fun r4 =>
  (app [] 1 16 (.lst true 1 []) r4).bind fun p5 =>
  some ([.one (p5.1)], p5.2))
theorem slices_Clone_string_code (k m : Nat) (c1 : Cell) : evC G_slices_Clone_string fi_slices_Clone_string (evF G_slices_Clone_string (k + 1)) m fi_slices_Clone_string.code none (retK G_slices_Clone_string fi_slices_Clone_string) (enter fi_slices_Clone_string [.one (c1)] []) = slices_Clone_string (k + 1) m c1 := by
  kernel_rfl
theorem slices_Clone_string_eq (k : Nat) (c1 : Cell) : evF G_slices_Clone_string (k + 2) fid_slices_Clone_string [.one (c1)] [] = slices_Clone_string (k + 1) (k + 1) c1 :=
  Eq.trans (by kernel_rfl) (slices_Clone_string_code k (k + 1) c1)
theorem run_slices_Clone_string_of {c1 : Cell} {r : Res} (k : Nat) (h : slices_Clone_string (k + 1) (k + 1) c1 = some r) : run_slices_Clone_string [.one (c1)] [] = some r := lim_of ((slices_Clone_string_eq k c1).trans h)
noncomputable def pl_slices_Clip_string : List (Nat × Run) := []
noncomputable def G_slices_Clip_string : Ctx := ctx tyTab fiTab pl_slices_Clip_string
noncomputable def run_slices_Clip_string : Run := lim G_slices_Clip_string fid_slices_Clip_string
theorem ok_slices_Clip_string : FnOk Try.prog OkT fid_slices_Clip_string run_slices_Clip_string := lim_ok (l := pl_slices_Clip_string) Try_mix tyTab_ok fiTab_ok okT .nil fid_slices_Clip_string
noncomputable def slices_Clip_string (k m : Nat) (c1 : Cell) (H : List Entry) : Option Res :=
  (lenC c1).bind fun n2 =>
  (lenC c1).bind fun n3 =>
  (slcC 1 (c1) 0 (some (n2 : Int)) (some (n3 : Int))).bind fun c4 =>
  some ([.one (c4)], H)
theorem slices_Clip_string_code (k m : Nat) (c1 : Cell) (H : List Entry) : evC G_slices_Clip_string fi_slices_Clip_string (evF G_slices_Clip_string (k + 1)) m fi_slices_Clip_string.code none (retK G_slices_Clip_string fi_slices_Clip_string) (enter fi_slices_Clip_string [.one (c1)] H) = slices_Clip_string (k + 1) m c1 H := by
  kernel_rfl
theorem slices_Clip_string_eq (k : Nat) (c1 : Cell) (H : List Entry) : evF G_slices_Clip_string (k + 2) fid_slices_Clip_string [.one (c1)] H = slices_Clip_string (k + 1) (k + 1) c1 H :=
  Eq.trans (by kernel_rfl) (slices_Clip_string_code k (k + 1) c1 H)
theorem run_slices_Clip_string_of {c1 : Cell} {H : List Entry} {r : Res} (k : Nat) (h : slices_Clip_string (k + 1) (k + 1) c1 H = some r) : run_slices_Clip_string [.one (c1)] H = some r := lim_of ((slices_Clip_string_eq k c1 H).trans h)
noncomputable def pl_impl_Sorted : List (Nat × Run) := [(fid_slices_Clone_string, run_slices_Clone_string), (fid_slices_Sort_string, run_slices_Sort_string), (fid_slices_Clip_string, run_slices_Clip_string), (fid_slices_Compact_string, run_slices_Compact_string)]
noncomputable def G_impl_Sorted : Ctx := ctx tyTab fiTab pl_impl_Sorted
noncomputable def run_impl_Sorted : Run := lim G_impl_Sorted fid_impl_Sorted
theorem ok_impl_Sorted : FnOk Try.prog OkT fid_impl_Sorted run_impl_Sorted := lim_ok (l := pl_impl_Sorted) Try_mix tyTab_ok fiTab_ok okT (.cons ok_slices_Clone_string (.cons ok_slices_Sort_string (.cons ok_slices_Clip_string (.cons ok_slices_Compact_string .nil)))) fid_impl_Sorted
noncomputable def impl_Sorted (k m : Nat) (c1 : Cell) : Option Res :=
  (callF run_slices_Clone_string [.one (c1)] []).bind fun r2 =>
  cond (shapeOk rk_slices_Clone_string r2.1)
  ((cC (cellsAt r2.1 0) 0).bind fun c3 =>
  (run_slices_Sort_string [.one (c3)] r2.2).bind fun r4 =>
  cond (shapeOk rk_slices_Sort_string r4.1)
  ((run_slices_Compact_string [.one (c3)] r4.2).bind fun r5 =>
  cond (shapeOk rk_slices_Compact_string r5.1)
  ((cC (cellsAt r5.1 0) 0).bind fun c6 =>
  (run_slices_Clip_string [.one (c6)] r5.2).bind fun r7 =>
  cond (shapeOk rk_slices_Clip_string r7.1)
  ((cC (cellsAt r7.1 0) 0).bind fun c8 =>
  some ([.one (c8)], r7.2))
  none)
  none)
  none)
  none
theorem impl_Sorted_code (k m : Nat) (c1 : Cell) : evC G_impl_Sorted fi_impl_Sorted (evF G_impl_Sorted (k + 1)) m fi_impl_Sorted.code none (retK G_impl_Sorted fi_impl_Sorted) (enter fi_impl_Sorted [.one (c1)] []) = impl_Sorted (k + 1) m c1 := by
  kernel_rfl
theorem impl_Sorted_eq (k : Nat) (c1 : Cell) : evF G_impl_Sorted (k + 2) fid_impl_Sorted [.one (c1)] [] = impl_Sorted (k + 1) (k + 1) c1 :=
  Eq.trans (by kernel_rfl) (impl_Sorted_code k (k + 1) c1)
theorem run_impl_Sorted_of {c1 : Cell} {r : Res} (k : Nat) (h : impl_Sorted (k + 1) (k + 1) c1 = some r) : run_impl_Sorted [.one (c1)] [] = some r := lim_of ((impl_Sorted_eq k c1).trans h)
noncomputable def pl_impl_FindPack_1 : List (Nat × Run) := []
noncomputable def G_impl_FindPack_1 : Ctx := ctx tyTab fiTab pl_impl_FindPack_1
noncomputable def run_impl_FindPack_1 : Run := lim G_impl_FindPack_1 fid_impl_FindPack_1
theorem ok_impl_FindPack_1 : FnOk Try.prog OkT fid_impl_FindPack_1 run_impl_FindPack_1 := lim_ok (l := pl_impl_FindPack_1) Try_mix tyTab_ok fiTab_ok okT .nil fid_impl_FindPack_1
noncomputable def impl_FindPack_1 (k m : Nat) (s1 : ByteArray) (c2 : Cell) (c3 : Cell) (c4 : Cell) (c5 : Cell) (H : List Entry) : Option Res :=
  (deref H (c5)).bind fun p6 =>
  (cS p6.1 p6.2).bind fun s7 =>
  some ([.one (Cell.bool (s1.toList == s7.toList))], H)
theorem impl_FindPack_1_code (k m : Nat) (s1 : ByteArray) (c2 : Cell) (c3 : Cell) (c4 : Cell) (c5 : Cell) (H : List Entry) : evC G_impl_FindPack_1 fi_impl_FindPack_1 (evF G_impl_FindPack_1 (k + 1)) m fi_impl_FindPack_1.code none (retK G_impl_FindPack_1 fi_impl_FindPack_1) (enter fi_impl_FindPack_1 [.agg [Cell.str s1, c2, c3, c4], .one (c5)] H) = impl_FindPack_1 (k + 1) m s1 c2 c3 c4 c5 H := by
  kernel_rfl
theorem impl_FindPack_1_eq (k : Nat) (s1 : ByteArray) (c2 : Cell) (c3 : Cell) (c4 : Cell) (c5 : Cell) (H : List Entry) : evF G_impl_FindPack_1 (k + 2) fid_impl_FindPack_1 [.agg [Cell.str s1, c2, c3, c4], .one (c5)] H = impl_FindPack_1 (k + 1) (k + 1) s1 c2 c3 c4 c5 H :=
  Eq.trans (by kernel_rfl) (impl_FindPack_1_code k (k + 1) s1 c2 c3 c4 c5 H)
theorem run_impl_FindPack_1_of {s1 : ByteArray} {c2 : Cell} {c3 : Cell} {c4 : Cell} {c5 : Cell} {H : List Entry} {r : Res} (k : Nat) (h : impl_FindPack_1 (k + 1) (k + 1) s1 c2 c3 c4 c5 H = some r) : run_impl_FindPack_1 [.agg [Cell.str s1, c2, c3, c4], .one (c5)] H = some r := lim_of ((impl_FindPack_1_eq k s1 c2 c3 c4 c5 H).trans h)
noncomputable def pl_slices_IndexFunc_Pack : List (Nat × Run) := [(fid_impl_FindPack_1, run_impl_FindPack_1)]
noncomputable def G_slices_IndexFunc_Pack : Ctx := ctx tyTab fiTab pl_slices_IndexFunc_Pack
noncomputable def run_slices_IndexFunc_Pack : Run := lim G_slices_IndexFunc_Pack fid_slices_IndexFunc_Pack
theorem ok_slices_IndexFunc_Pack : FnOk Try.prog OkT fid_slices_IndexFunc_Pack run_slices_IndexFunc_Pack := lim_ok (l := pl_slices_IndexFunc_Pack) Try_mix tyTab_ok fiTab_ok okT (.cons ok_impl_FindPack_1 .nil) fid_slices_IndexFunc_Pack
noncomputable def slices_IndexFunc_Pack_impl_FindPack_1_l0 (k m : Nat) : Nat → Cell → Cell → Int → Int → List Entry → Option Res
  | 0, _, _, _, _, _ => none
  | n + 1, c3, c4, i5, i6, H7 =>
    cond (decide (i6 < i5))
    ((idxA 4 (c3) i6).bind fun c8 =>
    (deref H7 (c8)).bind fun p9 =>
    (cS p9.1 p9.2).bind fun s10 =>
    (cC p9.1 (p9.2 + 1)).bind fun c11 =>
    (cC p9.1 ((p9.2 + 1) + 1)).bind fun c12 =>
    (cC p9.1 (((p9.2 + 1) + 1) + 1)).bind fun c13 =>
    (run_impl_FindPack_1 [.agg [Cell.str s10, c11, c12, c13], .one (c4)] H7).bind fun r14 =>
    cond (shapeOk rk_impl_FindPack_1 r14.1)
    ((cB (cellsAt r14.1 0) 0).bind fun b15 =>
    cond b15
    (some ([.one (Cell.int i6)], r14.2))
    (slices_IndexFunc_Pack_impl_FindPack_1_l0 k m n (c3) (c4) i5 (IntKind.i64.wrap (i6 + 1)) r14.2))
    none)
    (some ([.one (Cell.int (-1))], H7))
noncomputable def slices_IndexFunc_Pack_impl_FindPack_1 (k m : Nat) (c1 : Cell) (q2 : Cell) (H : List Entry) : Option Res :=
  (lenC c1).bind fun n2 =>
  slices_IndexFunc_Pack_impl_FindPack_1_l0 k m m (c1) (q2) (n2 : Int) 0 H
noncomputable abbrev slices_IndexFunc_Pack_impl_FindPack_1_l0_B (k m : Nat) : (Ex → Fr → Option Res) → Fr → Option Res := evC G_slices_IndexFunc_Pack fi_slices_IndexFunc_Pack (evF G_slices_IndexFunc_Pack (k + 1)) m (sub [1, 0, 1, 2, 3] fi_slices_IndexFunc_Pack.code) none
noncomputable abbrev slices_IndexFunc_Pack_impl_FindPack_1_l0_K (k m : Nat) : Ex → Fr → Option Res := blockK 0 (seqK (evC G_slices_IndexFunc_Pack fi_slices_IndexFunc_Pack (evF G_slices_IndexFunc_Pack (k + 1)) m (sub [1, 1] fi_slices_IndexFunc_Pack.code) none) (retK G_slices_IndexFunc_Pack fi_slices_IndexFunc_Pack))
theorem slices_IndexFunc_Pack_impl_FindPack_1_l0_eq (k m : Nat) : ∀ (n : Nat) (c3 : Cell) (c4 : Cell) (i5 : Int) (i6 : Int) (H7 : List Entry), loopK (some [0, 1, 7, 8]) (slices_IndexFunc_Pack_impl_FindPack_1_l0_B k m) (slices_IndexFunc_Pack_impl_FindPack_1_l0_K k m) n ⟨fT 19 0 [(0, .av (.one (c3))), (1, .av (.one (.fn fid_impl_FindPack_1 [] [c4]))), (7, .av (.one (Cell.int i5))), (8, .av (.one (Cell.int i6)))], fX 19 0 [], H7⟩ = slices_IndexFunc_Pack_impl_FindPack_1_l0 (k + 1) m n c3 c4 i5 i6 H7 := by
  intro n
  induction n with
  | zero => intros; rfl
  | succ n ih =>
    intros
    simp only [slices_IndexFunc_Pack_impl_FindPack_1_l0, ← ih]
    kernel_rfl
theorem slices_IndexFunc_Pack_impl_FindPack_1_code (k m : Nat) (c1 : Cell) (q2 : Cell) (H : List Entry) : evC G_slices_IndexFunc_Pack fi_slices_IndexFunc_Pack (evF G_slices_IndexFunc_Pack (k + 1)) m fi_slices_IndexFunc_Pack.code none (retK G_slices_IndexFunc_Pack fi_slices_IndexFunc_Pack) (enter fi_slices_IndexFunc_Pack [.one (c1), .one (.fn fid_impl_FindPack_1 [] [q2])] H) = slices_IndexFunc_Pack_impl_FindPack_1 (k + 1) m c1 q2 H := by
  simp only [slices_IndexFunc_Pack_impl_FindPack_1, ← slices_IndexFunc_Pack_impl_FindPack_1_l0_eq k m]
  kernel_rfl
theorem slices_IndexFunc_Pack_impl_FindPack_1_eq (k : Nat) (c1 : Cell) (q2 : Cell) (H : List Entry) : evF G_slices_IndexFunc_Pack (k + 2) fid_slices_IndexFunc_Pack [.one (c1), .one (.fn fid_impl_FindPack_1 [] [q2])] H = slices_IndexFunc_Pack_impl_FindPack_1 (k + 1) (k + 1) c1 q2 H :=
  Eq.trans (by kernel_rfl) (slices_IndexFunc_Pack_impl_FindPack_1_code k (k + 1) c1 q2 H)
theorem run_slices_IndexFunc_Pack_impl_FindPack_1_of {c1 : Cell} {q2 : Cell} {H : List Entry} {r : Res} (k : Nat) (h : slices_IndexFunc_Pack_impl_FindPack_1 (k + 1) (k + 1) c1 q2 H = some r) : run_slices_IndexFunc_Pack [.one (c1), .one (.fn fid_impl_FindPack_1 [] [q2])] H = some r := lim_of ((slices_IndexFunc_Pack_impl_FindPack_1_eq k c1 q2 H).trans h)
noncomputable def pl_impl_FindPack : List (Nat × Run) := [(fid_slices_IndexFunc_Pack, run_slices_IndexFunc_Pack), (fid_impl_FindPack_1, run_impl_FindPack_1)]
noncomputable def G_impl_FindPack : Ctx := ctx tyTab fiTab pl_impl_FindPack
noncomputable def run_impl_FindPack : Run := lim G_impl_FindPack fid_impl_FindPack
theorem ok_impl_FindPack : FnOk Try.prog OkT fid_impl_FindPack run_impl_FindPack := lim_ok (l := pl_impl_FindPack) Try_mix tyTab_ok fiTab_ok okT (.cons ok_slices_IndexFunc_Pack (.cons ok_impl_FindPack_1 .nil)) fid_impl_FindPack
noncomputable def impl_FindPack (k m : Nat) (c1 : Cell) (s2 : ByteArray) : Option Res :=
  (run_slices_IndexFunc_Pack [.one (c1), .one (.fn fid_impl_FindPack_1 [] [.ptr 0 1 0 0 0])] [Entry.mk 1 [[Cell.str s2]] 0 false]).bind fun r3 =>
  cond (shapeOk rk_slices_IndexFunc_Pack r3.1)
  ((cI .i64 (cellsAt r3.1 0) 0).bind fun i4 =>
  some ([.one (Cell.int i4)], r3.2))
  none
theorem impl_FindPack_code (k m : Nat) (c1 : Cell) (s2 : ByteArray) : evC G_impl_FindPack fi_impl_FindPack (evF G_impl_FindPack (k + 1)) m fi_impl_FindPack.code none (retK G_impl_FindPack fi_impl_FindPack) (enter fi_impl_FindPack [.one (c1), .one (Cell.str s2)] []) = impl_FindPack (k + 1) m c1 s2 := by
  kernel_rfl
theorem impl_FindPack_eq (k : Nat) (c1 : Cell) (s2 : ByteArray) : evF G_impl_FindPack (k + 2) fid_impl_FindPack [.one (c1), .one (Cell.str s2)] [] = impl_FindPack (k + 1) (k + 1) c1 s2 :=
  Eq.trans (by kernel_rfl) (impl_FindPack_code k (k + 1) c1 s2)
theorem run_impl_FindPack_of {c1 : Cell} {s2 : ByteArray} {r : Res} (k : Nat) (h : impl_FindPack (k + 1) (k + 1) c1 s2 = some r) : run_impl_FindPack [.one (c1), .one (Cell.str s2)] [] = some r := lim_of ((impl_FindPack_eq k c1 s2).trans h)
noncomputable def pl_impl_cmdAt : List (Nat × Run) := [(fid_impl_FindPack, run_impl_FindPack)]
noncomputable def G_impl_cmdAt : Ctx := ctx tyTab fiTab pl_impl_cmdAt
noncomputable def run_impl_cmdAt : Run := lim G_impl_cmdAt fid_impl_cmdAt
theorem ok_impl_cmdAt : FnOk Try.prog OkT fid_impl_cmdAt run_impl_cmdAt := lim_ok (l := pl_impl_cmdAt) Try_mix tyTab_ok fiTab_ok okT (.cons ok_impl_FindPack .nil) fid_impl_cmdAt
noncomputable def impl_cmdAt_l0 (k m : Nat) : Nat → ByteArray → Cell → Int → Int → Option Res
  | 0, _, _, _, _ => none
  | n + 1, s11, c12, i13, i14 =>
    cond (decide (i14 < i13))
    ((idxA 2 (c12) i14).bind fun c15 =>
    (deref [] (c15)).bind fun p16 =>
    (cS p16.1 p16.2).bind fun s17 =>
    (cC p16.1 (p16.2 + 1)).bind fun c18 =>
    cond (s17.toList == s11.toList)
    (some ([.agg [Cell.str s17, c18], .one (Cell.bool true)], []))
    (impl_cmdAt_l0 k m n s11 (c12) i13 (IntKind.i64.wrap (i14 + 1))))
    (some ([.agg [Cell.str (bs []), .lst true 1 []], .one (Cell.bool false)], []))
noncomputable def impl_cmdAt (k m : Nat) (c1 : Cell) (s2 : ByteArray) (s3 : ByteArray) : Option Res :=
  (callS run_impl_FindPack [.one (c1), .one (Cell.str s2)] []).bind fun r4 =>
  cond (shapeOk rk_impl_FindPack r4)
  ((cI .i64 (cellsAt r4 0) 0).bind fun i5 =>
  cond (decide (i5 < 0))
  (some ([.agg [Cell.str (bs []), .lst true 1 []], .one (Cell.bool false)], []))
  ((idxA 4 (c1) i5).bind fun c6 =>
  (fldA c6 3).bind fun c7 =>
  (deref [] (c7)).bind fun p8 =>
  (cC p8.1 p8.2).bind fun c9 =>
  (lenC c9).bind fun n10 =>
  impl_cmdAt_l0 k m m s3 (c9) (n10 : Int) 0))
  none
noncomputable abbrev impl_cmdAt_l0_B (k m : Nat) : (Ex → Fr → Option Res) → Fr → Option Res := evC G_impl_cmdAt fi_impl_cmdAt (evF G_impl_cmdAt (k + 1)) m (sub [1, 1, 1, 0, 1, 2, 3] fi_impl_cmdAt.code) none
noncomputable abbrev impl_cmdAt_l0_K (k m : Nat) : Ex → Fr → Option Res := blockK 0 (seqK (evC G_impl_cmdAt fi_impl_cmdAt (evF G_impl_cmdAt (k + 1)) m (sub [1, 1, 1, 1] fi_impl_cmdAt.code) none) (retK G_impl_cmdAt fi_impl_cmdAt))
theorem impl_cmdAt_l0_eq (k m : Nat) : ∀ (n : Nat) (s11 : ByteArray) (c12 : Cell) (i13 : Int) (i14 : Int), loopK (some [2, 6, 21, 22, 23]) (impl_cmdAt_l0_B k m) (impl_cmdAt_l0_K k m) n ⟨fT 34 0 [(2, .av (.one (Cell.str s11))), (6, .loc 6 0), (21, .av (.one (c12))), (22, .av (.one (Cell.int i13))), (23, .av (.one (Cell.int i14)))], fX 34 0 [(6, [Cell.str (bs []), .lst true 1 []])], []⟩ = impl_cmdAt_l0 (k + 1) m n s11 c12 i13 i14 := by
  intro n
  induction n with
  | zero => intros; rfl
  | succ n ih =>
    intros
    simp only [impl_cmdAt_l0, ← ih]
    kernel_rfl
theorem impl_cmdAt_code (k m : Nat) (c1 : Cell) (s2 : ByteArray) (s3 : ByteArray) : evC G_impl_cmdAt fi_impl_cmdAt (evF G_impl_cmdAt (k + 1)) m fi_impl_cmdAt.code none (retK G_impl_cmdAt fi_impl_cmdAt) (enter fi_impl_cmdAt [.one (c1), .one (Cell.str s2), .one (Cell.str s3)] []) = impl_cmdAt (k + 1) m c1 s2 s3 := by
  simp only [impl_cmdAt, ← impl_cmdAt_l0_eq k m]
  kernel_rfl
theorem impl_cmdAt_eq (k : Nat) (c1 : Cell) (s2 : ByteArray) (s3 : ByteArray) : evF G_impl_cmdAt (k + 2) fid_impl_cmdAt [.one (c1), .one (Cell.str s2), .one (Cell.str s3)] [] = impl_cmdAt (k + 1) (k + 1) c1 s2 s3 :=
  Eq.trans (by kernel_rfl) (impl_cmdAt_code k (k + 1) c1 s2 s3)
theorem run_impl_cmdAt_of {c1 : Cell} {s2 : ByteArray} {s3 : ByteArray} {r : Res} (k : Nat) (h : impl_cmdAt (k + 1) (k + 1) c1 s2 s3 = some r) : run_impl_cmdAt [.one (c1), .one (Cell.str s2), .one (Cell.str s3)] [] = some r := lim_of ((impl_cmdAt_eq k c1 s2 s3).trans h)
noncomputable def pl_impl_TaskName : List (Nat × Run) := []
noncomputable def G_impl_TaskName : Ctx := ctx tyTab fiTab pl_impl_TaskName
noncomputable def run_impl_TaskName : Run := lim G_impl_TaskName fid_impl_TaskName
theorem ok_impl_TaskName : FnOk Try.prog OkT fid_impl_TaskName run_impl_TaskName := lim_ok (l := pl_impl_TaskName) Try_mix tyTab_ok fiTab_ok okT .nil fid_impl_TaskName
noncomputable def impl_TaskName (k m : Nat) (s1 : ByteArray) (s2 : ByteArray) : Option Res :=
  (catS s1 (bs [35])).bind fun s3 =>
  (catS s3 s2).bind fun s4 =>
  some ([.one (Cell.str s4)], [])
theorem impl_TaskName_code (k m : Nat) (s1 : ByteArray) (s2 : ByteArray) : evC G_impl_TaskName fi_impl_TaskName (evF G_impl_TaskName (k + 1)) m fi_impl_TaskName.code none (retK G_impl_TaskName fi_impl_TaskName) (enter fi_impl_TaskName [.one (Cell.str s1), .one (Cell.str s2)] []) = impl_TaskName (k + 1) m s1 s2 := by
  kernel_rfl
theorem impl_TaskName_eq (k : Nat) (s1 : ByteArray) (s2 : ByteArray) : evF G_impl_TaskName (k + 2) fid_impl_TaskName [.one (Cell.str s1), .one (Cell.str s2)] [] = impl_TaskName (k + 1) (k + 1) s1 s2 :=
  Eq.trans (by kernel_rfl) (impl_TaskName_code k (k + 1) s1 s2)
theorem run_impl_TaskName_of {s1 : ByteArray} {s2 : ByteArray} {r : Res} (k : Nat) (h : impl_TaskName (k + 1) (k + 1) s1 s2 = some r) : run_impl_TaskName [.one (Cell.str s1), .one (Cell.str s2)] [] = some r := lim_of ((impl_TaskName_eq k s1 s2).trans h)
end Go.Ev
