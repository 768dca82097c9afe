/- What the evaluator says of the functions, each as a Lean function over cells. Printed by a program of this claim. Conditions: none. -/
import Derived.Test.YtaigckobkcihgaaSh0
import Derived.KernelRfl
namespace Go.Ev
open Go Go.Proofs
set_option maxRecDepth 100000
set_option linter.unusedVariables false
set_option linter.unusedSimpArgs false
noncomputable def pl_laws_markStringS : List (Nat × Run) := [(fid_laws_markText, run_laws_markText)]
noncomputable def G_laws_markStringS : Ctx := ctx tyTab fiTab pl_laws_markStringS
noncomputable def run_laws_markStringS : Run := lim G_laws_markStringS fid_laws_markStringS
theorem ok_laws_markStringS : FnOk Try.prog OkT fid_laws_markStringS run_laws_markStringS := lim_ok (l := pl_laws_markStringS) Try_mix tyTab_ok fiTab_ok okT (.cons ok_laws_markText .nil) fid_laws_markStringS
noncomputable def laws_markStringS_l0 (k m : Nat) : Nat → Cell → Int → Int → List Entry → Option Res
  | 0, _, _, _, _ => none
  | n + 1, c3, i4, i5, H6 =>
    (lenC c3).bind fun n7 =>
    cond (decide (i5 < (n7 : Int)))
    ((callS run_laws_markText [.one (Cell.int i4)] H6).bind fun r8 =>
    cond (shapeOk rk_laws_markText r8)
    ((cS (cellsAt r8 0) 0).bind fun s9 =>
    (idxA 1 (c3) i5).bind fun c10 =>
    (hStore H6 (c10) [Cell.str s9]).bind fun h11 =>
    laws_markStringS_l0 k m n (c3) (IntKind.i64.wrap (i4 + 1)) (IntKind.i64.wrap (i5 + 1)) h11)
    none)
    (some ([.one (Cell.int i4)], H6))
noncomputable def laws_markStringS (k m : Nat) (c1 : Cell) (i2 : Int) (H : List Entry) : Option Res :=
  laws_markStringS_l0 k m m (c1) i2 0 H
noncomputable abbrev laws_markStringS_l0_B (k m : Nat) : (Ex → Fr → Option Res) → Fr → Option Res := evC G_laws_markStringS fi_laws_markStringS (evF G_laws_markStringS (k + 1)) m (sub [1, 0, 1, 2, 3] fi_laws_markStringS.code) none
noncomputable abbrev laws_markStringS_l0_K (k m : Nat) : Ex → Fr → Option Res := blockK 0 (seqK (evC G_laws_markStringS fi_laws_markStringS (evF G_laws_markStringS (k + 1)) m (sub [1, 1] fi_laws_markStringS.code) none) (retK G_laws_markStringS fi_laws_markStringS))
theorem laws_markStringS_l0_eq (k m : Nat) : ∀ (n : Nat) (c3 : Cell) (i4 : Int) (i5 : Int) (H6 : List Entry), loopK (some [0, 1, 5]) (laws_markStringS_l0_B k m) (laws_markStringS_l0_K k m) n ⟨fT 20 0 [(0, .av (.one (c3))), (1, .av (.one (Cell.int i4))), (5, .av (.one (Cell.int i5)))], fX 20 0 [], H6⟩ = laws_markStringS_l0 (k + 1) m n c3 i4 i5 H6 := by
  intro n
  induction n with
  | zero => intros; rfl
  | succ n ih =>
    intros
    simp only [laws_markStringS_l0, ← ih]
    kernel_rfl
theorem laws_markStringS_code (k m : Nat) (c1 : Cell) (i2 : Int) (H : List Entry) : evC G_laws_markStringS fi_laws_markStringS (evF G_laws_markStringS (k + 1)) m fi_laws_markStringS.code none (retK G_laws_markStringS fi_laws_markStringS) (enter fi_laws_markStringS [.one (c1), .one (Cell.int i2)] H) = laws_markStringS (k + 1) m c1 i2 H := by
  simp only [laws_markStringS, ← laws_markStringS_l0_eq k m]
  kernel_rfl
theorem laws_markStringS_eq (k : Nat) (c1 : Cell) (i2 : Int) (H : List Entry) : evF G_laws_markStringS (k + 2) fid_laws_markStringS [.one (c1), .one (Cell.int i2)] H = laws_markStringS (k + 1) (k + 1) c1 i2 H :=
  Eq.trans (by kernel_rfl) (laws_markStringS_code k (k + 1) c1 i2 H)
theorem run_laws_markStringS_of {c1 : Cell} {i2 : Int} {H : List Entry} {r : Res} (k : Nat) (h : laws_markStringS (k + 1) (k + 1) c1 i2 H = some r) : run_laws_markStringS [.one (c1), .one (Cell.int i2)] H = some r := lim_of ((laws_markStringS_eq k c1 i2 H).trans h)
noncomputable def pl_laws_markNeedS : List (Nat × Run) := [(fid_laws_markText, run_laws_markText)]
noncomputable def G_laws_markNeedS : Ctx := ctx tyTab fiTab pl_laws_markNeedS
noncomputable def run_laws_markNeedS : Run := lim G_laws_markNeedS fid_laws_markNeedS
theorem ok_laws_markNeedS : FnOk Try.prog OkT fid_laws_markNeedS run_laws_markNeedS := lim_ok (l := pl_laws_markNeedS) Try_mix tyTab_ok fiTab_ok okT (.cons ok_laws_markText .nil) fid_laws_markNeedS
noncomputable def laws_markNeedS_l0 (k m : Nat) : Nat → Cell → Int → Int → List Entry → Option Res
  | 0, _, _, _, _ => none
  | n + 1, c3, i4, i5, H6 =>
    (lenC c3).bind fun n7 =>
    cond (decide (i5 < (n7 : Int)))
    ((callS run_laws_markText [.one (Cell.int i4)] H6).bind fun r8 =>
    cond (shapeOk rk_laws_markText r8)
    ((cS (cellsAt r8 0) 0).bind fun s9 =>
    (idxA 2 (c3) i5).bind fun c10 =>
    (fldA c10 0).bind fun c11 =>
    (hStore H6 (c11) [Cell.str s9]).bind fun h12 =>
    (callS run_laws_markText [.one (Cell.int (IntKind.i64.wrap (i4 + 1)))] h12).bind fun r13 =>
    cond (shapeOk rk_laws_markText r13)
    ((cS (cellsAt r13 0) 0).bind fun s14 =>
    (idxA 2 (c3) i5).bind fun c15 =>
    (fldA c15 1).bind fun c16 =>
    (hStore h12 (c16) [Cell.str s14]).bind fun h17 =>
    laws_markNeedS_l0 k m n (c3) (IntKind.i64.wrap ((IntKind.i64.wrap (i4 + 1)) + 1)) (IntKind.i64.wrap (i5 + 1)) h17)
    none)
    none)
    (some ([.one (Cell.int i4)], H6))
noncomputable def laws_markNeedS (k m : Nat) (c1 : Cell) (i2 : Int) (H : List Entry) : Option Res :=
  laws_markNeedS_l0 k m m (c1) i2 0 H
noncomputable abbrev laws_markNeedS_l0_B (k m : Nat) : (Ex → Fr → Option Res) → Fr → Option Res := evC G_laws_markNeedS fi_laws_markNeedS (evF G_laws_markNeedS (k + 1)) m (sub [1, 0, 1, 2, 3] fi_laws_markNeedS.code) none
noncomputable abbrev laws_markNeedS_l0_K (k m : Nat) : Ex → Fr → Option Res := blockK 0 (seqK (evC G_laws_markNeedS fi_laws_markNeedS (evF G_laws_markNeedS (k + 1)) m (sub [1, 1] fi_laws_markNeedS.code) none) (retK G_laws_markNeedS fi_laws_markNeedS))
theorem laws_markNeedS_l0_eq (k m : Nat) : ∀ (n : Nat) (c3 : Cell) (i4 : Int) (i5 : Int) (H6 : List Entry), loopK (some [0, 1, 5]) (laws_markNeedS_l0_B k m) (laws_markNeedS_l0_K k m) n ⟨fT 29 0 [(0, .av (.one (c3))), (1, .av (.one (Cell.int i4))), (5, .av (.one (Cell.int i5)))], fX 29 0 [], H6⟩ = laws_markNeedS_l0 (k + 1) m n c3 i4 i5 H6 := by
  intro n
  induction n with
  | zero => intros; rfl
  | succ n ih =>
    intros
    simp only [laws_markNeedS_l0, ← ih]
    kernel_rfl
theorem laws_markNeedS_code (k m : Nat) (c1 : Cell) (i2 : Int) (H : List Entry) : evC G_laws_markNeedS fi_laws_markNeedS (evF G_laws_markNeedS (k + 1)) m fi_laws_markNeedS.code none (retK G_laws_markNeedS fi_laws_markNeedS) (enter fi_laws_markNeedS [.one (c1), .one (Cell.int i2)] H) = laws_markNeedS (k + 1) m c1 i2 H := by
  simp only [laws_markNeedS, ← laws_markNeedS_l0_eq k m]
  kernel_rfl
theorem laws_markNeedS_eq (k : Nat) (c1 : Cell) (i2 : Int) (H : List Entry) : evF G_laws_markNeedS (k + 2) fid_laws_markNeedS [.one (c1), .one (Cell.int i2)] H = laws_markNeedS (k + 1) (k + 1) c1 i2 H :=
  Eq.trans (by kernel_rfl) (laws_markNeedS_code k (k + 1) c1 i2 H)
theorem run_laws_markNeedS_of {c1 : Cell} {i2 : Int} {H : List Entry} {r : Res} (k : Nat) (h : laws_markNeedS (k + 1) (k + 1) c1 i2 H = some r) : run_laws_markNeedS [.one (c1), .one (Cell.int i2)] H = some r := lim_of ((laws_markNeedS_eq k c1 i2 H).trans h)
noncomputable def pl_laws_markCmdS : List (Nat × Run) := [(fid_laws_markStringS, run_laws_markStringS), (fid_laws_markText, run_laws_markText)]
noncomputable def G_laws_markCmdS : Ctx := ctx tyTab fiTab pl_laws_markCmdS
noncomputable def run_laws_markCmdS : Run := lim G_laws_markCmdS fid_laws_markCmdS
theorem ok_laws_markCmdS : FnOk Try.prog OkT fid_laws_markCmdS run_laws_markCmdS := lim_ok (l := pl_laws_markCmdS) Try_mix tyTab_ok fiTab_ok okT (.cons ok_laws_markStringS (.cons ok_laws_markText .nil)) fid_laws_markCmdS
noncomputable def laws_markCmdS_l0 (k m : Nat) : Nat → Cell → Int → Int → List Entry → Option Res
  | 0, _, _, _, _ => none
  | n + 1, c3, i4, i5, H6 =>
    (lenC c3).bind fun n7 =>
    cond (decide (i5 < (n7 : Int)))
    ((callS run_laws_markText [.one (Cell.int i4)] H6).bind fun r8 =>
    cond (shapeOk rk_laws_markText r8)
    ((cS (cellsAt r8 0) 0).bind fun s9 =>
    (idxA 2 (c3) i5).bind fun c10 =>
    (fldA c10 0).bind fun c11 =>
    (hStore H6 (c11) [Cell.str s9]).bind fun h12 =>
    (idxA 2 (c3) i5).bind fun c13 =>
    (fldA c13 1).bind fun c14 =>
    (deref h12 (c14)).bind fun p15 =>
    (cC p15.1 p15.2).bind fun c16 =>
    (run_laws_markStringS [.one (c16), .one (Cell.int (IntKind.i64.wrap (i4 + 1)))] h12).bind fun r17 =>
    cond (shapeOk rk_laws_markStringS r17.1)
    ((cI .i64 (cellsAt r17.1 0) 0).bind fun i18 =>
    laws_markCmdS_l0 k m n (c3) i18 (IntKind.i64.wrap (i5 + 1)) r17.2)
    none)
    none)
    (some ([.one (Cell.int i4)], H6))
noncomputable def laws_markCmdS (k m : Nat) (c1 : Cell) (i2 : Int) (H : List Entry) : Option Res :=
  laws_markCmdS_l0 k m m (c1) i2 0 H
noncomputable abbrev laws_markCmdS_l0_B (k m : Nat) : (Ex → Fr → Option Res) → Fr → Option Res := evC G_laws_markCmdS fi_laws_markCmdS (evF G_laws_markCmdS (k + 1)) m (sub [1, 0, 1, 2, 3] fi_laws_markCmdS.code) none
noncomputable abbrev laws_markCmdS_l0_K (k m : Nat) : Ex → Fr → Option Res := blockK 0 (seqK (evC G_laws_markCmdS fi_laws_markCmdS (evF G_laws_markCmdS (k + 1)) m (sub [1, 1] fi_laws_markCmdS.code) none) (retK G_laws_markCmdS fi_laws_markCmdS))
theorem laws_markCmdS_l0_eq (k m : Nat) : ∀ (n : Nat) (c3 : Cell) (i4 : Int) (i5 : Int) (H6 : List Entry), loopK (some [0, 1, 5]) (laws_markCmdS_l0_B k m) (laws_markCmdS_l0_K k m) n ⟨fT 28 0 [(0, .av (.one (c3))), (1, .av (.one (Cell.int i4))), (5, .av (.one (Cell.int i5)))], fX 28 0 [], H6⟩ = laws_markCmdS_l0 (k + 1) m n c3 i4 i5 H6 := by
  intro n
  induction n with
  | zero => intros; rfl
  | succ n ih =>
    intros
    simp only [laws_markCmdS_l0, ← ih]
    kernel_rfl
theorem laws_markCmdS_code (k m : Nat) (c1 : Cell) (i2 : Int) (H : List Entry) : evC G_laws_markCmdS fi_laws_markCmdS (evF G_laws_markCmdS (k + 1)) m fi_laws_markCmdS.code none (retK G_laws_markCmdS fi_laws_markCmdS) (enter fi_laws_markCmdS [.one (c1), .one (Cell.int i2)] H) = laws_markCmdS (k + 1) m c1 i2 H := by
  simp only [laws_markCmdS, ← laws_markCmdS_l0_eq k m]
  kernel_rfl
theorem laws_markCmdS_eq (k : Nat) (c1 : Cell) (i2 : Int) (H : List Entry) : evF G_laws_markCmdS (k + 2) fid_laws_markCmdS [.one (c1), .one (Cell.int i2)] H = laws_markCmdS (k + 1) (k + 1) c1 i2 H :=
  Eq.trans (by kernel_rfl) (laws_markCmdS_code k (k + 1) c1 i2 H)
theorem run_laws_markCmdS_of {c1 : Cell} {i2 : Int} {H : List Entry} {r : Res} (k : Nat) (h : laws_markCmdS (k + 1) (k + 1) c1 i2 H = some r) : run_laws_markCmdS [.one (c1), .one (Cell.int i2)] H = some r := lim_of ((laws_markCmdS_eq k c1 i2 H).trans h)
noncomputable def pl_laws_markPackS : List (Nat × Run) := [(fid_laws_markStringS, run_laws_markStringS), (fid_laws_markText, run_laws_markText), (fid_laws_markNeedS, run_laws_markNeedS), (fid_laws_markCmdS, run_laws_markCmdS)]
noncomputable def G_laws_markPackS : Ctx := ctx tyTab fiTab pl_laws_markPackS
noncomputable def run_laws_markPackS : Run := lim G_laws_markPackS fid_laws_markPackS
theorem ok_laws_markPackS : FnOk Try.prog OkT fid_laws_markPackS run_laws_markPackS := lim_ok (l := pl_laws_markPackS) Try_mix tyTab_ok fiTab_ok okT (.cons ok_laws_markStringS (.cons ok_laws_markText (.cons ok_laws_markNeedS (.cons ok_laws_markCmdS .nil)))) fid_laws_markPackS
noncomputable def laws_markPackS_l0 (k m : Nat) : Nat → Cell → Int → Int → List Entry → Option Res
  | 0, _, _, _, _ => none
  | n + 1, c3, i4, i5, H6 =>
    (lenC c3).bind fun n7 =>
    cond (decide (i5 < (n7 : Int)))
    ((callS run_laws_markText [.one (Cell.int i4)] H6).bind fun r8 =>
    cond (shapeOk rk_laws_markText r8)
    ((cS (cellsAt r8 0) 0).bind fun s9 =>
    (idxA 4 (c3) i5).bind fun c10 =>
    (fldA c10 0).bind fun c11 =>
    (hStore H6 (c11) [Cell.str s9]).bind fun h12 =>
    (idxA 4 (c3) i5).bind fun c13 =>
    (fldA c13 1).bind fun c14 =>
    (deref h12 (c14)).bind fun p15 =>
    (cC p15.1 p15.2).bind fun c16 =>
    (run_laws_markStringS [.one (c16), .one (Cell.int (IntKind.i64.wrap (i4 + 1)))] h12).bind fun r17 =>
    cond (shapeOk rk_laws_markStringS r17.1)
    ((cI .i64 (cellsAt r17.1 0) 0).bind fun i18 =>
    (idxA 4 (c3) i5).bind fun c19 =>
    (fldA c19 2).bind fun c20 =>
    (deref r17.2 (c20)).bind fun p21 =>
    (cC p21.1 p21.2).bind fun c22 =>
    (run_laws_markNeedS [.one (c22), .one (Cell.int i18)] r17.2).bind fun r23 =>
    cond (shapeOk rk_laws_markNeedS r23.1)
    ((cI .i64 (cellsAt r23.1 0) 0).bind fun i24 =>
    (idxA 4 (c3) i5).bind fun c25 =>
    (fldA c25 3).bind fun c26 =>
    (deref r23.2 (c26)).bind fun p27 =>
    (cC p27.1 p27.2).bind fun c28 =>
    (run_laws_markCmdS [.one (c28), .one (Cell.int i24)] r23.2).bind fun r29 =>
    cond (shapeOk rk_laws_markCmdS r29.1)
    ((cI .i64 (cellsAt r29.1 0) 0).bind fun i30 =>
    laws_markPackS_l0 k m n (c3) i30 (IntKind.i64.wrap (i5 + 1)) r29.2)
    none)
    none)
    none)
    none)
    (some ([.one (Cell.int i4)], H6))
noncomputable def laws_markPackS (k m : Nat) (c1 : Cell) (i2 : Int) (H : List Entry) : Option Res :=
  laws_markPackS_l0 k m m (c1) i2 0 H
noncomputable abbrev laws_markPackS_l0_B (k m : Nat) : (Ex → Fr → Option Res) → Fr → Option Res := evC G_laws_markPackS fi_laws_markPackS (evF G_laws_markPackS (k + 1)) m (sub [1, 0, 1, 2, 3] fi_laws_markPackS.code) none
noncomputable abbrev laws_markPackS_l0_K (k m : Nat) : Ex → Fr → Option Res := blockK 0 (seqK (evC G_laws_markPackS fi_laws_markPackS (evF G_laws_markPackS (k + 1)) m (sub [1, 1] fi_laws_markPackS.code) none) (retK G_laws_markPackS fi_laws_markPackS))
theorem laws_markPackS_l0_eq (k m : Nat) : ∀ (n : Nat) (c3 : Cell) (i4 : Int) (i5 : Int) (H6 : List Entry), loopK (some [0, 1, 5]) (laws_markPackS_l0_B k m) (laws_markPackS_l0_K k m) n ⟨fT 42 0 [(0, .av (.one (c3))), (1, .av (.one (Cell.int i4))), (5, .av (.one (Cell.int i5)))], fX 42 0 [], H6⟩ = laws_markPackS_l0 (k + 1) m n c3 i4 i5 H6 := by
  intro n
  induction n with
  | zero => intros; rfl
  | succ n ih =>
    intros
    simp only [laws_markPackS_l0, ← ih]
    kernel_rfl
theorem laws_markPackS_code (k m : Nat) (c1 : Cell) (i2 : Int) (H : List Entry) : evC G_laws_markPackS fi_laws_markPackS (evF G_laws_markPackS (k + 1)) m fi_laws_markPackS.code none (retK G_laws_markPackS fi_laws_markPackS) (enter fi_laws_markPackS [.one (c1), .one (Cell.int i2)] H) = laws_markPackS (k + 1) m c1 i2 H := by
  simp only [laws_markPackS, ← laws_markPackS_l0_eq k m]
  kernel_rfl
theorem laws_markPackS_eq (k : Nat) (c1 : Cell) (i2 : Int) (H : List Entry) : evF G_laws_markPackS (k + 2) fid_laws_markPackS [.one (c1), .one (Cell.int i2)] H = laws_markPackS (k + 1) (k + 1) c1 i2 H :=
  Eq.trans (by kernel_rfl) (laws_markPackS_code k (k + 1) c1 i2 H)
theorem run_laws_markPackS_of {c1 : Cell} {i2 : Int} {H : List Entry} {r : Res} (k : Nat) (h : laws_markPackS (k + 1) (k + 1) c1 i2 H = some r) : run_laws_markPackS [.one (c1), .one (Cell.int i2)] H = some r := lim_of ((laws_markPackS_eq k c1 i2 H).trans h)
noncomputable def pl_laws_heldStringS : List (Nat × Run) := [(fid_laws_markText, run_laws_markText)]
noncomputable def G_laws_heldStringS : Ctx := ctx tyTab fiTab pl_laws_heldStringS
noncomputable def run_laws_heldStringS : Run := lim G_laws_heldStringS fid_laws_heldStringS
theorem ok_laws_heldStringS : FnOk Try.prog OkT fid_laws_heldStringS run_laws_heldStringS := lim_ok (l := pl_laws_heldStringS) Try_mix tyTab_ok fiTab_ok okT (.cons ok_laws_markText .nil) fid_laws_heldStringS
noncomputable def laws_heldStringS_l0 (k m : Nat) : Nat → Cell → Int → Int → Option Res
  | 0, _, _, _ => none
  | n + 1, c3, i4, i5 =>
    (lenC c3).bind fun n6 =>
    cond (decide (i5 < (n6 : Int)))
    ((idxA 1 (c3) i5).bind fun c7 =>
    (deref [] (c7)).bind fun p8 =>
    (cS p8.1 p8.2).bind fun s9 =>
    (callS run_laws_markText [.one (Cell.int i4)] []).bind fun r10 =>
    cond (shapeOk rk_laws_markText r10)
    ((cS (cellsAt r10 0) 0).bind fun s11 =>
    cond (!(s9.toList == s11.toList))
    (some ([.one (Cell.int (-1))], []))
    (laws_heldStringS_l0 k m n (c3) (IntKind.i64.wrap (i4 + 1)) (IntKind.i64.wrap (i5 + 1))))
    none)
    (some ([.one (Cell.int i4)], []))
noncomputable def laws_heldStringS (k m : Nat) (c1 : Cell) (i2 : Int) : Option Res :=
  laws_heldStringS_l0 k m m (c1) i2 0
noncomputable abbrev laws_heldStringS_l0_B (k m : Nat) : (Ex → Fr → Option Res) → Fr → Option Res := evC G_laws_heldStringS fi_laws_heldStringS (evF G_laws_heldStringS (k + 1)) m (sub [1, 0, 1, 2, 3] fi_laws_heldStringS.code) none
noncomputable abbrev laws_heldStringS_l0_K (k m : Nat) : Ex → Fr → Option Res := blockK 0 (seqK (evC G_laws_heldStringS fi_laws_heldStringS (evF G_laws_heldStringS (k + 1)) m (sub [1, 1] fi_laws_heldStringS.code) none) (retK G_laws_heldStringS fi_laws_heldStringS))
theorem laws_heldStringS_l0_eq (k m : Nat) : ∀ (n : Nat) (c3 : Cell) (i4 : Int) (i5 : Int), loopK (some [0, 1, 5]) (laws_heldStringS_l0_B k m) (laws_heldStringS_l0_K k m) n ⟨fT 22 0 [(0, .av (.one (c3))), (1, .av (.one (Cell.int i4))), (5, .av (.one (Cell.int i5)))], fX 22 0 [], []⟩ = laws_heldStringS_l0 (k + 1) m n c3 i4 i5 := by
  intro n
  induction n with
  | zero => intros; rfl
  | succ n ih =>
    intros
    simp only [laws_heldStringS_l0, ← ih]
    kernel_rfl
theorem laws_heldStringS_code (k m : Nat) (c1 : Cell) (i2 : Int) : evC G_laws_heldStringS fi_laws_heldStringS (evF G_laws_heldStringS (k + 1)) m fi_laws_heldStringS.code none (retK G_laws_heldStringS fi_laws_heldStringS) (enter fi_laws_heldStringS [.one (c1), .one (Cell.int i2)] []) = laws_heldStringS (k + 1) m c1 i2 := by
  simp only [laws_heldStringS, ← laws_heldStringS_l0_eq k m]
  kernel_rfl
theorem laws_heldStringS_eq (k : Nat) (c1 : Cell) (i2 : Int) : evF G_laws_heldStringS (k + 2) fid_laws_heldStringS [.one (c1), .one (Cell.int i2)] [] = laws_heldStringS (k + 1) (k + 1) c1 i2 :=
  Eq.trans (by kernel_rfl) (laws_heldStringS_code k (k + 1) c1 i2)
theorem run_laws_heldStringS_of {c1 : Cell} {i2 : Int} {r : Res} (k : Nat) (h : laws_heldStringS (k + 1) (k + 1) c1 i2 = some r) : run_laws_heldStringS [.one (c1), .one (Cell.int i2)] [] = some r := lim_of ((laws_heldStringS_eq k c1 i2).trans h)
noncomputable def pl_spec_l1Has : List (Nat × Run) := []
noncomputable def G_spec_l1Has : Ctx := ctx tyTab fiTab pl_spec_l1Has
noncomputable def run_spec_l1Has : Run := lim G_spec_l1Has fid_spec_l1Has
theorem ok_spec_l1Has : FnOk Try.prog OkT fid_spec_l1Has run_spec_l1Has := lim_ok (l := pl_spec_l1Has) Try_mix tyTab_ok fiTab_ok okT .nil fid_spec_l1Has
noncomputable def spec_l1Has_l0 (k m : Nat) : Nat → Cell → ByteArray → Int → Option Res
  | 0, _, _, _ => none
  | n + 1, c3, s4, i5 =>
    (lenC c3).bind fun n6 =>
    cond (decide (i5 < (n6 : Int)))
    ((idxA 1 (c3) i5).bind fun c7 =>
    (deref [] (c7)).bind fun p8 =>
    (cS p8.1 p8.2).bind fun s9 =>
    cond (s9.toList == s4.toList)
    (some ([.one (Cell.bool true)], []))
    (spec_l1Has_l0 k m n (c3) s4 (IntKind.i64.wrap (i5 + 1))))
    (some ([.one (Cell.bool false)], []))
noncomputable def spec_l1Has (k m : Nat) (c1 : Cell) (s2 : ByteArray) : Option Res :=
  spec_l1Has_l0 k m m (c1) s2 0
noncomputable abbrev spec_l1Has_l0_B (k m : Nat) : (Ex → Fr → Option Res) → Fr → Option Res := evC G_spec_l1Has fi_spec_l1Has (evF G_spec_l1Has (k + 1)) m (sub [1, 0, 1, 2, 3] fi_spec_l1Has.code) none
noncomputable abbrev spec_l1Has_l0_K (k m : Nat) : Ex → Fr → Option Res := blockK 0 (seqK (evC G_spec_l1Has fi_spec_l1Has (evF G_spec_l1Has (k + 1)) m (sub [1, 1] fi_spec_l1Has.code) none) (retK G_spec_l1Has fi_spec_l1Has))
theorem spec_l1Has_l0_eq (k m : Nat) : ∀ (n : Nat) (c3 : Cell) (s4 : ByteArray) (i5 : Int), loopK (some [0, 1, 5]) (spec_l1Has_l0_B k m) (spec_l1Has_l0_K k m) n ⟨fT 18 0 [(0, .av (.one (c3))), (1, .av (.one (Cell.str s4))), (5, .av (.one (Cell.int i5)))], fX 18 0 [], []⟩ = spec_l1Has_l0 (k + 1) m n c3 s4 i5 := by
  intro n
  induction n with
  | zero => intros; rfl
  | succ n ih =>
    intros
    simp only [spec_l1Has_l0, ← ih]
    kernel_rfl
theorem spec_l1Has_code (k m : Nat) (c1 : Cell) (s2 : ByteArray) : evC G_spec_l1Has fi_spec_l1Has (evF G_spec_l1Has (k + 1)) m fi_spec_l1Has.code none (retK G_spec_l1Has fi_spec_l1Has) (enter fi_spec_l1Has [.one (c1), .one (Cell.str s2)] []) = spec_l1Has (k + 1) m c1 s2 := by
  simp only [spec_l1Has, ← spec_l1Has_l0_eq k m]
  kernel_rfl
theorem spec_l1Has_eq (k : Nat) (c1 : Cell) (s2 : ByteArray) : evF G_spec_l1Has (k + 2) fid_spec_l1Has [.one (c1), .one (Cell.str s2)] [] = spec_l1Has (k + 1) (k + 1) c1 s2 :=
  Eq.trans (by kernel_rfl) (spec_l1Has_code k (k + 1) c1 s2)
theorem run_spec_l1Has_of {c1 : Cell} {s2 : ByteArray} {r : Res} (k : Nat) (h : spec_l1Has (k + 1) (k + 1) c1 s2 = some r) : run_spec_l1Has [.one (c1), .one (Cell.str s2)] [] = some r := lim_of ((spec_l1Has_eq k c1 s2).trans h)
noncomputable def pl_spec_Sorted : List (Nat × Run) := [(fid_spec_l1Has, run_spec_l1Has)]
noncomputable def G_spec_Sorted : Ctx := ctx tyTab fiTab pl_spec_Sorted
noncomputable def run_spec_Sorted : Run := lim G_spec_Sorted fid_spec_Sorted
theorem ok_spec_Sorted : FnOk Try.prog OkT fid_spec_Sorted run_spec_Sorted := lim_ok (l := pl_spec_Sorted) Try_mix tyTab_ok fiTab_ok okT (.cons ok_spec_l1Has .nil) fid_spec_Sorted
noncomputable def spec_Sorted_l1 (k m : Nat) (b_l0 : Cell → Cell → Int → List Entry → Option Res) : Nat → Cell → Cell → Int → Int → List Entry → Option Res
  | 0, _, _, _, _, _ => none
  | n + 1, c17, c18, i19, i20, H21 =>
    cond (decide (i20 > 0))
    ((idxA 1 (c18) (IntKind.i64.wrap (i20 - 1))).bind fun c22 =>
    (deref H21 (c22)).bind fun p23 =>
    (cS p23.1 p23.2).bind fun s24 =>
    (idxA 1 (c17) i19).bind fun c25 =>
    (deref H21 (c25)).bind fun p26 =>
    (cS p26.1 p26.2).bind fun s27 =>
    cond (!(Op.bytesLess s24.toList s27.toList || s24.toList == s27.toList))
    ((idxA 1 (c18) (IntKind.i64.wrap (i20 - 1))).bind fun c28 =>
    (deref H21 (c28)).bind fun p29 =>
    (cS p29.1 p29.2).bind fun s30 =>
    (idxA 1 (c18) i20).bind fun c31 =>
    (hStore H21 (c31) [Cell.str s30]).bind fun h32 =>
    spec_Sorted_l1 k m b_l0 n (c17) (c18) i19 (IntKind.i64.wrap (i20 - 1)) h32)
    ((idxA 1 (c17) i19).bind fun c33 =>
    (deref H21 (c33)).bind fun p34 =>
    (cS p34.1 p34.2).bind fun s35 =>
    (idxA 1 (c18) i20).bind fun c36 =>
    (hStore H21 (c36) [Cell.str s35]).bind fun h37 =>
    b_l0 (c17) (c18) (IntKind.i64.wrap (i19 + 1)) h37))
    ((idxA 1 (c17) i19).bind fun c38 =>
    (deref H21 (c38)).bind fun p39 =>
    (cS p39.1 p39.2).bind fun s40 =>
    (idxA 1 (c18) i20).bind fun c41 =>
    (hStore H21 (c41) [Cell.str s40]).bind fun h42 =>
    b_l0 (c17) (c18) (IntKind.i64.wrap (i19 + 1)) h42)
noncomputable def spec_Sorted_l0 (k m : Nat) : Nat → Cell → Cell → Int → List Entry → Option Res
  | 0, _, _, _, _ => none
  | n + 1, c2, c3, i4, H5 =>
    (lenC c2).bind fun n6 =>
    cond (decide (i4 < (n6 : Int)))
    ((idxA 1 (c2) i4).bind fun c7 =>
    (deref H5 (c7)).bind fun p8 =>
    (cS p8.1 p8.2).bind fun s9 =>
    (callS run_spec_l1Has [.one (c3), .one (Cell.str s9)] H5).bind fun r10 =>
    cond (shapeOk rk_spec_l1Has r10)
    ((cB (cellsAt r10 0) 0).bind fun b11 =>
    cond b11
    (spec_Sorted_l0 k m n (c2) (c3) (IntKind.i64.wrap (i4 + 1)) H5)
    ((idxA 1 (c2) i4).bind fun c12 =>
    (deref H5 (c12)).bind fun p13 =>
    (cS p13.1 p13.2).bind fun s14 =>
    (app H5 1 16 (c3) [[Cell.str s14]]).bind fun p15 =>
    (lenC p15.1).bind fun n16 =>
    spec_Sorted_l1 k m (spec_Sorted_l0 k m n) m (c2) (p15.1) i4 (IntKind.i64.wrap ((n16 : Int) - 1)) p15.2))
    none)
    (some ([.one (c3)], H5))
noncomputable def spec_Sorted (k m : Nat) (c1 : Cell) : Option Res :=
  spec_Sorted_l0 k m m (c1) (.lst true 1 []) 0 []
noncomputable abbrev spec_Sorted_l0_B (k m : Nat) : (Ex → Fr → Option Res) → Fr → Option Res := evC G_spec_Sorted fi_spec_Sorted (evF G_spec_Sorted (k + 1)) m (sub [1, 1, 0, 1, 2, 3] fi_spec_Sorted.code) none
noncomputable abbrev spec_Sorted_l0_K (k m : Nat) : Ex → Fr → Option Res := blockK 0 (seqK (evC G_spec_Sorted fi_spec_Sorted (evF G_spec_Sorted (k + 1)) m (sub [1, 1, 1] fi_spec_Sorted.code) none) (retK G_spec_Sorted fi_spec_Sorted))
noncomputable abbrev spec_Sorted_l1_B (k m : Nat) : (Ex → Fr → Option Res) → Fr → Option Res := evC G_spec_Sorted fi_spec_Sorted (evF G_spec_Sorted (k + 1)) m (sub [1, 1, 0, 1, 2, 3, 1, 0, 2, 1, 1, 1, 0, 2, 3] fi_spec_Sorted.code) none
noncomputable abbrev spec_Sorted_l1_K (k m : Nat) (n_l0 : Nat) : Ex → Fr → Option Res := blockK 2 (seqK (evC G_spec_Sorted fi_spec_Sorted (evF G_spec_Sorted (k + 1)) m (sub [1, 1, 0, 1, 2, 3, 1, 0, 2, 1, 1, 1, 1] fi_spec_Sorted.code) none) (blockK 1 (seqK (evC G_spec_Sorted fi_spec_Sorted (evF G_spec_Sorted (k + 1)) m (sub [1, 1, 0, 1, 2, 3, 1, 1] fi_spec_Sorted.code) none) (loopE (fun s => loopK (some [0, 3, 4]) (spec_Sorted_l0_B k m) (spec_Sorted_l0_K k m) n_l0 (keepS (some [0, 3, 4]) s)) (spec_Sorted_l0_K k m)))))
theorem spec_Sorted_l1_eq (k m : Nat) (b_l0 : Cell → Cell → Int → List Entry → Option Res) (n_l0 : Nat) (h_l0 : ∀ (c2 : Cell) (c3 : Cell) (i4 : Int) (H5 : List Entry), loopK (some [0, 3, 4]) (spec_Sorted_l0_B k m) (spec_Sorted_l0_K k m) n_l0 ⟨fT 61 0 [(0, .av (.one (c2))), (3, .av (.one (c3))), (4, .av (.one (Cell.int i4)))], fX 61 0 [], H5⟩ = b_l0 c2 c3 i4 H5) : ∀ (n : Nat) (c17 : Cell) (c18 : Cell) (i19 : Int) (i20 : Int) (H21 : List Entry), loopK (some [0, 3, 4, 5]) (spec_Sorted_l1_B k m) (spec_Sorted_l1_K k m n_l0) n ⟨fT 61 0 [(0, .av (.one (c17))), (3, .av (.one (c18))), (4, .av (.one (Cell.int i19))), (5, .av (.one (Cell.int i20)))], fX 61 0 [], H21⟩ = spec_Sorted_l1 (k + 1) m b_l0 n c17 c18 i19 i20 H21 := by
  intro n
  induction n with
  | zero => intros; rfl
  | succ n ih =>
    intros
    simp only [spec_Sorted_l1, ← h_l0, ← ih]
    kernel_rfl
theorem spec_Sorted_l0_eq (k m : Nat) : ∀ (n : Nat) (c2 : Cell) (c3 : Cell) (i4 : Int) (H5 : List Entry), loopK (some [0, 3, 4]) (spec_Sorted_l0_B k m) (spec_Sorted_l0_K k m) n ⟨fT 61 0 [(0, .av (.one (c2))), (3, .av (.one (c3))), (4, .av (.one (Cell.int i4)))], fX 61 0 [], H5⟩ = spec_Sorted_l0 (k + 1) m n c2 c3 i4 H5 := by
  intro n
  induction n with
  | zero => intros; rfl
  | succ n ih =>
    intros
    simp only [spec_Sorted_l0, ← spec_Sorted_l1_eq k m _ _ (ih), ← ih]
    kernel_rfl
theorem spec_Sorted_code (k m : Nat) (c1 : Cell) : evC G_spec_Sorted fi_spec_Sorted (evF G_spec_Sorted (k + 1)) m fi_spec_Sorted.code none (retK G_spec_Sorted fi_spec_Sorted) (enter fi_spec_Sorted [.one (c1)] []) = spec_Sorted (k + 1) m c1 := by
  simp only [spec_Sorted, ← spec_Sorted_l0_eq k m]
  kernel_rfl
theorem spec_Sorted_eq (k : Nat) (c1 : Cell) : evF G_spec_Sorted (k + 2) fid_spec_Sorted [.one (c1)] [] = spec_Sorted (k + 1) (k + 1) c1 :=
  Eq.trans (by kernel_rfl) (spec_Sorted_code k (k + 1) c1)
theorem run_spec_Sorted_of {c1 : Cell} {r : Res} (k : Nat) (h : spec_Sorted (k + 1) (k + 1) c1 = some r) : run_spec_Sorted [.one (c1)] [] = some r := lim_of ((spec_Sorted_eq k c1).trans h)
noncomputable def pl_spec_l11At : List (Nat × Run) := []
noncomputable def G_spec_l11At : Ctx := ctx tyTab fiTab pl_spec_l11At
noncomputable def run_spec_l11At : Run := lim G_spec_l11At fid_spec_l11At
theorem ok_spec_l11At : FnOk Try.prog OkT fid_spec_l11At run_spec_l11At := lim_ok (l := pl_spec_l11At) Try_mix tyTab_ok fiTab_ok okT .nil fid_spec_l11At
noncomputable def spec_l11At_l0 (k m : Nat) : Nat → ByteArray → Int → Cell → Cell → Option Res
  | 0, _, _, _, _ => none
  | n + 1, s4, i5, c6, c7 =>
    (lenC c6).bind fun n8 =>
    cond (decide (i5 < (n8 : Int)))
    ((idxA 1 (c6) i5).bind fun c9 =>
    (deref [] (c9)).bind fun p10 =>
    (cS p10.1 p10.2).bind fun s11 =>
    cond (s11.toList == s4.toList)
    (some ([.one (Cell.int i5)], []))
    (spec_l11At_l0 k m n s4 (IntKind.i64.wrap (i5 + 1)) (c6) (c7)))
    (some ([.one (Cell.int (-1))], []))
noncomputable def spec_l11At (k m : Nat) (c1 : Cell) (c2 : Cell) (s3 : ByteArray) : Option Res :=
  spec_l11At_l0 k m m s3 0 (c1) (c2)
noncomputable abbrev spec_l11At_l0_B (k m : Nat) : (Ex → Fr → Option Res) → Fr → Option Res := evC G_spec_l11At fi_spec_l11At (evF G_spec_l11At (k + 1)) m (sub [1, 0, 1, 2, 3] fi_spec_l11At.code) none
noncomputable abbrev spec_l11At_l0_K (k m : Nat) : Ex → Fr → Option Res := blockK 0 (seqK (evC G_spec_l11At fi_spec_l11At (evF G_spec_l11At (k + 1)) m (sub [1, 1] fi_spec_l11At.code) none) (retK G_spec_l11At fi_spec_l11At))
theorem spec_l11At_l0_eq (k m : Nat) : ∀ (n : Nat) (s4 : ByteArray) (i5 : Int) (c6 : Cell) (c7 : Cell), loopK (some [1, 2, 5]) (spec_l11At_l0_B k m) (spec_l11At_l0_K k m) n ⟨fT 21 0 [(1, .av (.one (Cell.str s4))), (2, .loc 2 0), (5, .av (.one (Cell.int i5)))], fX 21 0 [(2, [c6, c7])], []⟩ = spec_l11At_l0 (k + 1) m n s4 i5 c6 c7 := by
  intro n
  induction n with
  | zero => intros; rfl
  | succ n ih =>
    intros
    simp only [spec_l11At_l0, ← ih]
    kernel_rfl
theorem spec_l11At_code (k m : Nat) (c1 : Cell) (c2 : Cell) (s3 : ByteArray) : evC G_spec_l11At fi_spec_l11At (evF G_spec_l11At (k + 1)) m fi_spec_l11At.code none (retK G_spec_l11At fi_spec_l11At) (enter fi_spec_l11At [.agg [c1, c2], .one (Cell.str s3)] []) = spec_l11At (k + 1) m c1 c2 s3 := by
  simp only [spec_l11At, ← spec_l11At_l0_eq k m]
  kernel_rfl
theorem spec_l11At_eq (k : Nat) (c1 : Cell) (c2 : Cell) (s3 : ByteArray) : evF G_spec_l11At (k + 2) fid_spec_l11At [.agg [c1, c2], .one (Cell.str s3)] [] = spec_l11At (k + 1) (k + 1) c1 c2 s3 :=
  Eq.trans (by kernel_rfl) (spec_l11At_code k (k + 1) c1 c2 s3)
theorem run_spec_l11At_of {c1 : Cell} {c2 : Cell} {s3 : ByteArray} {r : Res} (k : Nat) (h : spec_l11At (k + 1) (k + 1) c1 c2 s3 = some r) : run_spec_l11At [.agg [c1, c2], .one (Cell.str s3)] [] = some r := lim_of ((spec_l11At_eq k c1 c2 s3).trans h)
noncomputable def pl_spec_l11Next : List (Nat × Run) := [(fid_spec_l11At, run_spec_l11At)]
noncomputable def G_spec_l11Next : Ctx := ctx tyTab fiTab pl_spec_l11Next
noncomputable def run_spec_l11Next : Run := lim G_spec_l11Next fid_spec_l11Next
theorem ok_spec_l11Next : FnOk Try.prog OkT fid_spec_l11Next run_spec_l11Next := lim_ok (l := pl_spec_l11Next) Try_mix tyTab_ok fiTab_ok okT (.cons ok_spec_l11At .nil) fid_spec_l11Next
noncomputable def spec_l11Next (k m : Nat) (c1 : Cell) (c2 : Cell) (s3 : ByteArray) : Option Res :=
  (callS run_spec_l11At [.agg [c1, c2], .one (Cell.str s3)] []).bind fun r4 =>
  cond (shapeOk rk_spec_l11At r4)
  ((cI .i64 (cellsAt r4 0) 0).bind fun i5 =>
  cond (decide (i5 < 0))
  (some ([.one (.lst true 1 [])], []))
  ((idxA 1 (c2) i5).bind fun c6 =>
  (deref [] (c6)).bind fun p7 =>
  (cC p7.1 p7.2).bind fun c8 =>
  some ([.one (c8)], [])))
  none
theorem spec_l11Next_code (k m : Nat) (c1 : Cell) (c2 : Cell) (s3 : ByteArray) : evC G_spec_l11Next fi_spec_l11Next (evF G_spec_l11Next (k + 1)) m fi_spec_l11Next.code none (retK G_spec_l11Next fi_spec_l11Next) (enter fi_spec_l11Next [.agg [c1, c2], .one (Cell.str s3)] []) = spec_l11Next (k + 1) m c1 c2 s3 := by
  kernel_rfl
theorem spec_l11Next_eq (k : Nat) (c1 : Cell) (c2 : Cell) (s3 : ByteArray) : evF G_spec_l11Next (k + 2) fid_spec_l11Next [.agg [c1, c2], .one (Cell.str s3)] [] = spec_l11Next (k + 1) (k + 1) c1 c2 s3 :=
  Eq.trans (by kernel_rfl) (spec_l11Next_code k (k + 1) c1 c2 s3)
theorem run_spec_l11Next_of {c1 : Cell} {c2 : Cell} {s3 : ByteArray} {r : Res} (k : Nat) (h : spec_l11Next (k + 1) (k + 1) c1 c2 s3 = some r) : run_spec_l11Next [.agg [c1, c2], .one (Cell.str s3)] [] = some r := lim_of ((spec_l11Next_eq k c1 c2 s3).trans h)
noncomputable def pl_spec_l11Reach : List (Nat × Run) := [(fid_spec_Sorted, run_spec_Sorted), (fid_spec_l11Next, run_spec_l11Next), (fid_spec_l1Has, run_spec_l1Has)]
noncomputable def G_spec_l11Reach : Ctx := ctx tyTab fiTab pl_spec_l11Reach
noncomputable def run_spec_l11Reach : Run := lim G_spec_l11Reach fid_spec_l11Reach
theorem ok_spec_l11Reach : FnOk Try.prog OkT fid_spec_l11Reach run_spec_l11Reach := lim_ok (l := pl_spec_l11Reach) Try_mix tyTab_ok fiTab_ok okT (.cons ok_spec_Sorted (.cons ok_spec_l11Next (.cons ok_spec_l1Has .nil))) fid_spec_l11Reach
noncomputable def spec_l11Reach_l0 (k m : Nat) : Nat → Cell → Cell → Cell → Cell → List Entry → Option Res
  | 0, _, _, _, _, _ => none
  | n + 1, c8, c9, c10, c11, H12 =>
    (lenC c9).bind fun n13 =>
    cond (decide ((n13 : Int) > 0))
    ((idxA 1 (c9) 0).bind fun c14 =>
    (deref H12 (c14)).bind fun p15 =>
    (cS p15.1 p15.2).bind fun s16 =>
    (slcC 1 (c9) 1 none none).bind fun c17 =>
    (srcRows H12 1 c17).bind fun r18 =>
    (app H12 1 16 (.lst true 1 []) r18).bind fun p19 =>
    (callS run_spec_l1Has [.one (c8), .one (Cell.str s16)] p19.2).bind fun r20 =>
    cond (shapeOk rk_spec_l1Has r20)
    ((cB (cellsAt r20 0) 0).bind fun b21 =>
    cond (!b21)
    ((app p19.2 1 16 (c8) [[Cell.str s16]]).bind fun p22 =>
    (callL run_spec_l11Next [.agg [c10, c11], .one (Cell.str s16)] p22.2).bind fun r23 =>
    cond (shapeOk rk_spec_l11Next r23.1)
    ((cC (cellsAt r23.1 0) 0).bind fun c24 =>
    (srcRows r23.2 1 c24).bind fun r25 =>
    (app r23.2 1 16 (p19.1) r25).bind fun p26 =>
    spec_l11Reach_l0 k m n (p22.1) (p26.1) (c10) (c11) p26.2)
    none)
    (spec_l11Reach_l0 k m n (c8) (p19.1) (c10) (c11) p19.2))
    none)
    ((callL run_spec_Sorted [.one (c8)] H12).bind fun r27 =>
    cond (shapeOk rk_spec_Sorted r27.1)
    ((cC (cellsAt r27.1 0) 0).bind fun c28 =>
    some ([.one (c28)], r27.2))
    none)
noncomputable def spec_l11Reach (k m : Nat) (c1 : Cell) (c2 : Cell) (s3 : ByteArray) : Option Res :=
  (callL run_spec_l11Next [.agg [c1, c2], .one (Cell.str s3)] []).bind fun r4 =>
  cond (shapeOk rk_spec_l11Next r4.1)
  ((cC (cellsAt r4.1 0) 0).bind fun c5 =>
  (srcRows r4.2 1 c5).bind fun r6 =>
  (app r4.2 1 16 (.lst true 1 []) r6).bind fun p7 =>
  spec_l11Reach_l0 k m m (.lst true 1 []) (p7.1) (c1) (c2) p7.2)
  none
noncomputable abbrev spec_l11Reach_l0_B (k m : Nat) : (Ex → Fr → Option Res) → Fr → Option Res := evC G_spec_l11Reach fi_spec_l11Reach (evF G_spec_l11Reach (k + 1)) m (sub [1, 1, 1, 0, 2, 3] fi_spec_l11Reach.code) none
noncomputable abbrev spec_l11Reach_l0_K (k m : Nat) : Ex → Fr → Option Res := blockK 0 (seqK (evC G_spec_l11Reach fi_spec_l11Reach (evF G_spec_l11Reach (k + 1)) m (sub [1, 1, 1, 1] fi_spec_l11Reach.code) none) (retK G_spec_l11Reach fi_spec_l11Reach))
theorem spec_l11Reach_l0_eq (k m : Nat) : ∀ (n : Nat) (c8 : Cell) (c9 : Cell) (c10 : Cell) (c11 : Cell) (H12 : List Entry), loopK (some [2, 5, 6]) (spec_l11Reach_l0_B k m) (spec_l11Reach_l0_K k m) n ⟨fT 39 0 [(2, .loc 2 0), (5, .av (.one (c8))), (6, .av (.one (c9)))], fX 39 0 [(2, [c10, c11])], H12⟩ = spec_l11Reach_l0 (k + 1) m n c8 c9 c10 c11 H12 := by
  intro n
  induction n with
  | zero => intros; rfl
  | succ n ih =>
    intros
    simp only [spec_l11Reach_l0, ← ih]
    kernel_rfl
theorem spec_l11Reach_code (k m : Nat) (c1 : Cell) (c2 : Cell) (s3 : ByteArray) : evC G_spec_l11Reach fi_spec_l11Reach (evF G_spec_l11Reach (k + 1)) m fi_spec_l11Reach.code none (retK G_spec_l11Reach fi_spec_l11Reach) (enter fi_spec_l11Reach [.agg [c1, c2], .one (Cell.str s3)] []) = spec_l11Reach (k + 1) m c1 c2 s3 := by
  simp only [spec_l11Reach, ← spec_l11Reach_l0_eq k m]
  kernel_rfl
theorem spec_l11Reach_eq (k : Nat) (c1 : Cell) (c2 : Cell) (s3 : ByteArray) : evF G_spec_l11Reach (k + 2) fid_spec_l11Reach [.agg [c1, c2], .one (Cell.str s3)] [] = spec_l11Reach (k + 1) (k + 1) c1 c2 s3 :=
  Eq.trans (by kernel_rfl) (spec_l11Reach_code k (k + 1) c1 c2 s3)
theorem run_spec_l11Reach_of {c1 : Cell} {c2 : Cell} {s3 : ByteArray} {r : Res} (k : Nat) (h : spec_l11Reach (k + 1) (k + 1) c1 c2 s3 = some r) : run_spec_l11Reach [.agg [c1, c2], .one (Cell.str s3)] [] = some r := lim_of ((spec_l11Reach_eq k c1 c2 s3).trans h)
noncomputable def pl_spec_UsedBy : List (Nat × Run) := [(fid_spec_Sorted, run_spec_Sorted), (fid_spec_l1Has, run_spec_l1Has)]
noncomputable def G_spec_UsedBy : Ctx := ctx tyTab fiTab pl_spec_UsedBy
noncomputable def run_spec_UsedBy : Run := lim G_spec_UsedBy fid_spec_UsedBy
theorem ok_spec_UsedBy : FnOk Try.prog OkT fid_spec_UsedBy run_spec_UsedBy := lim_ok (l := pl_spec_UsedBy) Try_mix tyTab_ok fiTab_ok okT (.cons ok_spec_Sorted (.cons ok_spec_l1Has .nil)) fid_spec_UsedBy
noncomputable def spec_UsedBy_l0 (k m : Nat) : Nat → Cell → ByteArray → Cell → Int → List Entry → Option Res
  | 0, _, _, _, _, _ => none
  | n + 1, c3, s4, c5, i6, H7 =>
    (lenC c3).bind fun n8 =>
    cond (decide (i6 < (n8 : Int)))
    ((idxA 4 (c3) i6).bind fun c9 =>
    (fldA c9 1).bind fun c10 =>
    (deref H7 (c10)).bind fun p11 =>
    (cC p11.1 p11.2).bind fun c12 =>
    (callS run_spec_l1Has [.one (c12), .one (Cell.str s4)] H7).bind fun r13 =>
    cond (shapeOk rk_spec_l1Has r13)
    ((cB (cellsAt r13 0) 0).bind fun b14 =>
    cond b14
    ((idxA 4 (c3) i6).bind fun c15 =>
    (fldA c15 0).bind fun c16 =>
    (deref H7 (c16)).bind fun p17 =>
    (cS p17.1 p17.2).bind fun s18 =>
    (app H7 1 16 (c5) [[Cell.str s18]]).bind fun p19 =>
    spec_UsedBy_l0 k m n (c3) s4 (p19.1) (IntKind.i64.wrap (i6 + 1)) p19.2)
    (spec_UsedBy_l0 k m n (c3) s4 (c5) (IntKind.i64.wrap (i6 + 1)) H7))
    none)
    ((callL run_spec_Sorted [.one (c5)] H7).bind fun r20 =>
    cond (shapeOk rk_spec_Sorted r20.1)
    ((cC (cellsAt r20.1 0) 0).bind fun c21 =>
    some ([.one (c21)], r20.2))
    none)
noncomputable def spec_UsedBy (k m : Nat) (c1 : Cell) (s2 : ByteArray) : Option Res :=
  spec_UsedBy_l0 k m m (c1) s2 (.lst true 1 []) 0 []
noncomputable abbrev spec_UsedBy_l0_B (k m : Nat) : (Ex → Fr → Option Res) → Fr → Option Res := evC G_spec_UsedBy fi_spec_UsedBy (evF G_spec_UsedBy (k + 1)) m (sub [1, 1, 0, 1, 2, 3] fi_spec_UsedBy.code) none
noncomputable abbrev spec_UsedBy_l0_K (k m : Nat) : Ex → Fr → Option Res := blockK 0 (seqK (evC G_spec_UsedBy fi_spec_UsedBy (evF G_spec_UsedBy (k + 1)) m (sub [1, 1, 1] fi_spec_UsedBy.code) none) (retK G_spec_UsedBy fi_spec_UsedBy))
theorem spec_UsedBy_l0_eq (k m : Nat) : ∀ (n : Nat) (c3 : Cell) (s4 : ByteArray) (c5 : Cell) (i6 : Int) (H7 : List Entry), loopK (some [0, 1, 5, 6]) (spec_UsedBy_l0_B k m) (spec_UsedBy_l0_K k m) n ⟨fT 31 0 [(0, .av (.one (c3))), (1, .av (.one (Cell.str s4))), (5, .av (.one (c5))), (6, .av (.one (Cell.int i6)))], fX 31 0 [], H7⟩ = spec_UsedBy_l0 (k + 1) m n c3 s4 c5 i6 H7 := by
  intro n
  induction n with
  | zero => intros; rfl
  | succ n ih =>
    intros
    simp only [spec_UsedBy_l0, ← ih]
    kernel_rfl
theorem spec_UsedBy_code (k m : Nat) (c1 : Cell) (s2 : ByteArray) : evC G_spec_UsedBy fi_spec_UsedBy (evF G_spec_UsedBy (k + 1)) m fi_spec_UsedBy.code none (retK G_spec_UsedBy fi_spec_UsedBy) (enter fi_spec_UsedBy [.one (c1), .one (Cell.str s2)] []) = spec_UsedBy (k + 1) m c1 s2 := by
  simp only [spec_UsedBy, ← spec_UsedBy_l0_eq k m]
  kernel_rfl
theorem spec_UsedBy_eq (k : Nat) (c1 : Cell) (s2 : ByteArray) : evF G_spec_UsedBy (k + 2) fid_spec_UsedBy [.one (c1), .one (Cell.str s2)] [] = spec_UsedBy (k + 1) (k + 1) c1 s2 :=
  Eq.trans (by kernel_rfl) (spec_UsedBy_code k (k + 1) c1 s2)
theorem run_spec_UsedBy_of {c1 : Cell} {s2 : ByteArray} {r : Res} (k : Nat) (h : spec_UsedBy (k + 1) (k + 1) c1 s2 = some r) : run_spec_UsedBy [.one (c1), .one (Cell.str s2)] [] = some r := lim_of ((spec_UsedBy_eq k c1 s2).trans h)
noncomputable def pl_spec_DeepUsedBy : List (Nat × Run) := [(fid_spec_l11Reach, run_spec_l11Reach), (fid_spec_UsedBy, run_spec_UsedBy), (fid_spec_l11At, run_spec_l11At)]
noncomputable def G_spec_DeepUsedBy : Ctx := ctx tyTab fiTab pl_spec_DeepUsedBy
noncomputable def run_spec_DeepUsedBy : Run := lim G_spec_DeepUsedBy fid_spec_DeepUsedBy
theorem ok_spec_DeepUsedBy : FnOk Try.prog OkT fid_spec_DeepUsedBy run_spec_DeepUsedBy := lim_ok (l := pl_spec_DeepUsedBy) Try_mix tyTab_ok fiTab_ok okT (.cons ok_spec_l11Reach (.cons ok_spec_UsedBy (.cons ok_spec_l11At .nil))) fid_spec_DeepUsedBy
noncomputable def spec_DeepUsedBy_l0 (k m : Nat) : Nat → Cell → ByteArray → Int → Cell → Cell → List Entry → Option Res
  | 0, _, _, _, _, _, _ => none
  | n + 1, c3, s4, i5, c6, c7, H8 =>
    (lenC c3).bind fun n9 =>
    cond (decide (i5 < (n9 : Int)))
    ((idxA 4 (c3) i5).bind fun c10 =>
    (fldA c10 0).bind fun c11 =>
    (deref H8 (c11)).bind fun p12 =>
    (cS p12.1 p12.2).bind fun s13 =>
    (app H8 1 16 (c6) [[Cell.str s13]]).bind fun p14 =>
    (idxA 4 (c3) i5).bind fun c15 =>
    (fldA c15 0).bind fun c16 =>
    (deref p14.2 (c16)).bind fun p17 =>
    (cS p17.1 p17.2).bind fun s18 =>
    (callL run_spec_UsedBy [.one (c3), .one (Cell.str s18)] []).bind fun r19 =>
    cond (shapeOk rk_spec_UsedBy r19.1)
    ((cC (cellsAt r19.1 0) 0).bind fun c20 =>
    emptyK r19.2
    (restK [c20] fun d21 =>
    (srcRows p14.2 1 (.lst true 1 (chunks 1 1 d21))).bind fun r22 =>
    (app p14.2 1 24 (c7) r22).bind fun p23 =>
    spec_DeepUsedBy_l0 k m n (c3) s4 (IntKind.i64.wrap (i5 + 1)) (p14.1) (p23.1) p23.2))
    none)
    ((callS run_spec_l11At [.agg [c6, c7], .one (Cell.str s4)] H8).bind fun r24 =>
    cond (shapeOk rk_spec_l11At r24)
    ((cI .i64 (cellsAt r24 0) 0).bind fun i25 =>
    cond (decide (i25 < 0))
    ((app H8 1 16 (c6) [[Cell.str s4]]).bind fun p26 =>
    (callL run_spec_UsedBy [.one (c3), .one (Cell.str s4)] []).bind fun r27 =>
    cond (shapeOk rk_spec_UsedBy r27.1)
    ((cC (cellsAt r27.1 0) 0).bind fun c28 =>
    emptyK r27.2
    (restK [c28] fun d29 =>
    (srcRows p26.2 1 (.lst true 1 (chunks 1 1 d29))).bind fun r30 =>
    (app p26.2 1 24 (c7) r30).bind fun p31 =>
    (callL run_spec_l11Reach [.agg [p26.1, p31.1], .one (Cell.str s4)] p31.2).bind fun r32 =>
    cond (shapeOk rk_spec_l11Reach r32.1)
    ((cC (cellsAt r32.1 0) 0).bind fun c33 =>
    some ([.one (c33)], r32.2))
    none))
    none)
    ((callL run_spec_l11Reach [.agg [c6, c7], .one (Cell.str s4)] H8).bind fun r34 =>
    cond (shapeOk rk_spec_l11Reach r34.1)
    ((cC (cellsAt r34.1 0) 0).bind fun c35 =>
    some ([.one (c35)], r34.2))
    none))
    none)
noncomputable def spec_DeepUsedBy (k m : Nat) (c1 : Cell) (s2 : ByteArray) : Option Res :=
  spec_DeepUsedBy_l0 k m m (c1) s2 0 (.lst true 1 []) (.lst true 1 []) []
noncomputable abbrev spec_DeepUsedBy_l0_B (k m : Nat) : (Ex → Fr → Option Res) → Fr → Option Res := evC G_spec_DeepUsedBy fi_spec_DeepUsedBy (evF G_spec_DeepUsedBy (k + 1)) m (sub [1, 1, 0, 1, 2, 3] fi_spec_DeepUsedBy.code) none
noncomputable abbrev spec_DeepUsedBy_l0_K (k m : Nat) : Ex → Fr → Option Res := blockK 0 (seqK (evC G_spec_DeepUsedBy fi_spec_DeepUsedBy (evF G_spec_DeepUsedBy (k + 1)) m (sub [1, 1, 1] fi_spec_DeepUsedBy.code) none) (retK G_spec_DeepUsedBy fi_spec_DeepUsedBy))
theorem spec_DeepUsedBy_l0_eq (k m : Nat) : ∀ (n : Nat) (c3 : Cell) (s4 : ByteArray) (i5 : Int) (c6 : Cell) (c7 : Cell) (H8 : List Entry), loopK (some [0, 1, 5, 6]) (spec_DeepUsedBy_l0_B k m) (spec_DeepUsedBy_l0_K k m) n ⟨fT 57 0 [(0, .av (.one (c3))), (1, .av (.one (Cell.str s4))), (5, .loc 5 0), (6, .av (.one (Cell.int i5)))], fX 57 0 [(5, [c6, c7])], H8⟩ = spec_DeepUsedBy_l0 (k + 1) m n c3 s4 i5 c6 c7 H8 := by
  intro n
  induction n with
  | zero => intros; rfl
  | succ n ih =>
    intros
    simp only [spec_DeepUsedBy_l0, ← ih]
    kernel_rfl
theorem spec_DeepUsedBy_code (k m : Nat) (c1 : Cell) (s2 : ByteArray) : evC G_spec_DeepUsedBy fi_spec_DeepUsedBy (evF G_spec_DeepUsedBy (k + 1)) m fi_spec_DeepUsedBy.code none (retK G_spec_DeepUsedBy fi_spec_DeepUsedBy) (enter fi_spec_DeepUsedBy [.one (c1), .one (Cell.str s2)] []) = spec_DeepUsedBy (k + 1) m c1 s2 := by
  simp only [spec_DeepUsedBy, ← spec_DeepUsedBy_l0_eq k m]
  kernel_rfl
theorem spec_DeepUsedBy_eq (k : Nat) (c1 : Cell) (s2 : ByteArray) : evF G_spec_DeepUsedBy (k + 2) fid_spec_DeepUsedBy [.one (c1), .one (Cell.str s2)] [] = spec_DeepUsedBy (k + 1) (k + 1) c1 s2 :=
  Eq.trans (by kernel_rfl) (spec_DeepUsedBy_code k (k + 1) c1 s2)
theorem run_spec_DeepUsedBy_of {c1 : Cell} {s2 : ByteArray} {r : Res} (k : Nat) (h : spec_DeepUsedBy (k + 1) (k + 1) c1 s2 = some r) : run_spec_DeepUsedBy [.one (c1), .one (Cell.str s2)] [] = some r := lim_of ((spec_DeepUsedBy_eq k c1 s2).trans h)
noncomputable def pl_slices_Index_string : List (Nat × Run) := []
noncomputable def G_slices_Index_string : Ctx := ctx tyTab fiTab pl_slices_Index_string
noncomputable def run_slices_Index_string : Run := lim G_slices_Index_string fid_slices_Index_string
theorem ok_slices_Index_string : FnOk Try.prog OkT fid_slices_Index_string run_slices_Index_string := lim_ok (l := pl_slices_Index_string) Try_mix tyTab_ok fiTab_ok okT .nil fid_slices_Index_string
noncomputable def slices_Index_string_l0 (k m : Nat) : Nat → Cell → ByteArray → Int → Int → Option Res
  | 0, _, _, _, _ => none
  | n + 1, c4, s5, i6, i7 =>
    cond (decide (i7 < i6))
    ((idxA 1 (c4) i7).bind fun c8 =>
    (deref [] (c8)).bind fun p9 =>
    (cS p9.1 p9.2).bind fun s10 =>
    cond (s5.toList == s10.toList)
    (some ([.one (Cell.int i7)], []))
    (slices_Index_string_l0 k m n (c4) s5 i6 (IntKind.i64.wrap (i7 + 1))))
    (some ([.one (Cell.int (-1))], []))
noncomputable def slices_Index_string (k m : Nat) (c1 : Cell) (s2 : ByteArray) : Option Res :=
  (lenC c1).bind fun n3 =>
  slices_Index_string_l0 k m m (c1) s2 (n3 : Int) 0
noncomputable abbrev slices_Index_string_l0_B (k m : Nat) : (Ex → Fr → Option Res) → Fr → Option Res := evC G_slices_Index_string fi_slices_Index_string (evF G_slices_Index_string (k + 1)) m (sub [1, 0, 1, 2, 3] fi_slices_Index_string.code) none
noncomputable abbrev slices_Index_string_l0_K (k m : Nat) : Ex → Fr → Option Res := blockK 0 (seqK (evC G_slices_Index_string fi_slices_Index_string (evF G_slices_Index_string (k + 1)) m (sub [1, 1] fi_slices_Index_string.code) none) (retK G_slices_Index_string fi_slices_Index_string))
theorem slices_Index_string_l0_eq (k m : Nat) : ∀ (n : Nat) (c4 : Cell) (s5 : ByteArray) (i6 : Int) (i7 : Int), loopK (some [0, 1, 7, 8]) (slices_Index_string_l0_B k m) (slices_Index_string_l0_K k m) n ⟨fT 19 0 [(0, .av (.one (c4))), (1, .av (.one (Cell.str s5))), (7, .av (.one (Cell.int i6))), (8, .av (.one (Cell.int i7)))], fX 19 0 [], []⟩ = slices_Index_string_l0 (k + 1) m n c4 s5 i6 i7 := by
  intro n
  induction n with
  | zero => intros; rfl
  | succ n ih =>
    intros
    simp only [slices_Index_string_l0, ← ih]
    kernel_rfl
theorem slices_Index_string_code (k m : Nat) (c1 : Cell) (s2 : ByteArray) : evC G_slices_Index_string fi_slices_Index_string (evF G_slices_Index_string (k + 1)) m fi_slices_Index_string.code none (retK G_slices_Index_string fi_slices_Index_string) (enter fi_slices_Index_string [.one (c1), .one (Cell.str s2)] []) = slices_Index_string (k + 1) m c1 s2 := by
  simp only [slices_Index_string, ← slices_Index_string_l0_eq k m]
  kernel_rfl
theorem slices_Index_string_eq (k : Nat) (c1 : Cell) (s2 : ByteArray) : evF G_slices_Index_string (k + 2) fid_slices_Index_string [.one (c1), .one (Cell.str s2)] [] = slices_Index_string (k + 1) (k + 1) c1 s2 :=
  Eq.trans (by kernel_rfl) (slices_Index_string_code k (k + 1) c1 s2)
theorem run_slices_Index_string_of {c1 : Cell} {s2 : ByteArray} {r : Res} (k : Nat) (h : slices_Index_string (k + 1) (k + 1) c1 s2 = some r) : run_slices_Index_string [.one (c1), .one (Cell.str s2)] [] = some r := lim_of ((slices_Index_string_eq k c1 s2).trans h)
noncomputable def pl_slices_Contains_string : List (Nat × Run) := [(fid_slices_Index_string, run_slices_Index_string)]
noncomputable def G_slices_Contains_string : Ctx := ctx tyTab fiTab pl_slices_Contains_string
noncomputable def run_slices_Contains_string : Run := lim G_slices_Contains_string fid_slices_Contains_string
theorem ok_slices_Contains_string : FnOk Try.prog OkT fid_slices_Contains_string run_slices_Contains_string := lim_ok (l := pl_slices_Contains_string) Try_mix tyTab_ok fiTab_ok okT (.cons ok_slices_Index_string .nil) fid_slices_Contains_string
noncomputable def slices_Contains_string (k m : Nat) (c1 : Cell) (s2 : ByteArray) : Option Res :=
  (callS run_slices_Index_string [.one (c1), .one (Cell.str s2)] []).bind fun r3 =>
  cond (shapeOk rk_slices_Index_string r3)
  ((cI .i64 (cellsAt r3 0) 0).bind fun i4 =>
  some ([.one (Cell.bool (decide (i4 ≥ 0)))], []))
  none
theorem slices_Contains_string_code (k m : Nat) (c1 : Cell) (s2 : ByteArray) : evC G_slices_Contains_string fi_slices_Contains_string (evF G_slices_Contains_string (k + 1)) m fi_slices_Contains_string.code none (retK G_slices_Contains_string fi_slices_Contains_string) (enter fi_slices_Contains_string [.one (c1), .one (Cell.str s2)] []) = slices_Contains_string (k + 1) m c1 s2 := by
  kernel_rfl
theorem slices_Contains_string_eq (k : Nat) (c1 : Cell) (s2 : ByteArray) : evF G_slices_Contains_string (k + 2) fid_slices_Contains_string [.one (c1), .one (Cell.str s2)] [] = slices_Contains_string (k + 1) (k + 1) c1 s2 :=
  Eq.trans (by kernel_rfl) (slices_Contains_string_code k (k + 1) c1 s2)
theorem run_slices_Contains_string_of {c1 : Cell} {s2 : ByteArray} {r : Res} (k : Nat) (h : slices_Contains_string (k + 1) (k + 1) c1 s2 = some r) : run_slices_Contains_string [.one (c1), .one (Cell.str s2)] [] = some r := lim_of ((slices_Contains_string_eq k c1 s2).trans h)
noncomputable def pl_impl_graph_by : List (Nat × Run) := [(fid_slices_Contains_string, run_slices_Contains_string)]
noncomputable def G_impl_graph_by : Ctx := ctx tyTab fiTab pl_impl_graph_by
noncomputable def run_impl_graph_by : Run := lim G_impl_graph_by fid_impl_graph_by
theorem ok_impl_graph_by : FnOk Try.prog OkT fid_impl_graph_by run_impl_graph_by := lim_ok (l := pl_impl_graph_by) Try_mix tyTab_ok fiTab_ok okT (.cons ok_slices_Contains_string .nil) fid_impl_graph_by
noncomputable def impl_graph_by_l0 (k m : Nat) : Nat → Cell → ByteArray → Cell → Cell → Int → Int → List Entry → Option Res
  | 0, _, _, _, _, _, _, _ => none
  | n + 1, c8, s9, c10, c11, i12, i13, H14 =>
    cond (decide (i13 < i12))
    ((idxA 1 (c11) i13).bind fun c15 =>
    (deref H14 (c15)).bind fun p16 =>
    (cC p16.1 p16.2).bind fun c17 =>
    (callS run_slices_Contains_string [.one (c17), .one (Cell.str s9)] H14).bind fun r18 =>
    cond (shapeOk rk_slices_Contains_string r18)
    ((cB (cellsAt r18 0) 0).bind fun b19 =>
    cond b19
    ((ptrC c8).bind fun c20 =>
    (fldA c20 0).bind fun c21 =>
    (deref H14 (c21)).bind fun p22 =>
    (cC p22.1 p22.2).bind fun c23 =>
    (idxA 1 (c23) i13).bind fun c24 =>
    (deref H14 (c24)).bind fun p25 =>
    (cS p25.1 p25.2).bind fun s26 =>
    (app H14 1 16 (c10) [[Cell.str s26]]).bind fun p27 =>
    impl_graph_by_l0 k m n (c8) s9 (p27.1) (c11) i12 (IntKind.i64.wrap (i13 + 1)) p27.2)
    (impl_graph_by_l0 k m n (c8) s9 (c10) (c11) i12 (IntKind.i64.wrap (i13 + 1)) H14))
    none)
    (some ([.one (c10)], H14))
noncomputable def impl_graph_by (k m : Nat) (c1 : Cell) (s2 : ByteArray) (H : List Entry) : Option Res :=
  (ptrC c1).bind fun c3 =>
  (fldA c3 1).bind fun c4 =>
  (deref H (c4)).bind fun p5 =>
  (cC p5.1 p5.2).bind fun c6 =>
  (lenC c6).bind fun n7 =>
  impl_graph_by_l0 k m m (c1) s2 (.lst true 1 []) (c6) (n7 : Int) 0 H
noncomputable abbrev impl_graph_by_l0_B (k m : Nat) : (Ex → Fr → Option Res) → Fr → Option Res := evC G_impl_graph_by fi_impl_graph_by (evF G_impl_graph_by (k + 1)) m (sub [1, 1, 0, 1, 2, 3] fi_impl_graph_by.code) none
noncomputable abbrev impl_graph_by_l0_K (k m : Nat) : Ex → Fr → Option Res := blockK 0 (seqK (evC G_impl_graph_by fi_impl_graph_by (evF G_impl_graph_by (k + 1)) m (sub [1, 1, 1] fi_impl_graph_by.code) none) (retK G_impl_graph_by fi_impl_graph_by))
theorem impl_graph_by_l0_eq (k m : Nat) : ∀ (n : Nat) (c8 : Cell) (s9 : ByteArray) (c10 : Cell) (c11 : Cell) (i12 : Int) (i13 : Int) (H14 : List Entry), loopK (some [0, 1, 5, 11, 12, 13]) (impl_graph_by_l0_B k m) (impl_graph_by_l0_K k m) n ⟨fT 33 0 [(0, .av (.one (c8))), (1, .av (.one (Cell.str s9))), (5, .av (.one (c10))), (11, .av (.one (c11))), (12, .av (.one (Cell.int i12))), (13, .av (.one (Cell.int i13)))], fX 33 0 [], H14⟩ = impl_graph_by_l0 (k + 1) m n c8 s9 c10 c11 i12 i13 H14 := by
  intro n
  induction n with
  | zero => intros; rfl
  | succ n ih =>
    intros
    simp only [impl_graph_by_l0, ← ih]
    kernel_rfl
theorem impl_graph_by_code (k m : Nat) (c1 : Cell) (s2 : ByteArray) (H : List Entry) : evC G_impl_graph_by fi_impl_graph_by (evF G_impl_graph_by (k + 1)) m fi_impl_graph_by.code none (retK G_impl_graph_by fi_impl_graph_by) (enter fi_impl_graph_by [.one (c1), .one (Cell.str s2)] H) = impl_graph_by (k + 1) m c1 s2 H := by
  simp only [impl_graph_by, ← impl_graph_by_l0_eq k m]
  kernel_rfl
theorem impl_graph_by_eq (k : Nat) (c1 : Cell) (s2 : ByteArray) (H : List Entry) : evF G_impl_graph_by (k + 2) fid_impl_graph_by [.one (c1), .one (Cell.str s2)] H = impl_graph_by (k + 1) (k + 1) c1 s2 H :=
  Eq.trans (by kernel_rfl) (impl_graph_by_code k (k + 1) c1 s2 H)
theorem run_impl_graph_by_of {c1 : Cell} {s2 : ByteArray} {H : List Entry} {r : Res} (k : Nat) (h : impl_graph_by (k + 1) (k + 1) c1 s2 H = some r) : run_impl_graph_by [.one (c1), .one (Cell.str s2)] H = some r := lim_of ((impl_graph_by_eq k c1 s2 H).trans h)
noncomputable def pl_slices_Clone_string : List (Nat × Run) := []
noncomputable def G_slices_Clone_string : Ctx := ctx tyTab fiTab pl_slices_Clone_string
noncomputable def run_slices_Clone_string : Run := lim G_slices_Clone_string fid_slices_Clone_string
theorem ok_slices_Clone_string : FnOk Try.prog OkT fid_slices_Clone_string run_slices_Clone_string := lim_ok (l := pl_slices_Clone_string) Try_mix tyTab_ok fiTab_ok okT .nil fid_slices_Clone_string
noncomputable def slices_Clone_string (k m : Nat) (c1 : Cell) : Option Res :=
  nilC (c1)
  (both
  (some ([.one (.lst true 1 [])], []))
  ((srcRows [] 1 c1).bind fun r2 =>
  (app [] 1 16 (.lst true 1 []) r2).bind fun p3 =>
  some ([.one (p3.1)], p3.2)))
  ((srcRows [] 1 c1).bind fun r4 =>
  (app [] 1 16 (.lst true 1 []) r4).bind fun p5 =>
  some ([.one (p5.1)], p5.2))
theorem slices_Clone_string_code (k m : Nat) (c1 : Cell) : evC G_slices_Clone_string fi_slices_Clone_string (evF G_slices_Clone_string (k + 1)) m fi_slices_Clone_string.code none (retK G_slices_Clone_string fi_slices_Clone_string) (enter fi_slices_Clone_string [.one (c1)] []) = slices_Clone_string (k + 1) m c1 := by
  kernel_rfl
theorem slices_Clone_string_eq (k : Nat) (c1 : Cell) : evF G_slices_Clone_string (k + 2) fid_slices_Clone_string [.one (c1)] [] = slices_Clone_string (k + 1) (k + 1) c1 :=
  Eq.trans (by kernel_rfl) (slices_Clone_string_code k (k + 1) c1)
theorem run_slices_Clone_string_of {c1 : Cell} {r : Res} (k : Nat) (h : slices_Clone_string (k + 1) (k + 1) c1 = some r) : run_slices_Clone_string [.one (c1)] [] = some r := lim_of ((slices_Clone_string_eq k c1).trans h)
noncomputable def pl_slices_Clip_string : List (Nat × Run) := []
noncomputable def G_slices_Clip_string : Ctx := ctx tyTab fiTab pl_slices_Clip_string
noncomputable def run_slices_Clip_string : Run := lim G_slices_Clip_string fid_slices_Clip_string
theorem ok_slices_Clip_string : FnOk Try.prog OkT fid_slices_Clip_string run_slices_Clip_string := lim_ok (l := pl_slices_Clip_string) Try_mix tyTab_ok fiTab_ok okT .nil fid_slices_Clip_string
noncomputable def slices_Clip_string (k m : Nat) (c1 : Cell) (H : List Entry) : Option Res :=
  (lenC c1).bind fun n2 =>
  (lenC c1).bind fun n3 =>
  (slcC 1 (c1) 0 (some (n2 : Int)) (some (n3 : Int))).bind fun c4 =>
  some ([.one (c4)], H)
theorem slices_Clip_string_code (k m : Nat) (c1 : Cell) (H : List Entry) : evC G_slices_Clip_string fi_slices_Clip_string (evF G_slices_Clip_string (k + 1)) m fi_slices_Clip_string.code none (retK G_slices_Clip_string fi_slices_Clip_string) (enter fi_slices_Clip_string [.one (c1)] H) = slices_Clip_string (k + 1) m c1 H := by
  kernel_rfl
theorem slices_Clip_string_eq (k : Nat) (c1 : Cell) (H : List Entry) : evF G_slices_Clip_string (k + 2) fid_slices_Clip_string [.one (c1)] H = slices_Clip_string (k + 1) (k + 1) c1 H :=
  Eq.trans (by kernel_rfl) (slices_Clip_string_code k (k + 1) c1 H)
theorem run_slices_Clip_string_of {c1 : Cell} {H : List Entry} {r : Res} (k : Nat) (h : slices_Clip_string (k + 1) (k + 1) c1 H = some r) : run_slices_Clip_string [.one (c1)] H = some r := lim_of ((slices_Clip_string_eq k c1 H).trans h)
noncomputable def pl_impl_Sorted : List (Nat × Run) := [(fid_slices_Clone_string, run_slices_Clone_string), (fid_slices_Sort_string, run_slices_Sort_string), (fid_slices_Clip_string, run_slices_Clip_string), (fid_slices_Compact_string, run_slices_Compact_string)]
noncomputable def G_impl_Sorted : Ctx := ctx tyTab fiTab pl_impl_Sorted
noncomputable def run_impl_Sorted : Run := lim G_impl_Sorted fid_impl_Sorted
theorem ok_impl_Sorted : FnOk Try.prog OkT fid_impl_Sorted run_impl_Sorted := lim_ok (l := pl_impl_Sorted) Try_mix tyTab_ok fiTab_ok okT (.cons ok_slices_Clone_string (.cons ok_slices_Sort_string (.cons ok_slices_Clip_string (.cons ok_slices_Compact_string .nil)))) fid_impl_Sorted
noncomputable def impl_Sorted (k m : Nat) (c1 : Cell) : Option Res :=
  (callF run_slices_Clone_string [.one (c1)] []).bind fun r2 =>
  cond (shapeOk rk_slices_Clone_string r2.1)
  ((cC (cellsAt r2.1 0) 0).bind fun c3 =>
  (run_slices_Sort_string [.one (c3)] r2.2).bind fun r4 =>
  cond (shapeOk rk_slices_Sort_string r4.1)
  ((run_slices_Compact_string [.one (c3)] r4.2).bind fun r5 =>
  cond (shapeOk rk_slices_Compact_string r5.1)
  ((cC (cellsAt r5.1 0) 0).bind fun c6 =>
  (run_slices_Clip_string [.one (c6)] r5.2).bind fun r7 =>
  cond (shapeOk rk_slices_Clip_string r7.1)
  ((cC (cellsAt r7.1 0) 0).bind fun c8 =>
  some ([.one (c8)], r7.2))
  none)
  none)
  none)
  none
theorem impl_Sorted_code (k m : Nat) (c1 : Cell) : evC G_impl_Sorted fi_impl_Sorted (evF G_impl_Sorted (k + 1)) m fi_impl_Sorted.code none (retK G_impl_Sorted fi_impl_Sorted) (enter fi_impl_Sorted [.one (c1)] []) = impl_Sorted (k + 1) m c1 := by
  kernel_rfl
theorem impl_Sorted_eq (k : Nat) (c1 : Cell) : evF G_impl_Sorted (k + 2) fid_impl_Sorted [.one (c1)] [] = impl_Sorted (k + 1) (k + 1) c1 :=
  Eq.trans (by kernel_rfl) (impl_Sorted_code k (k + 1) c1)
theorem run_impl_Sorted_of {c1 : Cell} {r : Res} (k : Nat) (h : impl_Sorted (k + 1) (k + 1) c1 = some r) : run_impl_Sorted [.one (c1)] [] = some r := lim_of ((impl_Sorted_eq k c1).trans h)
end Go.Ev
