/- What the evaluator says of the functions, each as a Lean function over cells. Printed by a program of this claim. Conditions: none. -/
import Derived.Test.YtkpiaalieeacgaaSh0
import Derived.KernelRfl
namespace Go.Ev
open Go Go.Proofs
set_option maxRecDepth 100000
set_option linter.unusedVariables false
set_option linter.unusedSimpArgs false
noncomputable def pl_laws_eqPackS : List (Nat × Run) := [(fid_laws_eqPack, run_laws_eqPack)]
noncomputable def G_laws_eqPackS : Ctx := ctx tyTab fiTab pl_laws_eqPackS
noncomputable def run_laws_eqPackS : Run := lim G_laws_eqPackS fid_laws_eqPackS
theorem ok_laws_eqPackS : FnOk Try.prog OkT fid_laws_eqPackS run_laws_eqPackS := lim_ok (l := pl_laws_eqPackS) Try_mix tyTab_ok fiTab_ok okT (.cons ok_laws_eqPack .nil) fid_laws_eqPackS
noncomputable def laws_eqPackS_l0 (k m : Nat) : Nat → Cell → Cell → Int → Option Res
  | 0, _, _, _ => none
  | n + 1, c5, c6, i7 =>
    (lenC c5).bind fun n8 =>
    cond (decide (i7 < (n8 : Int)))
    ((idxA 4 (c5) i7).bind fun c9 =>
    (deref [] (c9)).bind fun p10 =>
    (cS p10.1 p10.2).bind fun s11 =>
    (cC p10.1 (p10.2 + 1)).bind fun c12 =>
    (cC p10.1 ((p10.2 + 1) + 1)).bind fun c13 =>
    (cC p10.1 (((p10.2 + 1) + 1) + 1)).bind fun c14 =>
    (idxA 4 (c6) i7).bind fun c15 =>
    (deref [] (c15)).bind fun p16 =>
    (cS p16.1 p16.2).bind fun s17 =>
    (cC p16.1 (p16.2 + 1)).bind fun c18 =>
    (cC p16.1 ((p16.2 + 1) + 1)).bind fun c19 =>
    (cC p16.1 (((p16.2 + 1) + 1) + 1)).bind fun c20 =>
    (callS run_laws_eqPack [.agg [Cell.str s11, c12, c13, c14], .agg [Cell.str s17, c18, c19, c20]] []).bind fun r21 =>
    cond (shapeOk rk_laws_eqPack r21)
    ((cB (cellsAt r21 0) 0).bind fun b22 =>
    cond (!b22)
    (some ([.one (Cell.bool false)], []))
    (laws_eqPackS_l0 k m n (c5) (c6) (IntKind.i64.wrap (i7 + 1))))
    none)
    (some ([.one (Cell.bool true)], []))
noncomputable def laws_eqPackS (k m : Nat) (c1 : Cell) (c2 : Cell) : Option Res :=
  (lenC c1).bind fun n3 =>
  (lenC c2).bind fun n4 =>
  cond ((n3 : Int) != (n4 : Int))
  (some ([.one (Cell.bool false)], []))
  (laws_eqPackS_l0 k m m (c1) (c2) 0)
noncomputable abbrev laws_eqPackS_l0_B (k m : Nat) : (Ex → Fr → Option Res) → Fr → Option Res := evC G_laws_eqPackS fi_laws_eqPackS (evF G_laws_eqPackS (k + 1)) m (sub [1, 1, 0, 1, 2, 3] fi_laws_eqPackS.code) none
noncomputable abbrev laws_eqPackS_l0_K (k m : Nat) : Ex → Fr → Option Res := blockK 0 (seqK (evC G_laws_eqPackS fi_laws_eqPackS (evF G_laws_eqPackS (k + 1)) m (sub [1, 1, 1] fi_laws_eqPackS.code) none) (retK G_laws_eqPackS fi_laws_eqPackS))
theorem laws_eqPackS_l0_eq (k m : Nat) : ∀ (n : Nat) (c5 : Cell) (c6 : Cell) (i7 : Int), loopK (some [0, 1, 5]) (laws_eqPackS_l0_B k m) (laws_eqPackS_l0_K k m) n ⟨fT 27 0 [(0, .av (.one (c5))), (1, .av (.one (c6))), (5, .av (.one (Cell.int i7)))], fX 27 0 [], []⟩ = laws_eqPackS_l0 (k + 1) m n c5 c6 i7 := by
  intro n
  induction n with
  | zero => intros; rfl
  | succ n ih =>
    intros
    simp only [laws_eqPackS_l0, ← ih]
    kernel_rfl
theorem laws_eqPackS_code (k m : Nat) (c1 : Cell) (c2 : Cell) : evC G_laws_eqPackS fi_laws_eqPackS (evF G_laws_eqPackS (k + 1)) m fi_laws_eqPackS.code none (retK G_laws_eqPackS fi_laws_eqPackS) (enter fi_laws_eqPackS [.one (c1), .one (c2)] []) = laws_eqPackS (k + 1) m c1 c2 := by
  simp only [laws_eqPackS, ← laws_eqPackS_l0_eq k m]
  kernel_rfl
theorem laws_eqPackS_eq (k : Nat) (c1 : Cell) (c2 : Cell) : evF G_laws_eqPackS (k + 2) fid_laws_eqPackS [.one (c1), .one (c2)] [] = laws_eqPackS (k + 1) (k + 1) c1 c2 :=
  Eq.trans (by kernel_rfl) (laws_eqPackS_code k (k + 1) c1 c2)
theorem run_laws_eqPackS_of {c1 : Cell} {c2 : Cell} {r : Res} (k : Nat) (h : laws_eqPackS (k + 1) (k + 1) c1 c2 = some r) : run_laws_eqPackS [.one (c1), .one (c2)] [] = some r := lim_of ((laws_eqPackS_eq k c1 c2).trans h)
noncomputable def pl_laws_markText : List (Nat × Run) := []
noncomputable def G_laws_markText : Ctx := ctx tyTab fiTab pl_laws_markText
noncomputable def run_laws_markText : Run := lim G_laws_markText fid_laws_markText
theorem ok_laws_markText : FnOk Try.prog OkT fid_laws_markText run_laws_markText := lim_ok (l := pl_laws_markText) Try_mix tyTab_ok fiTab_ok okT .nil fid_laws_markText
noncomputable def laws_markText_l0 (k m : Nat) : Nat → Int → ByteArray → Option Res
  | 0, _, _ => none
  | n + 1, i2, s3 =>
    cond (decide (i2 > 0))
    ((bytesOf [] (.lst true 1 [[.sc (.int .u8 (IntKind.u8.wrap (IntKind.i64.wrap (48 + (i2.tmod 10)))))]])).bind fun s4 =>
    (catS s4 s3).bind fun s5 =>
    laws_markText_l0 k m n (IntKind.i64.wrap (i2.tdiv 10)) s5)
    ((catS (bs [109]) s3).bind fun s6 =>
    some ([.one (Cell.str s6)], []))
noncomputable def laws_markText (k m : Nat) (i1 : Int) : Option Res :=
  cond (decide (i1 ≤ 0))
  (some ([.one (Cell.str (bs [109, 48]))], []))
  (laws_markText_l0 k m m i1 (bs []))
noncomputable abbrev laws_markText_l0_B (k m : Nat) : (Ex → Fr → Option Res) → Fr → Option Res := evC G_laws_markText fi_laws_markText (evF G_laws_markText (k + 1)) m (sub [1, 1, 1, 0, 2, 3] fi_laws_markText.code) none
noncomputable abbrev laws_markText_l0_K (k m : Nat) : Ex → Fr → Option Res := blockK 0 (seqK (evC G_laws_markText fi_laws_markText (evF G_laws_markText (k + 1)) m (sub [1, 1, 1, 1] fi_laws_markText.code) none) (retK G_laws_markText fi_laws_markText))
theorem laws_markText_l0_eq (k m : Nat) : ∀ (n : Nat) (i2 : Int) (s3 : ByteArray), loopK (some [0, 3]) (laws_markText_l0_B k m) (laws_markText_l0_K k m) n ⟨fT 20 0 [(0, .av (.one (Cell.int i2))), (3, .av (.one (Cell.str s3)))], fX 20 0 [], []⟩ = laws_markText_l0 (k + 1) m n i2 s3 := by
  intro n
  induction n with
  | zero => intros; rfl
  | succ n ih =>
    intros
    simp only [laws_markText_l0, ← ih]
    kernel_rfl
theorem laws_markText_code (k m : Nat) (i1 : Int) : evC G_laws_markText fi_laws_markText (evF G_laws_markText (k + 1)) m fi_laws_markText.code none (retK G_laws_markText fi_laws_markText) (enter fi_laws_markText [.one (Cell.int i1)] []) = laws_markText (k + 1) m i1 := by
  simp only [laws_markText, ← laws_markText_l0_eq k m]
  kernel_rfl
theorem laws_markText_eq (k : Nat) (i1 : Int) : evF G_laws_markText (k + 2) fid_laws_markText [.one (Cell.int i1)] [] = laws_markText (k + 1) (k + 1) i1 :=
  Eq.trans (by kernel_rfl) (laws_markText_code k (k + 1) i1)
theorem run_laws_markText_of {i1 : Int} {r : Res} (k : Nat) (h : laws_markText (k + 1) (k + 1) i1 = some r) : run_laws_markText [.one (Cell.int i1)] [] = some r := lim_of ((laws_markText_eq k i1).trans h)
noncomputable def pl_laws_markStringS : List (Nat × Run) := [(fid_laws_markText, run_laws_markText)]
noncomputable def G_laws_markStringS : Ctx := ctx tyTab fiTab pl_laws_markStringS
noncomputable def run_laws_markStringS : Run := lim G_laws_markStringS fid_laws_markStringS
theorem ok_laws_markStringS : FnOk Try.prog OkT fid_laws_markStringS run_laws_markStringS := lim_ok (l := pl_laws_markStringS) Try_mix tyTab_ok fiTab_ok okT (.cons ok_laws_markText .nil) fid_laws_markStringS
noncomputable def laws_markStringS_l0 (k m : Nat) : Nat → Cell → Int → Int → List Entry → Option Res
  | 0, _, _, _, _ => none
  | n + 1, c3, i4, i5, H6 =>
    (lenC c3).bind fun n7 =>
    cond (decide (i5 < (n7 : Int)))
    ((callS run_laws_markText [.one (Cell.int i4)] H6).bind fun r8 =>
    cond (shapeOk rk_laws_markText r8)
    ((cS (cellsAt r8 0) 0).bind fun s9 =>
    (idxA 1 (c3) i5).bind fun c10 =>
    (hStore H6 (c10) [Cell.str s9]).bind fun h11 =>
    laws_markStringS_l0 k m n (c3) (IntKind.i64.wrap (i4 + 1)) (IntKind.i64.wrap (i5 + 1)) h11)
    none)
    (some ([.one (Cell.int i4)], H6))
noncomputable def laws_markStringS (k m : Nat) (c1 : Cell) (i2 : Int) (H : List Entry) : Option Res :=
  laws_markStringS_l0 k m m (c1) i2 0 H
noncomputable abbrev laws_markStringS_l0_B (k m : Nat) : (Ex → Fr → Option Res) → Fr → Option Res := evC G_laws_markStringS fi_laws_markStringS (evF G_laws_markStringS (k + 1)) m (sub [1, 0, 1, 2, 3] fi_laws_markStringS.code) none
noncomputable abbrev laws_markStringS_l0_K (k m : Nat) : Ex → Fr → Option Res := blockK 0 (seqK (evC G_laws_markStringS fi_laws_markStringS (evF G_laws_markStringS (k + 1)) m (sub [1, 1] fi_laws_markStringS.code) none) (retK G_laws_markStringS fi_laws_markStringS))
theorem laws_markStringS_l0_eq (k m : Nat) : ∀ (n : Nat) (c3 : Cell) (i4 : Int) (i5 : Int) (H6 : List Entry), loopK (some [0, 1, 5]) (laws_markStringS_l0_B k m) (laws_markStringS_l0_K k m) n ⟨fT 20 0 [(0, .av (.one (c3))), (1, .av (.one (Cell.int i4))), (5, .av (.one (Cell.int i5)))], fX 20 0 [], H6⟩ = laws_markStringS_l0 (k + 1) m n c3 i4 i5 H6 := by
  intro n
  induction n with
  | zero => intros; rfl
  | succ n ih =>
    intros
    simp only [laws_markStringS_l0, ← ih]
    kernel_rfl
theorem laws_markStringS_code (k m : Nat) (c1 : Cell) (i2 : Int) (H : List Entry) : evC G_laws_markStringS fi_laws_markStringS (evF G_laws_markStringS (k + 1)) m fi_laws_markStringS.code none (retK G_laws_markStringS fi_laws_markStringS) (enter fi_laws_markStringS [.one (c1), .one (Cell.int i2)] H) = laws_markStringS (k + 1) m c1 i2 H := by
  simp only [laws_markStringS, ← laws_markStringS_l0_eq k m]
  kernel_rfl
theorem laws_markStringS_eq (k : Nat) (c1 : Cell) (i2 : Int) (H : List Entry) : evF G_laws_markStringS (k + 2) fid_laws_markStringS [.one (c1), .one (Cell.int i2)] H = laws_markStringS (k + 1) (k + 1) c1 i2 H :=
  Eq.trans (by kernel_rfl) (laws_markStringS_code k (k + 1) c1 i2 H)
theorem run_laws_markStringS_of {c1 : Cell} {i2 : Int} {H : List Entry} {r : Res} (k : Nat) (h : laws_markStringS (k + 1) (k + 1) c1 i2 H = some r) : run_laws_markStringS [.one (c1), .one (Cell.int i2)] H = some r := lim_of ((laws_markStringS_eq k c1 i2 H).trans h)
noncomputable def pl_laws_markNeedS : List (Nat × Run) := [(fid_laws_markText, run_laws_markText)]
noncomputable def G_laws_markNeedS : Ctx := ctx tyTab fiTab pl_laws_markNeedS
noncomputable def run_laws_markNeedS : Run := lim G_laws_markNeedS fid_laws_markNeedS
theorem ok_laws_markNeedS : FnOk Try.prog OkT fid_laws_markNeedS run_laws_markNeedS := lim_ok (l := pl_laws_markNeedS) Try_mix tyTab_ok fiTab_ok okT (.cons ok_laws_markText .nil) fid_laws_markNeedS
noncomputable def laws_markNeedS_l0 (k m : Nat) : Nat → Cell → Int → Int → List Entry → Option Res
  | 0, _, _, _, _ => none
  | n + 1, c3, i4, i5, H6 =>
    (lenC c3).bind fun n7 =>
    cond (decide (i5 < (n7 : Int)))
    ((callS run_laws_markText [.one (Cell.int i4)] H6).bind fun r8 =>
    cond (shapeOk rk_laws_markText r8)
    ((cS (cellsAt r8 0) 0).bind fun s9 =>
    (idxA 2 (c3) i5).bind fun c10 =>
    (fldA c10 0).bind fun c11 =>
    (hStore H6 (c11) [Cell.str s9]).bind fun h12 =>
    (callS run_laws_markText [.one (Cell.int (IntKind.i64.wrap (i4 + 1)))] h12).bind fun r13 =>
    cond (shapeOk rk_laws_markText r13)
    ((cS (cellsAt r13 0) 0).bind fun s14 =>
    (idxA 2 (c3) i5).bind fun c15 =>
    (fldA c15 1).bind fun c16 =>
    (hStore h12 (c16) [Cell.str s14]).bind fun h17 =>
    laws_markNeedS_l0 k m n (c3) (IntKind.i64.wrap ((IntKind.i64.wrap (i4 + 1)) + 1)) (IntKind.i64.wrap (i5 + 1)) h17)
    none)
    none)
    (some ([.one (Cell.int i4)], H6))
noncomputable def laws_markNeedS (k m : Nat) (c1 : Cell) (i2 : Int) (H : List Entry) : Option Res :=
  laws_markNeedS_l0 k m m (c1) i2 0 H
noncomputable abbrev laws_markNeedS_l0_B (k m : Nat) : (Ex → Fr → Option Res) → Fr → Option Res := evC G_laws_markNeedS fi_laws_markNeedS (evF G_laws_markNeedS (k + 1)) m (sub [1, 0, 1, 2, 3] fi_laws_markNeedS.code) none
noncomputable abbrev laws_markNeedS_l0_K (k m : Nat) : Ex → Fr → Option Res := blockK 0 (seqK (evC G_laws_markNeedS fi_laws_markNeedS (evF G_laws_markNeedS (k + 1)) m (sub [1, 1] fi_laws_markNeedS.code) none) (retK G_laws_markNeedS fi_laws_markNeedS))
theorem laws_markNeedS_l0_eq (k m : Nat) : ∀ (n : Nat) (c3 : Cell) (i4 : Int) (i5 : Int) (H6 : List Entry), loopK (some [0, 1, 5]) (laws_markNeedS_l0_B k m) (laws_markNeedS_l0_K k m) n ⟨fT 29 0 [(0, .av (.one (c3))), (1, .av (.one (Cell.int i4))), (5, .av (.one (Cell.int i5)))], fX 29 0 [], H6⟩ = laws_markNeedS_l0 (k + 1) m n c3 i4 i5 H6 := by
  intro n
  induction n with
  | zero => intros; rfl
  | succ n ih =>
    intros
    simp only [laws_markNeedS_l0, ← ih]
    kernel_rfl
theorem laws_markNeedS_code (k m : Nat) (c1 : Cell) (i2 : Int) (H : List Entry) : evC G_laws_markNeedS fi_laws_markNeedS (evF G_laws_markNeedS (k + 1)) m fi_laws_markNeedS.code none (retK G_laws_markNeedS fi_laws_markNeedS) (enter fi_laws_markNeedS [.one (c1), .one (Cell.int i2)] H) = laws_markNeedS (k + 1) m c1 i2 H := by
  simp only [laws_markNeedS, ← laws_markNeedS_l0_eq k m]
  kernel_rfl
theorem laws_markNeedS_eq (k : Nat) (c1 : Cell) (i2 : Int) (H : List Entry) : evF G_laws_markNeedS (k + 2) fid_laws_markNeedS [.one (c1), .one (Cell.int i2)] H = laws_markNeedS (k + 1) (k + 1) c1 i2 H :=
  Eq.trans (by kernel_rfl) (laws_markNeedS_code k (k + 1) c1 i2 H)
theorem run_laws_markNeedS_of {c1 : Cell} {i2 : Int} {H : List Entry} {r : Res} (k : Nat) (h : laws_markNeedS (k + 1) (k + 1) c1 i2 H = some r) : run_laws_markNeedS [.one (c1), .one (Cell.int i2)] H = some r := lim_of ((laws_markNeedS_eq k c1 i2 H).trans h)
noncomputable def pl_laws_markCmdS : List (Nat × Run) := [(fid_laws_markStringS, run_laws_markStringS), (fid_laws_markText, run_laws_markText)]
noncomputable def G_laws_markCmdS : Ctx := ctx tyTab fiTab pl_laws_markCmdS
noncomputable def run_laws_markCmdS : Run := lim G_laws_markCmdS fid_laws_markCmdS
theorem ok_laws_markCmdS : FnOk Try.prog OkT fid_laws_markCmdS run_laws_markCmdS := lim_ok (l := pl_laws_markCmdS) Try_mix tyTab_ok fiTab_ok okT (.cons ok_laws_markStringS (.cons ok_laws_markText .nil)) fid_laws_markCmdS
noncomputable def laws_markCmdS_l0 (k m : Nat) : Nat → Cell → Int → Int → List Entry → Option Res
  | 0, _, _, _, _ => none
  | n + 1, c3, i4, i5, H6 =>
    (lenC c3).bind fun n7 =>
    cond (decide (i5 < (n7 : Int)))
    ((callS run_laws_markText [.one (Cell.int i4)] H6).bind fun r8 =>
    cond (shapeOk rk_laws_markText r8)
    ((cS (cellsAt r8 0) 0).bind fun s9 =>
    (idxA 2 (c3) i5).bind fun c10 =>
    (fldA c10 0).bind fun c11 =>
    (hStore H6 (c11) [Cell.str s9]).bind fun h12 =>
    (idxA 2 (c3) i5).bind fun c13 =>
    (fldA c13 1).bind fun c14 =>
    (deref h12 (c14)).bind fun p15 =>
    (cC p15.1 p15.2).bind fun c16 =>
    (run_laws_markStringS [.one (c16), .one (Cell.int (IntKind.i64.wrap (i4 + 1)))] h12).bind fun r17 =>
    cond (shapeOk rk_laws_markStringS r17.1)
    ((cI .i64 (cellsAt r17.1 0) 0).bind fun i18 =>
    laws_markCmdS_l0 k m n (c3) i18 (IntKind.i64.wrap (i5 + 1)) r17.2)
    none)
    none)
    (some ([.one (Cell.int i4)], H6))
noncomputable def laws_markCmdS (k m : Nat) (c1 : Cell) (i2 : Int) (H : List Entry) : Option Res :=
  laws_markCmdS_l0 k m m (c1) i2 0 H
noncomputable abbrev laws_markCmdS_l0_B (k m : Nat) : (Ex → Fr → Option Res) → Fr → Option Res := evC G_laws_markCmdS fi_laws_markCmdS (evF G_laws_markCmdS (k + 1)) m (sub [1, 0, 1, 2, 3] fi_laws_markCmdS.code) none
noncomputable abbrev laws_markCmdS_l0_K (k m : Nat) : Ex → Fr → Option Res := blockK 0 (seqK (evC G_laws_markCmdS fi_laws_markCmdS (evF G_laws_markCmdS (k + 1)) m (sub [1, 1] fi_laws_markCmdS.code) none) (retK G_laws_markCmdS fi_laws_markCmdS))
theorem laws_markCmdS_l0_eq (k m : Nat) : ∀ (n : Nat) (c3 : Cell) (i4 : Int) (i5 : Int) (H6 : List Entry), loopK (some [0, 1, 5]) (laws_markCmdS_l0_B k m) (laws_markCmdS_l0_K k m) n ⟨fT 28 0 [(0, .av (.one (c3))), (1, .av (.one (Cell.int i4))), (5, .av (.one (Cell.int i5)))], fX 28 0 [], H6⟩ = laws_markCmdS_l0 (k + 1) m n c3 i4 i5 H6 := by
  intro n
  induction n with
  | zero => intros; rfl
  | succ n ih =>
    intros
    simp only [laws_markCmdS_l0, ← ih]
    kernel_rfl
theorem laws_markCmdS_code (k m : Nat) (c1 : Cell) (i2 : Int) (H : List Entry) : evC G_laws_markCmdS fi_laws_markCmdS (evF G_laws_markCmdS (k + 1)) m fi_laws_markCmdS.code none (retK G_laws_markCmdS fi_laws_markCmdS) (enter fi_laws_markCmdS [.one (c1), .one (Cell.int i2)] H) = laws_markCmdS (k + 1) m c1 i2 H := by
  simp only [laws_markCmdS, ← laws_markCmdS_l0_eq k m]
  kernel_rfl
theorem laws_markCmdS_eq (k : Nat) (c1 : Cell) (i2 : Int) (H : List Entry) : evF G_laws_markCmdS (k + 2) fid_laws_markCmdS [.one (c1), .one (Cell.int i2)] H = laws_markCmdS (k + 1) (k + 1) c1 i2 H :=
  Eq.trans (by kernel_rfl) (laws_markCmdS_code k (k + 1) c1 i2 H)
theorem run_laws_markCmdS_of {c1 : Cell} {i2 : Int} {H : List Entry} {r : Res} (k : Nat) (h : laws_markCmdS (k + 1) (k + 1) c1 i2 H = some r) : run_laws_markCmdS [.one (c1), .one (Cell.int i2)] H = some r := lim_of ((laws_markCmdS_eq k c1 i2 H).trans h)
noncomputable def pl_laws_markPackS : List (Nat × Run) := [(fid_laws_markStringS, run_laws_markStringS), (fid_laws_markNeedS, run_laws_markNeedS), (fid_laws_markText, run_laws_markText), (fid_laws_markCmdS, run_laws_markCmdS)]
noncomputable def G_laws_markPackS : Ctx := ctx tyTab fiTab pl_laws_markPackS
noncomputable def run_laws_markPackS : Run := lim G_laws_markPackS fid_laws_markPackS
theorem ok_laws_markPackS : FnOk Try.prog OkT fid_laws_markPackS run_laws_markPackS := lim_ok (l := pl_laws_markPackS) Try_mix tyTab_ok fiTab_ok okT (.cons ok_laws_markStringS (.cons ok_laws_markNeedS (.cons ok_laws_markText (.cons ok_laws_markCmdS .nil)))) fid_laws_markPackS
noncomputable def laws_markPackS_l0 (k m : Nat) : Nat → Cell → Int → Int → List Entry → Option Res
  | 0, _, _, _, _ => none
  | n + 1, c3, i4, i5, H6 =>
    (lenC c3).bind fun n7 =>
    cond (decide (i5 < (n7 : Int)))
    ((callS run_laws_markText [.one (Cell.int i4)] H6).bind fun r8 =>
    cond (shapeOk rk_laws_markText r8)
    ((cS (cellsAt r8 0) 0).bind fun s9 =>
    (idxA 4 (c3) i5).bind fun c10 =>
    (fldA c10 0).bind fun c11 =>
    (hStore H6 (c11) [Cell.str s9]).bind fun h12 =>
    (idxA 4 (c3) i5).bind fun c13 =>
    (fldA c13 1).bind fun c14 =>
    (deref h12 (c14)).bind fun p15 =>
    (cC p15.1 p15.2).bind fun c16 =>
    (run_laws_markStringS [.one (c16), .one (Cell.int (IntKind.i64.wrap (i4 + 1)))] h12).bind fun r17 =>
    cond (shapeOk rk_laws_markStringS r17.1)
    ((cI .i64 (cellsAt r17.1 0) 0).bind fun i18 =>
    (idxA 4 (c3) i5).bind fun c19 =>
    (fldA c19 2).bind fun c20 =>
    (deref r17.2 (c20)).bind fun p21 =>
    (cC p21.1 p21.2).bind fun c22 =>
    (run_laws_markNeedS [.one (c22), .one (Cell.int i18)] r17.2).bind fun r23 =>
    cond (shapeOk rk_laws_markNeedS r23.1)
    ((cI .i64 (cellsAt r23.1 0) 0).bind fun i24 =>
    (idxA 4 (c3) i5).bind fun c25 =>
    (fldA c25 3).bind fun c26 =>
    (deref r23.2 (c26)).bind fun p27 =>
    (cC p27.1 p27.2).bind fun c28 =>
    (run_laws_markCmdS [.one (c28), .one (Cell.int i24)] r23.2).bind fun r29 =>
    cond (shapeOk rk_laws_markCmdS r29.1)
    ((cI .i64 (cellsAt r29.1 0) 0).bind fun i30 =>
    laws_markPackS_l0 k m n (c3) i30 (IntKind.i64.wrap (i5 + 1)) r29.2)
    none)
    none)
    none)
    none)
    (some ([.one (Cell.int i4)], H6))
noncomputable def laws_markPackS (k m : Nat) (c1 : Cell) (i2 : Int) (H : List Entry) : Option Res :=
  laws_markPackS_l0 k m m (c1) i2 0 H
noncomputable abbrev laws_markPackS_l0_B (k m : Nat) : (Ex → Fr → Option Res) → Fr → Option Res := evC G_laws_markPackS fi_laws_markPackS (evF G_laws_markPackS (k + 1)) m (sub [1, 0, 1, 2, 3] fi_laws_markPackS.code) none
noncomputable abbrev laws_markPackS_l0_K (k m : Nat) : Ex → Fr → Option Res := blockK 0 (seqK (evC G_laws_markPackS fi_laws_markPackS (evF G_laws_markPackS (k + 1)) m (sub [1, 1] fi_laws_markPackS.code) none) (retK G_laws_markPackS fi_laws_markPackS))
theorem laws_markPackS_l0_eq (k m : Nat) : ∀ (n : Nat) (c3 : Cell) (i4 : Int) (i5 : Int) (H6 : List Entry), loopK (some [0, 1, 5]) (laws_markPackS_l0_B k m) (laws_markPackS_l0_K k m) n ⟨fT 42 0 [(0, .av (.one (c3))), (1, .av (.one (Cell.int i4))), (5, .av (.one (Cell.int i5)))], fX 42 0 [], H6⟩ = laws_markPackS_l0 (k + 1) m n c3 i4 i5 H6 := by
  intro n
  induction n with
  | zero => intros; rfl
  | succ n ih =>
    intros
    simp only [laws_markPackS_l0, ← ih]
    kernel_rfl
theorem laws_markPackS_code (k m : Nat) (c1 : Cell) (i2 : Int) (H : List Entry) : evC G_laws_markPackS fi_laws_markPackS (evF G_laws_markPackS (k + 1)) m fi_laws_markPackS.code none (retK G_laws_markPackS fi_laws_markPackS) (enter fi_laws_markPackS [.one (c1), .one (Cell.int i2)] H) = laws_markPackS (k + 1) m c1 i2 H := by
  simp only [laws_markPackS, ← laws_markPackS_l0_eq k m]
  kernel_rfl
theorem laws_markPackS_eq (k : Nat) (c1 : Cell) (i2 : Int) (H : List Entry) : evF G_laws_markPackS (k + 2) fid_laws_markPackS [.one (c1), .one (Cell.int i2)] H = laws_markPackS (k + 1) (k + 1) c1 i2 H :=
  Eq.trans (by kernel_rfl) (laws_markPackS_code k (k + 1) c1 i2 H)
theorem run_laws_markPackS_of {c1 : Cell} {i2 : Int} {H : List Entry} {r : Res} (k : Nat) (h : laws_markPackS (k + 1) (k + 1) c1 i2 H = some r) : run_laws_markPackS [.one (c1), .one (Cell.int i2)] H = some r := lim_of ((laws_markPackS_eq k c1 i2 H).trans h)
noncomputable def pl_laws_heldNeedS : List (Nat × Run) := [(fid_laws_markText, run_laws_markText)]
noncomputable def G_laws_heldNeedS : Ctx := ctx tyTab fiTab pl_laws_heldNeedS
noncomputable def run_laws_heldNeedS : Run := lim G_laws_heldNeedS fid_laws_heldNeedS
theorem ok_laws_heldNeedS : FnOk Try.prog OkT fid_laws_heldNeedS run_laws_heldNeedS := lim_ok (l := pl_laws_heldNeedS) Try_mix tyTab_ok fiTab_ok okT (.cons ok_laws_markText .nil) fid_laws_heldNeedS
noncomputable def laws_heldNeedS_l0 (k m : Nat) : Nat → Cell → Int → Int → Option Res
  | 0, _, _, _ => none
  | n + 1, c3, i4, i5 =>
    (lenC c3).bind fun n6 =>
    cond (decide (i5 < (n6 : Int)))
    ((idxA 2 (c3) i5).bind fun c7 =>
    (fldA c7 0).bind fun c8 =>
    (deref [] (c8)).bind fun p9 =>
    (cS p9.1 p9.2).bind fun s10 =>
    (callS run_laws_markText [.one (Cell.int i4)] []).bind fun r11 =>
    cond (shapeOk rk_laws_markText r11)
    ((cS (cellsAt r11 0) 0).bind fun s12 =>
    cond (!(s10.toList == s12.toList))
    (some ([.one (Cell.int (-1))], []))
    ((idxA 2 (c3) i5).bind fun c13 =>
    (fldA c13 1).bind fun c14 =>
    (deref [] (c14)).bind fun p15 =>
    (cS p15.1 p15.2).bind fun s16 =>
    (callS run_laws_markText [.one (Cell.int (IntKind.i64.wrap (i4 + 1)))] []).bind fun r17 =>
    cond (shapeOk rk_laws_markText r17)
    ((cS (cellsAt r17 0) 0).bind fun s18 =>
    cond (!(s16.toList == s18.toList))
    (some ([.one (Cell.int (-1))], []))
    (laws_heldNeedS_l0 k m n (c3) (IntKind.i64.wrap ((IntKind.i64.wrap (i4 + 1)) + 1)) (IntKind.i64.wrap (i5 + 1))))
    none))
    none)
    (some ([.one (Cell.int i4)], []))
noncomputable def laws_heldNeedS (k m : Nat) (c1 : Cell) (i2 : Int) : Option Res :=
  laws_heldNeedS_l0 k m m (c1) i2 0
noncomputable abbrev laws_heldNeedS_l0_B (k m : Nat) : (Ex → Fr → Option Res) → Fr → Option Res := evC G_laws_heldNeedS fi_laws_heldNeedS (evF G_laws_heldNeedS (k + 1)) m (sub [1, 0, 1, 2, 3] fi_laws_heldNeedS.code) none
noncomputable abbrev laws_heldNeedS_l0_K (k m : Nat) : Ex → Fr → Option Res := blockK 0 (seqK (evC G_laws_heldNeedS fi_laws_heldNeedS (evF G_laws_heldNeedS (k + 1)) m (sub [1, 1] fi_laws_heldNeedS.code) none) (retK G_laws_heldNeedS fi_laws_heldNeedS))
theorem laws_heldNeedS_l0_eq (k m : Nat) : ∀ (n : Nat) (c3 : Cell) (i4 : Int) (i5 : Int), loopK (some [0, 1, 5]) (laws_heldNeedS_l0_B k m) (laws_heldNeedS_l0_K k m) n ⟨fT 33 0 [(0, .av (.one (c3))), (1, .av (.one (Cell.int i4))), (5, .av (.one (Cell.int i5)))], fX 33 0 [], []⟩ = laws_heldNeedS_l0 (k + 1) m n c3 i4 i5 := by
  intro n
  induction n with
  | zero => intros; rfl
  | succ n ih =>
    intros
    simp only [laws_heldNeedS_l0, ← ih]
    kernel_rfl
theorem laws_heldNeedS_code (k m : Nat) (c1 : Cell) (i2 : Int) : evC G_laws_heldNeedS fi_laws_heldNeedS (evF G_laws_heldNeedS (k + 1)) m fi_laws_heldNeedS.code none (retK G_laws_heldNeedS fi_laws_heldNeedS) (enter fi_laws_heldNeedS [.one (c1), .one (Cell.int i2)] []) = laws_heldNeedS (k + 1) m c1 i2 := by
  simp only [laws_heldNeedS, ← laws_heldNeedS_l0_eq k m]
  kernel_rfl
theorem laws_heldNeedS_eq (k : Nat) (c1 : Cell) (i2 : Int) : evF G_laws_heldNeedS (k + 2) fid_laws_heldNeedS [.one (c1), .one (Cell.int i2)] [] = laws_heldNeedS (k + 1) (k + 1) c1 i2 :=
  Eq.trans (by kernel_rfl) (laws_heldNeedS_code k (k + 1) c1 i2)
theorem run_laws_heldNeedS_of {c1 : Cell} {i2 : Int} {r : Res} (k : Nat) (h : laws_heldNeedS (k + 1) (k + 1) c1 i2 = some r) : run_laws_heldNeedS [.one (c1), .one (Cell.int i2)] [] = some r := lim_of ((laws_heldNeedS_eq k c1 i2).trans h)
noncomputable def pl_laws_FnExactWanted : List (Nat × Run) := [(fid_laws_szPackS, run_laws_szPackS), (fid_spec_Wanted, run_spec_Wanted), (fid_laws_toPackS, run_laws_toPackS), (fid_impl_Wanted, run_impl_Wanted), (fid_laws_eqNeedS, run_laws_eqNeedS), (fid_laws_eqPackS, run_laws_eqPackS), (fid_laws_markPackS, run_laws_markPackS), (fid_laws_markNeedS, run_laws_markNeedS), (fid_laws_heldNeedS, run_laws_heldNeedS)]
noncomputable def G_laws_FnExactWanted : Ctx := ctx tyTab fiTab pl_laws_FnExactWanted
noncomputable def run_laws_FnExactWanted : Run := lim G_laws_FnExactWanted fid_laws_FnExactWanted
theorem ok_laws_FnExactWanted : FnOk Try.prog OkT fid_laws_FnExactWanted run_laws_FnExactWanted := lim_ok (l := pl_laws_FnExactWanted) Try_mix tyTab_ok fiTab_ok okT (.cons ok_laws_szPackS (.cons ok_spec_Wanted (.cons ok_laws_toPackS (.cons ok_impl_Wanted (.cons ok_laws_eqNeedS (.cons ok_laws_eqPackS (.cons ok_laws_markPackS (.cons ok_laws_markNeedS (.cons ok_laws_heldNeedS .nil))))))))) fid_laws_FnExactWanted
noncomputable def laws_FnExactWanted (k m : Nat) (c1 : Cell) : Option Res :=
  (callS run_laws_szPackS [.one (c1), .one (Cell.int 1048576)] []).bind fun r2 =>
  cond (shapeOk rk_laws_szPackS r2)
  ((cI .i64 (cellsAt r2 0) 0).bind fun i3 =>
  cond (decide (i3 < 0))
  (some ([.one (Cell.bool true)], []))
  ((callF run_laws_toPackS [.one (c1)] []).bind fun r4 =>
  cond (shapeOk rk_laws_toPackS r4.1)
  ((cC (cellsAt r4.1 0) 0).bind fun c5 =>
  (callL run_spec_Wanted [.one (c5)] r4.2).bind fun r6 =>
  cond (shapeOk rk_spec_Wanted r6.1)
  ((cC (cellsAt r6.1 0) 0).bind fun c7 =>
  (callF run_laws_toPackS [.one (c1)] r6.2).bind fun r8 =>
  cond (shapeOk rk_laws_toPackS r8.1)
  ((cC (cellsAt r8.1 0) 0).bind fun c9 =>
  (callF run_impl_Wanted [.one (c9)] r8.2).bind fun r10 =>
  cond (shapeOk rk_impl_Wanted r10.1)
  ((cC (cellsAt r10.1 0) 0).bind fun c11 =>
  (callS run_laws_eqNeedS [.one (c11), .one (c7)] r10.2).bind fun r12 =>
  cond (shapeOk rk_laws_eqNeedS r12)
  ((cB (cellsAt r12 0) 0).bind fun b13 =>
  cond (!b13)
  (some ([.one (Cell.bool false)], r10.2))
  ((callF run_laws_toPackS [.one (c1)] r10.2).bind fun r14 =>
  cond (shapeOk rk_laws_toPackS r14.1)
  ((cC (cellsAt r14.1 0) 0).bind fun c15 =>
  (callS run_laws_eqPackS [.one (c9), .one (c15)] r14.2).bind fun r16 =>
  cond (shapeOk rk_laws_eqPackS r16)
  ((cB (cellsAt r16 0) 0).bind fun b17 =>
  cond (!b17)
  (some ([.one (Cell.bool false)], r14.2))
  ((run_laws_markPackS [.one (c9), .one (Cell.int 1)] r14.2).bind fun r18 =>
  cond (shapeOk rk_laws_markPackS r18.1)
  ((cI .i64 (cellsAt r18.1 0) 0).bind fun i19 =>
  cond (decide (i19 < 0))
  (some ([.one (Cell.bool false)], r18.2))
  ((callS run_laws_eqNeedS [.one (c11), .one (c7)] r18.2).bind fun r20 =>
  cond (shapeOk rk_laws_eqNeedS r20)
  ((cB (cellsAt r20 0) 0).bind fun b21 =>
  cond (!b21)
  (some ([.one (Cell.bool false)], r18.2))
  ((run_laws_markNeedS [.one (c11), .one (Cell.int 1)] r18.2).bind fun r22 =>
  cond (shapeOk rk_laws_markNeedS r22.1)
  ((cI .i64 (cellsAt r22.1 0) 0).bind fun i23 =>
  (callS run_laws_heldNeedS [.one (c11), .one (Cell.int 1)] r22.2).bind fun r24 =>
  cond (shapeOk rk_laws_heldNeedS r24)
  ((cI .i64 (cellsAt r24 0) 0).bind fun i25 =>
  cond (decide (i25 < 0))
  (some ([.one (Cell.bool false)], r22.2))
  (cond (i25 != i23)
  (some ([.one (Cell.bool false)], r22.2))
  ((callF run_laws_toPackS [.one (c1)] r22.2).bind fun r26 =>
  cond (shapeOk rk_laws_toPackS r26.1)
  ((cC (cellsAt r26.1 0) 0).bind fun c27 =>
  (callF run_impl_Wanted [.one (c27)] r26.2).bind fun r28 =>
  cond (shapeOk rk_impl_Wanted r28.1)
  ((cC (cellsAt r28.1 0) 0).bind fun c29 =>
  (callS run_laws_eqNeedS [.one (c29), .one (c7)] r28.2).bind fun r30 =>
  cond (shapeOk rk_laws_eqNeedS r30)
  ((cB (cellsAt r30 0) 0).bind fun b31 =>
  cond (!b31)
  (some ([.one (Cell.bool false)], r28.2))
  ((callS run_laws_heldNeedS [.one (c11), .one (Cell.int 1)] r28.2).bind fun r32 =>
  cond (shapeOk rk_laws_heldNeedS r32)
  ((cI .i64 (cellsAt r32 0) 0).bind fun i33 =>
  cond (decide (i33 < 0))
  (some ([.one (Cell.bool false)], r28.2))
  (cond (i33 != i23)
  (some ([.one (Cell.bool false)], r28.2))
  (some ([.one (Cell.bool true)], r28.2))))
  none))
  none)
  none)
  none)))
  none)
  none))
  none))
  none))
  none)
  none))
  none)
  none)
  none)
  none)
  none))
  none
theorem laws_FnExactWanted_code (k m : Nat) (c1 : Cell) : evC G_laws_FnExactWanted fi_laws_FnExactWanted (evF G_laws_FnExactWanted (k + 1)) m fi_laws_FnExactWanted.code none (retK G_laws_FnExactWanted fi_laws_FnExactWanted) (enter fi_laws_FnExactWanted [.one (c1)] []) = laws_FnExactWanted (k + 1) m c1 := by
  kernel_rfl
theorem laws_FnExactWanted_eq (k : Nat) (c1 : Cell) : evF G_laws_FnExactWanted (k + 2) fid_laws_FnExactWanted [.one (c1)] [] = laws_FnExactWanted (k + 1) (k + 1) c1 :=
  Eq.trans (by kernel_rfl) (laws_FnExactWanted_code k (k + 1) c1)
theorem run_laws_FnExactWanted_of {c1 : Cell} {r : Res} (k : Nat) (h : laws_FnExactWanted (k + 1) (k + 1) c1 = some r) : run_laws_FnExactWanted [.one (c1)] [] = some r := lim_of ((laws_FnExactWanted_eq k c1).trans h)
end Go.Ev
