/- What the evaluator says of the functions, each as a Lean function over cells. Printed by a program of this claim. Conditions: none. -/
import Derived.Test.YtiocamjonchabaaDoorEvPr
import Derived.KernelRfl
namespace Go.Ev
open Go Go.Proofs
set_option maxRecDepth 100000
set_option linter.unusedVariables false
set_option linter.unusedSimpArgs false
noncomputable def pl_laws_szStringS : List (Nat × Run) := []
noncomputable def G_laws_szStringS : Ctx := ctx tyTab fiTab pl_laws_szStringS
noncomputable def run_laws_szStringS : Run := lim G_laws_szStringS fid_laws_szStringS
theorem ok_laws_szStringS : FnOk Tryd.prog OkT fid_laws_szStringS run_laws_szStringS := lim_ok (l := pl_laws_szStringS) Tryd_mix tyTab_ok fiTab_ok okT .nil fid_laws_szStringS
noncomputable def laws_szStringS_l0 (k m : Nat) : Nat → Cell → Int → Int → Option Res
  | 0, _, _, _ => none
  | n + 1, c4, i5, i6 =>
    (lenC c4).bind fun n7 =>
    cond (decide (i6 < (n7 : Int)))
    ((idxA 1 (c4) i6).bind fun c8 =>
    (deref [] (c8)).bind fun p9 =>
    (cS p9.1 p9.2).bind fun s10 =>
    cond (decide ((IntKind.i64.wrap (i5 - (s10.size : Int))) < 0))
    (some ([.one (Cell.int (-1))], []))
    (laws_szStringS_l0 k m n (c4) (IntKind.i64.wrap (i5 - (s10.size : Int))) (IntKind.i64.wrap (i6 + 1))))
    (some ([.one (Cell.int i5)], []))
noncomputable def laws_szStringS (k m : Nat) (c1 : Cell) (i2 : Int) : Option Res :=
  (lenC c1).bind fun n3 =>
  cond (decide ((IntKind.i64.wrap (i2 - (n3 : Int))) < 0))
  (some ([.one (Cell.int (-1))], []))
  (laws_szStringS_l0 k m m (c1) (IntKind.i64.wrap (i2 - (n3 : Int))) 0)
noncomputable abbrev laws_szStringS_l0_B (k m : Nat) : (Ex → Fr → Option Res) → Fr → Option Res := evC G_laws_szStringS fi_laws_szStringS (evF G_laws_szStringS (k + 1)) m (sub [1, 1, 1, 0, 1, 2, 3] fi_laws_szStringS.code) none
noncomputable abbrev laws_szStringS_l0_K (k m : Nat) : Ex → Fr → Option Res := blockK 0 (seqK (evC G_laws_szStringS fi_laws_szStringS (evF G_laws_szStringS (k + 1)) m (sub [1, 1, 1, 1] fi_laws_szStringS.code) none) (retK G_laws_szStringS fi_laws_szStringS))
theorem laws_szStringS_l0_eq (k m : Nat) : ∀ (n : Nat) (c4 : Cell) (i5 : Int) (i6 : Int), loopK (some [0, 1, 5]) (laws_szStringS_l0_B k m) (laws_szStringS_l0_K k m) n ⟨fT 28 0 [(0, .av (.one (c4))), (1, .av (.one (Cell.int i5))), (5, .av (.one (Cell.int i6)))], fX 28 0 [], []⟩ = laws_szStringS_l0 (k + 1) m n c4 i5 i6 := by
  intro n
  induction n with
  | zero => intros; rfl
  | succ n ih =>
    intros
    simp only [laws_szStringS_l0, ← ih]
    kernel_rfl
theorem laws_szStringS_code (k m : Nat) (c1 : Cell) (i2 : Int) : evC G_laws_szStringS fi_laws_szStringS (evF G_laws_szStringS (k + 1)) m fi_laws_szStringS.code none (retK G_laws_szStringS fi_laws_szStringS) (enter fi_laws_szStringS [.one (c1), .one (Cell.int i2)] []) = laws_szStringS (k + 1) m c1 i2 := by
  simp only [laws_szStringS, ← laws_szStringS_l0_eq k m]
  kernel_rfl
theorem laws_szStringS_eq (k : Nat) (c1 : Cell) (i2 : Int) : evF G_laws_szStringS (k + 2) fid_laws_szStringS [.one (c1), .one (Cell.int i2)] [] = laws_szStringS (k + 1) (k + 1) c1 i2 :=
  Eq.trans (by kernel_rfl) (laws_szStringS_code k (k + 1) c1 i2)
theorem run_laws_szStringS_of {c1 : Cell} {i2 : Int} {r : Res} (k : Nat) (h : laws_szStringS (k + 1) (k + 1) c1 i2 = some r) : run_laws_szStringS [.one (c1), .one (Cell.int i2)] [] = some r := lim_of ((laws_szStringS_eq k c1 i2).trans h)
noncomputable def pl_laws_szRule : List (Nat × Run) := [(fid_laws_szStringS, run_laws_szStringS)]
noncomputable def G_laws_szRule : Ctx := ctx tyTab fiTab pl_laws_szRule
noncomputable def run_laws_szRule : Run := lim G_laws_szRule fid_laws_szRule
theorem ok_laws_szRule : FnOk Tryd.prog OkT fid_laws_szRule run_laws_szRule := lim_ok (l := pl_laws_szRule) Tryd_mix tyTab_ok fiTab_ok okT (.cons ok_laws_szStringS .nil) fid_laws_szRule
noncomputable def laws_szRule (k m : Nat) (s1 : ByteArray) (c2 : Cell) (c3 : Cell) (c4 : Cell) (b5 : Bool) (i6 : Int) : Option Res :=
  cond (decide ((IntKind.i64.wrap (i6 - (s1.size : Int))) < 0))
  (some ([.one (Cell.int (-1))], []))
  ((callS run_laws_szStringS [.one (c2), .one (Cell.int (IntKind.i64.wrap (i6 - (s1.size : Int))))] []).bind fun r7 =>
  cond (shapeOk rk_laws_szStringS r7)
  ((cI .i64 (cellsAt r7 0) 0).bind fun i8 =>
  cond (decide (i8 < 0))
  (some ([.one (Cell.int (-1))], []))
  ((callS run_laws_szStringS [.one (c3), .one (Cell.int i8)] []).bind fun r9 =>
  cond (shapeOk rk_laws_szStringS r9)
  ((cI .i64 (cellsAt r9 0) 0).bind fun i10 =>
  cond (decide (i10 < 0))
  (some ([.one (Cell.int (-1))], []))
  ((callS run_laws_szStringS [.one (c4), .one (Cell.int i10)] []).bind fun r11 =>
  cond (shapeOk rk_laws_szStringS r11)
  ((cI .i64 (cellsAt r11 0) 0).bind fun i12 =>
  cond (decide (i12 < 0))
  (some ([.one (Cell.int (-1))], []))
  (some ([.one (Cell.int i12)], [])))
  none))
  none))
  none)
theorem laws_szRule_code (k m : Nat) (s1 : ByteArray) (c2 : Cell) (c3 : Cell) (c4 : Cell) (b5 : Bool) (i6 : Int) : evC G_laws_szRule fi_laws_szRule (evF G_laws_szRule (k + 1)) m fi_laws_szRule.code none (retK G_laws_szRule fi_laws_szRule) (enter fi_laws_szRule [.agg [Cell.str s1, c2, c3, c4, Cell.bool b5], .one (Cell.int i6)] []) = laws_szRule (k + 1) m s1 c2 c3 c4 b5 i6 := by
  kernel_rfl
theorem laws_szRule_eq (k : Nat) (s1 : ByteArray) (c2 : Cell) (c3 : Cell) (c4 : Cell) (b5 : Bool) (i6 : Int) : evF G_laws_szRule (k + 2) fid_laws_szRule [.agg [Cell.str s1, c2, c3, c4, Cell.bool b5], .one (Cell.int i6)] [] = laws_szRule (k + 1) (k + 1) s1 c2 c3 c4 b5 i6 :=
  Eq.trans (by kernel_rfl) (laws_szRule_code k (k + 1) s1 c2 c3 c4 b5 i6)
theorem run_laws_szRule_of {s1 : ByteArray} {c2 : Cell} {c3 : Cell} {c4 : Cell} {b5 : Bool} {i6 : Int} {r : Res} (k : Nat) (h : laws_szRule (k + 1) (k + 1) s1 c2 c3 c4 b5 i6 = some r) : run_laws_szRule [.agg [Cell.str s1, c2, c3, c4, Cell.bool b5], .one (Cell.int i6)] [] = some r := lim_of ((laws_szRule_eq k s1 c2 c3 c4 b5 i6).trans h)
noncomputable def pl_laws_szRuleS : List (Nat × Run) := [(fid_laws_szRule, run_laws_szRule)]
noncomputable def G_laws_szRuleS : Ctx := ctx tyTab fiTab pl_laws_szRuleS
noncomputable def run_laws_szRuleS : Run := lim G_laws_szRuleS fid_laws_szRuleS
theorem ok_laws_szRuleS : FnOk Tryd.prog OkT fid_laws_szRuleS run_laws_szRuleS := lim_ok (l := pl_laws_szRuleS) Tryd_mix tyTab_ok fiTab_ok okT (.cons ok_laws_szRule .nil) fid_laws_szRuleS
noncomputable def laws_szRuleS_l0 (k m : Nat) : Nat → Cell → Int → Int → Option Res
  | 0, _, _, _ => none
  | n + 1, c4, i5, i6 =>
    (lenC c4).bind fun n7 =>
    cond (decide (i6 < (n7 : Int)))
    ((idxA 5 (c4) i6).bind fun c8 =>
    (deref [] (c8)).bind fun p9 =>
    (cS p9.1 p9.2).bind fun s10 =>
    (cC p9.1 (p9.2 + 1)).bind fun c11 =>
    (cC p9.1 ((p9.2 + 1) + 1)).bind fun c12 =>
    (cC p9.1 (((p9.2 + 1) + 1) + 1)).bind fun c13 =>
    (cB p9.1 ((((p9.2 + 1) + 1) + 1) + 1)).bind fun b14 =>
    (callS run_laws_szRule [.agg [Cell.str s10, c11, c12, c13, Cell.bool b14], .one (Cell.int i5)] []).bind fun r15 =>
    cond (shapeOk rk_laws_szRule r15)
    ((cI .i64 (cellsAt r15 0) 0).bind fun i16 =>
    cond (decide (i16 < 0))
    (some ([.one (Cell.int (-1))], []))
    (laws_szRuleS_l0 k m n (c4) i16 (IntKind.i64.wrap (i6 + 1))))
    none)
    (some ([.one (Cell.int i5)], []))
noncomputable def laws_szRuleS (k m : Nat) (c1 : Cell) (i2 : Int) : Option Res :=
  (lenC c1).bind fun n3 =>
  cond (decide ((IntKind.i64.wrap (i2 - (n3 : Int))) < 0))
  (some ([.one (Cell.int (-1))], []))
  (laws_szRuleS_l0 k m m (c1) (IntKind.i64.wrap (i2 - (n3 : Int))) 0)
noncomputable abbrev laws_szRuleS_l0_B (k m : Nat) : (Ex → Fr → Option Res) → Fr → Option Res := evC G_laws_szRuleS fi_laws_szRuleS (evF G_laws_szRuleS (k + 1)) m (sub [1, 1, 1, 0, 1, 2, 3] fi_laws_szRuleS.code) none
noncomputable abbrev laws_szRuleS_l0_K (k m : Nat) : Ex → Fr → Option Res := blockK 0 (seqK (evC G_laws_szRuleS fi_laws_szRuleS (evF G_laws_szRuleS (k + 1)) m (sub [1, 1, 1, 1] fi_laws_szRuleS.code) none) (retK G_laws_szRuleS fi_laws_szRuleS))
theorem laws_szRuleS_l0_eq (k m : Nat) : ∀ (n : Nat) (c4 : Cell) (i5 : Int) (i6 : Int), loopK (some [0, 1, 5]) (laws_szRuleS_l0_B k m) (laws_szRuleS_l0_K k m) n ⟨fT 27 0 [(0, .av (.one (c4))), (1, .av (.one (Cell.int i5))), (5, .av (.one (Cell.int i6)))], fX 27 0 [], []⟩ = laws_szRuleS_l0 (k + 1) m n c4 i5 i6 := by
  intro n
  induction n with
  | zero => intros; rfl
  | succ n ih =>
    intros
    simp only [laws_szRuleS_l0, ← ih]
    kernel_rfl
theorem laws_szRuleS_code (k m : Nat) (c1 : Cell) (i2 : Int) : evC G_laws_szRuleS fi_laws_szRuleS (evF G_laws_szRuleS (k + 1)) m fi_laws_szRuleS.code none (retK G_laws_szRuleS fi_laws_szRuleS) (enter fi_laws_szRuleS [.one (c1), .one (Cell.int i2)] []) = laws_szRuleS (k + 1) m c1 i2 := by
  simp only [laws_szRuleS, ← laws_szRuleS_l0_eq k m]
  kernel_rfl
theorem laws_szRuleS_eq (k : Nat) (c1 : Cell) (i2 : Int) : evF G_laws_szRuleS (k + 2) fid_laws_szRuleS [.one (c1), .one (Cell.int i2)] [] = laws_szRuleS (k + 1) (k + 1) c1 i2 :=
  Eq.trans (by kernel_rfl) (laws_szRuleS_code k (k + 1) c1 i2)
theorem run_laws_szRuleS_of {c1 : Cell} {i2 : Int} {r : Res} (k : Nat) (h : laws_szRuleS (k + 1) (k + 1) c1 i2 = some r) : run_laws_szRuleS [.one (c1), .one (Cell.int i2)] [] = some r := lim_of ((laws_szRuleS_eq k c1 i2).trans h)
noncomputable def pl_spec_l1In : List (Nat × Run) := []
noncomputable def G_spec_l1In : Ctx := ctx tyTab fiTab pl_spec_l1In
noncomputable def run_spec_l1In : Run := lim G_spec_l1In fid_spec_l1In
theorem ok_spec_l1In : FnOk Tryd.prog OkT fid_spec_l1In run_spec_l1In := lim_ok (l := pl_spec_l1In) Tryd_mix tyTab_ok fiTab_ok okT .nil fid_spec_l1In
noncomputable def spec_l1In (k m : Nat) (i1 : Int) (i2 : Int) (i3 : Int) : Option Res :=
  cond (decide (i1 ≥ i2))
  (some ([.one (Cell.bool (decide (i1 ≤ i3)))], []))
  (some ([.one (Cell.bool false)], []))
theorem spec_l1In_code (k m : Nat) (i1 : Int) (i2 : Int) (i3 : Int) : evC G_spec_l1In fi_spec_l1In (evF G_spec_l1In (k + 1)) m fi_spec_l1In.code none (retK G_spec_l1In fi_spec_l1In) (enter fi_spec_l1In [.one (Cell.int i1), .one (Cell.int i2), .one (Cell.int i3)] []) = spec_l1In (k + 1) m i1 i2 i3 := by
  kernel_rfl
theorem spec_l1In_eq (k : Nat) (i1 : Int) (i2 : Int) (i3 : Int) : evF G_spec_l1In (k + 2) fid_spec_l1In [.one (Cell.int i1), .one (Cell.int i2), .one (Cell.int i3)] [] = spec_l1In (k + 1) (k + 1) i1 i2 i3 :=
  Eq.trans (by kernel_rfl) (spec_l1In_code k (k + 1) i1 i2 i3)
theorem run_spec_l1In_of {i1 : Int} {i2 : Int} {i3 : Int} {r : Res} (k : Nat) (h : spec_l1In (k + 1) (k + 1) i1 i2 i3 = some r) : run_spec_l1In [.one (Cell.int i1), .one (Cell.int i2), .one (Cell.int i3)] [] = some r := lim_of ((spec_l1In_eq k i1 i2 i3).trans h)
noncomputable def pl_spec_l1Digit : List (Nat × Run) := [(fid_spec_l1In, run_spec_l1In)]
noncomputable def G_spec_l1Digit : Ctx := ctx tyTab fiTab pl_spec_l1Digit
noncomputable def run_spec_l1Digit : Run := lim G_spec_l1Digit fid_spec_l1Digit
theorem ok_spec_l1Digit : FnOk Tryd.prog OkT fid_spec_l1Digit run_spec_l1Digit := lim_ok (l := pl_spec_l1Digit) Tryd_mix tyTab_ok fiTab_ok okT (.cons ok_spec_l1In .nil) fid_spec_l1Digit
noncomputable def spec_l1Digit (k m : Nat) (i1 : Int) : Option Res :=
  (callS run_spec_l1In [.one (Cell.int (IntKind.i64.wrap i1)), .one (Cell.int 48), .one (Cell.int 57)] []).bind fun r2 =>
  cond (shapeOk rk_spec_l1In r2)
  ((cB (cellsAt r2 0) 0).bind fun b3 =>
  some ([.one (Cell.bool b3)], []))
  none
theorem spec_l1Digit_code (k m : Nat) (i1 : Int) : evC G_spec_l1Digit fi_spec_l1Digit (evF G_spec_l1Digit (k + 1)) m fi_spec_l1Digit.code none (retK G_spec_l1Digit fi_spec_l1Digit) (enter fi_spec_l1Digit [.one (.sc (.int .u8 i1))] []) = spec_l1Digit (k + 1) m i1 := by
  kernel_rfl
theorem spec_l1Digit_eq (k : Nat) (i1 : Int) : evF G_spec_l1Digit (k + 2) fid_spec_l1Digit [.one (.sc (.int .u8 i1))] [] = spec_l1Digit (k + 1) (k + 1) i1 :=
  Eq.trans (by kernel_rfl) (spec_l1Digit_code k (k + 1) i1)
theorem run_spec_l1Digit_of {i1 : Int} {r : Res} (k : Nat) (h : spec_l1Digit (k + 1) (k + 1) i1 = some r) : run_spec_l1Digit [.one (.sc (.int .u8 i1))] [] = some r := lim_of ((spec_l1Digit_eq k i1).trans h)
noncomputable def pl_spec_l1Small : List (Nat × Run) := [(fid_spec_l1In, run_spec_l1In)]
noncomputable def G_spec_l1Small : Ctx := ctx tyTab fiTab pl_spec_l1Small
noncomputable def run_spec_l1Small : Run := lim G_spec_l1Small fid_spec_l1Small
theorem ok_spec_l1Small : FnOk Tryd.prog OkT fid_spec_l1Small run_spec_l1Small := lim_ok (l := pl_spec_l1Small) Tryd_mix tyTab_ok fiTab_ok okT (.cons ok_spec_l1In .nil) fid_spec_l1Small
noncomputable def spec_l1Small (k m : Nat) (i1 : Int) : Option Res :=
  (callS run_spec_l1In [.one (Cell.int (IntKind.i64.wrap i1)), .one (Cell.int 97), .one (Cell.int 122)] []).bind fun r2 =>
  cond (shapeOk rk_spec_l1In r2)
  ((cB (cellsAt r2 0) 0).bind fun b3 =>
  some ([.one (Cell.bool b3)], []))
  none
theorem spec_l1Small_code (k m : Nat) (i1 : Int) : evC G_spec_l1Small fi_spec_l1Small (evF G_spec_l1Small (k + 1)) m fi_spec_l1Small.code none (retK G_spec_l1Small fi_spec_l1Small) (enter fi_spec_l1Small [.one (.sc (.int .u8 i1))] []) = spec_l1Small (k + 1) m i1 := by
  kernel_rfl
theorem spec_l1Small_eq (k : Nat) (i1 : Int) : evF G_spec_l1Small (k + 2) fid_spec_l1Small [.one (.sc (.int .u8 i1))] [] = spec_l1Small (k + 1) (k + 1) i1 :=
  Eq.trans (by kernel_rfl) (spec_l1Small_code k (k + 1) i1)
theorem run_spec_l1Small_of {i1 : Int} {r : Res} (k : Nat) (h : spec_l1Small (k + 1) (k + 1) i1 = some r) : run_spec_l1Small [.one (.sc (.int .u8 i1))] [] = some r := lim_of ((spec_l1Small_eq k i1).trans h)
noncomputable def pl_spec_NameOk : List (Nat × Run) := [(fid_spec_l1In, run_spec_l1In), (fid_spec_l1Digit, run_spec_l1Digit), (fid_spec_l1Small, run_spec_l1Small)]
noncomputable def G_spec_NameOk : Ctx := ctx tyTab fiTab pl_spec_NameOk
noncomputable def run_spec_NameOk : Run := lim G_spec_NameOk fid_spec_NameOk
theorem ok_spec_NameOk : FnOk Tryd.prog OkT fid_spec_NameOk run_spec_NameOk := lim_ok (l := pl_spec_NameOk) Tryd_mix tyTab_ok fiTab_ok okT (.cons ok_spec_l1In (.cons ok_spec_l1Digit (.cons ok_spec_l1Small .nil))) fid_spec_NameOk
noncomputable def spec_NameOk_l0 (k m : Nat) : Nat → ByteArray → Int → Option Res
  | 0, _, _ => none
  | n + 1, s2, i3 =>
    cond (decide (i3 < (s2.size : Int)))
    ((bytS s2 i3).bind fun i4 =>
    (callS run_spec_l1Small [.one (.sc (.int .u8 i4))] []).bind fun r5 =>
    cond (shapeOk rk_spec_l1Small r5)
    ((cB (cellsAt r5 0) 0).bind fun b6 =>
    cond (!b6)
    (cond (i3 == 0)
    (some ([.one (Cell.bool false)], []))
    ((bytS s2 i3).bind fun i7 =>
    (callS run_spec_l1Digit [.one (.sc (.int .u8 i7))] []).bind fun r8 =>
    cond (shapeOk rk_spec_l1Digit r8)
    ((cB (cellsAt r8 0) 0).bind fun b9 =>
    cond (!b9)
    ((bytS s2 i3).bind fun i10 =>
    cond (i10 != 45)
    (some ([.one (Cell.bool false)], []))
    (spec_NameOk_l0 k m n s2 (IntKind.i64.wrap (i3 + 1))))
    (spec_NameOk_l0 k m n s2 (IntKind.i64.wrap (i3 + 1))))
    none))
    (spec_NameOk_l0 k m n s2 (IntKind.i64.wrap (i3 + 1))))
    none)
    ((callS run_spec_l1In [.one (Cell.int (s2.size : Int)), .one (Cell.int 1), .one (Cell.int 10)] []).bind fun r11 =>
    cond (shapeOk rk_spec_l1In r11)
    ((cB (cellsAt r11 0) 0).bind fun b12 =>
    some ([.one (Cell.bool b12)], []))
    none)
noncomputable def spec_NameOk (k m : Nat) (s1 : ByteArray) : Option Res :=
  spec_NameOk_l0 k m m s1 0
noncomputable abbrev spec_NameOk_l0_B (k m : Nat) : (Ex → Fr → Option Res) → Fr → Option Res := evC G_spec_NameOk fi_spec_NameOk (evF G_spec_NameOk (k + 1)) m (sub [1, 0, 1, 2, 3] fi_spec_NameOk.code) none
noncomputable abbrev spec_NameOk_l0_K (k m : Nat) : Ex → Fr → Option Res := blockK 0 (seqK (evC G_spec_NameOk fi_spec_NameOk (evF G_spec_NameOk (k + 1)) m (sub [1, 1] fi_spec_NameOk.code) none) (retK G_spec_NameOk fi_spec_NameOk))
theorem spec_NameOk_l0_eq (k m : Nat) : ∀ (n : Nat) (s2 : ByteArray) (i3 : Int), loopK (some [0, 3]) (spec_NameOk_l0_B k m) (spec_NameOk_l0_K k m) n ⟨fT 35 0 [(0, .av (.one (Cell.str s2))), (3, .av (.one (Cell.int i3)))], fX 35 0 [], []⟩ = spec_NameOk_l0 (k + 1) m n s2 i3 := by
  intro n
  induction n with
  | zero => intros; rfl
  | succ n ih =>
    intros
    simp only [spec_NameOk_l0, ← ih]
    kernel_rfl
theorem spec_NameOk_code (k m : Nat) (s1 : ByteArray) : evC G_spec_NameOk fi_spec_NameOk (evF G_spec_NameOk (k + 1)) m fi_spec_NameOk.code none (retK G_spec_NameOk fi_spec_NameOk) (enter fi_spec_NameOk [.one (Cell.str s1)] []) = spec_NameOk (k + 1) m s1 := by
  simp only [spec_NameOk, ← spec_NameOk_l0_eq k m]
  kernel_rfl
theorem spec_NameOk_eq (k : Nat) (s1 : ByteArray) : evF G_spec_NameOk (k + 2) fid_spec_NameOk [.one (Cell.str s1)] [] = spec_NameOk (k + 1) (k + 1) s1 :=
  Eq.trans (by kernel_rfl) (spec_NameOk_code k (k + 1) s1)
theorem run_spec_NameOk_of {s1 : ByteArray} {r : Res} (k : Nat) (h : spec_NameOk (k + 1) (k + 1) s1 = some r) : run_spec_NameOk [.one (Cell.str s1)] [] = some r := lim_of ((spec_NameOk_eq k s1).trans h)
noncomputable def pl_spec_Split : List (Nat × Run) := []
noncomputable def G_spec_Split : Ctx := ctx tyTab fiTab pl_spec_Split
noncomputable def run_spec_Split : Run := lim G_spec_Split fid_spec_Split
theorem ok_spec_Split : FnOk Tryd.prog OkT fid_spec_Split run_spec_Split := lim_ok (l := pl_spec_Split) Tryd_mix tyTab_ok fiTab_ok okT .nil fid_spec_Split
noncomputable def spec_Split_l0 (k m : Nat) : Nat → ByteArray → Int → Cell → Int → Int → List Entry → Option Res
  | 0, _, _, _, _, _, _ => none
  | n + 1, s3, i4, c5, i6, i7, H8 =>
    cond (decide (i7 ≤ (s3.size : Int)))
    (cond (i7 == (s3.size : Int))
    ((subS s3 i6 i7).bind fun s9 =>
    (app H8 1 16 (c5) [[Cell.str s9]]).bind fun p10 =>
    spec_Split_l0 k m n s3 i4 (p10.1) (IntKind.i64.wrap (i7 + 1)) (IntKind.i64.wrap (i7 + 1)) p10.2)
    ((bytS s3 i7).bind fun i11 =>
    cond (i11 == i4)
    ((subS s3 i6 i7).bind fun s12 =>
    (app H8 1 16 (c5) [[Cell.str s12]]).bind fun p13 =>
    spec_Split_l0 k m n s3 i4 (p13.1) (IntKind.i64.wrap (i7 + 1)) (IntKind.i64.wrap (i7 + 1)) p13.2)
    (spec_Split_l0 k m n s3 i4 (c5) i6 (IntKind.i64.wrap (i7 + 1)) H8)))
    (some ([.one (c5)], H8))
noncomputable def spec_Split (k m : Nat) (s1 : ByteArray) (i2 : Int) : Option Res :=
  spec_Split_l0 k m m s1 i2 (.lst true 1 []) 0 0 []
noncomputable abbrev spec_Split_l0_B (k m : Nat) : (Ex → Fr → Option Res) → Fr → Option Res := evC G_spec_Split fi_spec_Split (evF G_spec_Split (k + 1)) m (sub [1, 1, 1, 0, 1, 2, 3] fi_spec_Split.code) none
noncomputable abbrev spec_Split_l0_K (k m : Nat) : Ex → Fr → Option Res := blockK 0 (seqK (evC G_spec_Split fi_spec_Split (evF G_spec_Split (k + 1)) m (sub [1, 1, 1, 1] fi_spec_Split.code) none) (retK G_spec_Split fi_spec_Split))
theorem spec_Split_l0_eq (k m : Nat) : ∀ (n : Nat) (s3 : ByteArray) (i4 : Int) (c5 : Cell) (i6 : Int) (i7 : Int) (H8 : List Entry), loopK (some [0, 1, 5, 6, 7]) (spec_Split_l0_B k m) (spec_Split_l0_K k m) n ⟨fT 36 0 [(0, .av (.one (Cell.str s3))), (1, .av (.one (.sc (.int .u8 i4)))), (5, .av (.one (c5))), (6, .av (.one (Cell.int i6))), (7, .av (.one (Cell.int i7)))], fX 36 0 [], H8⟩ = spec_Split_l0 (k + 1) m n s3 i4 c5 i6 i7 H8 := by
  intro n
  induction n with
  | zero => intros; rfl
  | succ n ih =>
    intros
    simp only [spec_Split_l0, ← ih]
    kernel_rfl
theorem spec_Split_code (k m : Nat) (s1 : ByteArray) (i2 : Int) : evC G_spec_Split fi_spec_Split (evF G_spec_Split (k + 1)) m fi_spec_Split.code none (retK G_spec_Split fi_spec_Split) (enter fi_spec_Split [.one (Cell.str s1), .one (.sc (.int .u8 i2))] []) = spec_Split (k + 1) m s1 i2 := by
  simp only [spec_Split, ← spec_Split_l0_eq k m]
  kernel_rfl
theorem spec_Split_eq (k : Nat) (s1 : ByteArray) (i2 : Int) : evF G_spec_Split (k + 2) fid_spec_Split [.one (Cell.str s1), .one (.sc (.int .u8 i2))] [] = spec_Split (k + 1) (k + 1) s1 i2 :=
  Eq.trans (by kernel_rfl) (spec_Split_code k (k + 1) s1 i2)
theorem run_spec_Split_of {s1 : ByteArray} {i2 : Int} {r : Res} (k : Nat) (h : spec_Split (k + 1) (k + 1) s1 i2 = some r) : run_spec_Split [.one (Cell.str s1), .one (.sc (.int .u8 i2))] [] = some r := lim_of ((spec_Split_eq k s1 i2).trans h)
noncomputable def pl_spec_OnOk : List (Nat × Run) := [(fid_spec_Split, run_spec_Split), (fid_spec_NameOk, run_spec_NameOk)]
noncomputable def G_spec_OnOk : Ctx := ctx tyTab fiTab pl_spec_OnOk
noncomputable def run_spec_OnOk : Run := lim G_spec_OnOk fid_spec_OnOk
theorem ok_spec_OnOk : FnOk Tryd.prog OkT fid_spec_OnOk run_spec_OnOk := lim_ok (l := pl_spec_OnOk) Tryd_mix tyTab_ok fiTab_ok okT (.cons ok_spec_Split (.cons ok_spec_NameOk .nil)) fid_spec_OnOk
noncomputable def spec_OnOk (k m : Nat) (s1 : ByteArray) : Option Res :=
  cond (decide ((s1.size : Int) > 0))
  ((bytS s1 0).bind fun i2 =>
  cond (i2 == 94)
  ((subS s1 1 (s1.size : Int)).bind fun s3 =>
  (callS run_spec_NameOk [.one (Cell.str s3)] []).bind fun r4 =>
  cond (shapeOk rk_spec_NameOk r4)
  ((cB (cellsAt r4 0) 0).bind fun b5 =>
  some ([.one (Cell.bool b5)], []))
  none)
  ((callL run_spec_Split [.one (Cell.str s1), .one (.sc (.int .u8 35))] []).bind fun r6 =>
  cond (shapeOk rk_spec_Split r6.1)
  ((cC (cellsAt r6.1 0) 0).bind fun c7 =>
  (lenC c7).bind fun n8 =>
  cond ((n8 : Int) == 2)
  ((idxA 1 (c7) 0).bind fun c9 =>
  (deref r6.2 (c9)).bind fun p10 =>
  (cS p10.1 p10.2).bind fun s11 =>
  (callS run_spec_NameOk [.one (Cell.str s11)] r6.2).bind fun r12 =>
  cond (shapeOk rk_spec_NameOk r12)
  ((cB (cellsAt r12 0) 0).bind fun b13 =>
  cond b13
  ((idxA 1 (c7) 1).bind fun c14 =>
  (deref r6.2 (c14)).bind fun p15 =>
  (cS p15.1 p15.2).bind fun s16 =>
  (callS run_spec_NameOk [.one (Cell.str s16)] r6.2).bind fun r17 =>
  cond (shapeOk rk_spec_NameOk r17)
  ((cB (cellsAt r17 0) 0).bind fun b18 =>
  some ([.one (Cell.bool b18)], r6.2))
  none)
  (some ([.one (Cell.bool false)], r6.2)))
  none)
  ((callS run_spec_NameOk [.one (Cell.str s1)] r6.2).bind fun r19 =>
  cond (shapeOk rk_spec_NameOk r19)
  ((cB (cellsAt r19 0) 0).bind fun b20 =>
  some ([.one (Cell.bool b20)], r6.2))
  none))
  none))
  ((callL run_spec_Split [.one (Cell.str s1), .one (.sc (.int .u8 35))] []).bind fun r21 =>
  cond (shapeOk rk_spec_Split r21.1)
  ((cC (cellsAt r21.1 0) 0).bind fun c22 =>
  (lenC c22).bind fun n23 =>
  cond ((n23 : Int) == 2)
  ((idxA 1 (c22) 0).bind fun c24 =>
  (deref r21.2 (c24)).bind fun p25 =>
  (cS p25.1 p25.2).bind fun s26 =>
  (callS run_spec_NameOk [.one (Cell.str s26)] r21.2).bind fun r27 =>
  cond (shapeOk rk_spec_NameOk r27)
  ((cB (cellsAt r27 0) 0).bind fun b28 =>
  cond b28
  ((idxA 1 (c22) 1).bind fun c29 =>
  (deref r21.2 (c29)).bind fun p30 =>
  (cS p30.1 p30.2).bind fun s31 =>
  (callS run_spec_NameOk [.one (Cell.str s31)] r21.2).bind fun r32 =>
  cond (shapeOk rk_spec_NameOk r32)
  ((cB (cellsAt r32 0) 0).bind fun b33 =>
  some ([.one (Cell.bool b33)], r21.2))
  none)
  (some ([.one (Cell.bool false)], r21.2)))
  none)
  ((callS run_spec_NameOk [.one (Cell.str s1)] r21.2).bind fun r34 =>
  cond (shapeOk rk_spec_NameOk r34)
  ((cB (cellsAt r34 0) 0).bind fun b35 =>
  some ([.one (Cell.bool b35)], r21.2))
  none))
  none)
theorem spec_OnOk_code (k m : Nat) (s1 : ByteArray) : evC G_spec_OnOk fi_spec_OnOk (evF G_spec_OnOk (k + 1)) m fi_spec_OnOk.code none (retK G_spec_OnOk fi_spec_OnOk) (enter fi_spec_OnOk [.one (Cell.str s1)] []) = spec_OnOk (k + 1) m s1 := by
  kernel_rfl
theorem spec_OnOk_eq (k : Nat) (s1 : ByteArray) : evF G_spec_OnOk (k + 2) fid_spec_OnOk [.one (Cell.str s1)] [] = spec_OnOk (k + 1) (k + 1) s1 :=
  Eq.trans (by kernel_rfl) (spec_OnOk_code k (k + 1) s1)
theorem run_spec_OnOk_of {s1 : ByteArray} {r : Res} (k : Nat) (h : spec_OnOk (k + 1) (k + 1) s1 = some r) : run_spec_OnOk [.one (Cell.str s1)] [] = some r := lim_of ((spec_OnOk_eq k s1).trans h)
noncomputable def pl_spec_l5Letter : List (Nat × Run) := [(fid_spec_l1Digit, run_spec_l1Digit), (fid_spec_l1Small, run_spec_l1Small)]
noncomputable def G_spec_l5Letter : Ctx := ctx tyTab fiTab pl_spec_l5Letter
noncomputable def run_spec_l5Letter : Run := lim G_spec_l5Letter fid_spec_l5Letter
theorem ok_spec_l5Letter : FnOk Tryd.prog OkT fid_spec_l5Letter run_spec_l5Letter := lim_ok (l := pl_spec_l5Letter) Tryd_mix tyTab_ok fiTab_ok okT (.cons ok_spec_l1Digit (.cons ok_spec_l1Small .nil)) fid_spec_l5Letter
noncomputable def spec_l5Letter (k m : Nat) (i1 : Int) : Option Res :=
  (callS run_spec_l1Small [.one (.sc (.int .u8 i1))] []).bind fun r2 =>
  cond (shapeOk rk_spec_l1Small r2)
  ((cB (cellsAt r2 0) 0).bind fun b3 =>
  cond b3
  (some ([.one (Cell.bool true)], []))
  ((callS run_spec_l1Digit [.one (.sc (.int .u8 i1))] []).bind fun r4 =>
  cond (shapeOk rk_spec_l1Digit r4)
  ((cB (cellsAt r4 0) 0).bind fun b5 =>
  cond b5
  (some ([.one (Cell.bool true)], []))
  (cond (i1 == 46)
  (some ([.one (Cell.bool true)], []))
  (cond (i1 == 45)
  (some ([.one (Cell.bool true)], []))
  (some ([.one (Cell.bool (i1 == 95))], [])))))
  none))
  none
theorem spec_l5Letter_code (k m : Nat) (i1 : Int) : evC G_spec_l5Letter fi_spec_l5Letter (evF G_spec_l5Letter (k + 1)) m fi_spec_l5Letter.code none (retK G_spec_l5Letter fi_spec_l5Letter) (enter fi_spec_l5Letter [.one (.sc (.int .u8 i1))] []) = spec_l5Letter (k + 1) m i1 := by
  kernel_rfl
theorem spec_l5Letter_eq (k : Nat) (i1 : Int) : evF G_spec_l5Letter (k + 2) fid_spec_l5Letter [.one (.sc (.int .u8 i1))] [] = spec_l5Letter (k + 1) (k + 1) i1 :=
  Eq.trans (by kernel_rfl) (spec_l5Letter_code k (k + 1) i1)
theorem run_spec_l5Letter_of {i1 : Int} {r : Res} (k : Nat) (h : spec_l5Letter (k + 1) (k + 1) i1 = some r) : run_spec_l5Letter [.one (.sc (.int .u8 i1))] [] = some r := lim_of ((spec_l5Letter_eq k i1).trans h)
noncomputable def pl_spec_l6Class : List (Nat × Run) := [(fid_spec_l1In, run_spec_l1In), (fid_spec_l1Digit, run_spec_l1Digit), (fid_spec_l1Small, run_spec_l1Small)]
noncomputable def G_spec_l6Class : Ctx := ctx tyTab fiTab pl_spec_l6Class
noncomputable def run_spec_l6Class : Run := lim G_spec_l6Class fid_spec_l6Class
theorem ok_spec_l6Class : FnOk Tryd.prog OkT fid_spec_l6Class run_spec_l6Class := lim_ok (l := pl_spec_l6Class) Tryd_mix tyTab_ok fiTab_ok okT (.cons ok_spec_l1In (.cons ok_spec_l1Digit (.cons ok_spec_l1Small .nil))) fid_spec_l6Class
noncomputable def spec_l6Class_l0 (k m : Nat) : Nat → ByteArray → Int → Int → Option Res
  | 0, _, _, _ => none
  | n + 1, s4, i5, i6 =>
    cond (decide (i5 < (s4.size : Int)))
    ((bytS s4 i5).bind fun i7 =>
    (callS run_spec_l1Small [.one (.sc (.int .u8 i7))] []).bind fun r8 =>
    cond (shapeOk rk_spec_l1Small r8)
    ((cB (cellsAt r8 0) 0).bind fun b9 =>
    cond b9
    (spec_l6Class_l0 k m n s4 (IntKind.i64.wrap (i5 + 1)) (IntKind.i64.wrap (i6 + 1)))
    ((bytS s4 i5).bind fun i10 =>
    (callS run_spec_l1Digit [.one (.sc (.int .u8 i10))] []).bind fun r11 =>
    cond (shapeOk rk_spec_l1Digit r11)
    ((cB (cellsAt r11 0) 0).bind fun b12 =>
    cond b12
    (spec_l6Class_l0 k m n s4 (IntKind.i64.wrap (i5 + 1)) (IntKind.i64.wrap (i6 + 1)))
    ((callS run_spec_l1In [.one (Cell.int i6), .one (Cell.int 1), .one (Cell.int 5)] []).bind fun r13 =>
    cond (shapeOk rk_spec_l1In r13)
    ((cB (cellsAt r13 0) 0).bind fun b14 =>
    cond (!b14)
    (some ([.one (Cell.int (-1))], []))
    (cond (decide (i5 ≥ (s4.size : Int)))
    (some ([.one (Cell.int (-1))], []))
    ((bytS s4 i5).bind fun i15 =>
    cond (i15 != 93)
    (some ([.one (Cell.int (-1))], []))
    (some ([.one (Cell.int (IntKind.i64.wrap (i5 + 1)))], [])))))
    none))
    none))
    none)
    ((callS run_spec_l1In [.one (Cell.int i6), .one (Cell.int 1), .one (Cell.int 5)] []).bind fun r16 =>
    cond (shapeOk rk_spec_l1In r16)
    ((cB (cellsAt r16 0) 0).bind fun b17 =>
    cond (!b17)
    (some ([.one (Cell.int (-1))], []))
    (cond (decide (i5 ≥ (s4.size : Int)))
    (some ([.one (Cell.int (-1))], []))
    ((bytS s4 i5).bind fun i18 =>
    cond (i18 != 93)
    (some ([.one (Cell.int (-1))], []))
    (some ([.one (Cell.int (IntKind.i64.wrap (i5 + 1)))], [])))))
    none)
noncomputable def spec_l6Class (k m : Nat) (s1 : ByteArray) (i2 : Int) : Option Res :=
  cond (decide ((IntKind.i64.wrap (i2 + 1)) < (s1.size : Int)))
  ((bytS s1 (IntKind.i64.wrap (i2 + 1))).bind fun i3 =>
  cond (i3 == 33)
  (spec_l6Class_l0 k m m s1 (IntKind.i64.wrap ((IntKind.i64.wrap (i2 + 1)) + 1)) 0)
  (spec_l6Class_l0 k m m s1 (IntKind.i64.wrap (i2 + 1)) 0))
  (spec_l6Class_l0 k m m s1 (IntKind.i64.wrap (i2 + 1)) 0)
noncomputable abbrev spec_l6Class_l0_B (k m : Nat) : (Ex → Fr → Option Res) → Fr → Option Res := evC G_spec_l6Class fi_spec_l6Class (evF G_spec_l6Class (k + 1)) m (sub [1, 1, 1, 1, 0, 2, 3] fi_spec_l6Class.code) none
noncomputable abbrev spec_l6Class_l0_K (k m : Nat) : Ex → Fr → Option Res := blockK 0 (seqK (evC G_spec_l6Class fi_spec_l6Class (evF G_spec_l6Class (k + 1)) m (sub [1, 1, 1, 1, 1] fi_spec_l6Class.code) none) (retK G_spec_l6Class fi_spec_l6Class))
theorem spec_l6Class_l0_eq (k m : Nat) : ∀ (n : Nat) (s4 : ByteArray) (i5 : Int) (i6 : Int), loopK (some [0, 5, 6]) (spec_l6Class_l0_B k m) (spec_l6Class_l0_K k m) n ⟨fT 58 0 [(0, .av (.one (Cell.str s4))), (5, .av (.one (Cell.int i5))), (6, .av (.one (Cell.int i6)))], fX 58 0 [], []⟩ = spec_l6Class_l0 (k + 1) m n s4 i5 i6 := by
  intro n
  induction n with
  | zero => intros; rfl
  | succ n ih =>
    intros
    simp only [spec_l6Class_l0, ← ih]
    kernel_rfl
theorem spec_l6Class_code (k m : Nat) (s1 : ByteArray) (i2 : Int) : evC G_spec_l6Class fi_spec_l6Class (evF G_spec_l6Class (k + 1)) m fi_spec_l6Class.code none (retK G_spec_l6Class fi_spec_l6Class) (enter fi_spec_l6Class [.one (Cell.str s1), .one (Cell.int i2)] []) = spec_l6Class (k + 1) m s1 i2 := by
  simp only [spec_l6Class, ← spec_l6Class_l0_eq k m]
  kernel_rfl
theorem spec_l6Class_eq (k : Nat) (s1 : ByteArray) (i2 : Int) : evF G_spec_l6Class (k + 2) fid_spec_l6Class [.one (Cell.str s1), .one (Cell.int i2)] [] = spec_l6Class (k + 1) (k + 1) s1 i2 :=
  Eq.trans (by kernel_rfl) (spec_l6Class_code k (k + 1) s1 i2)
theorem run_spec_l6Class_of {s1 : ByteArray} {i2 : Int} {r : Res} (k : Nat) (h : spec_l6Class (k + 1) (k + 1) s1 i2 = some r) : run_spec_l6Class [.one (Cell.str s1), .one (Cell.int i2)] [] = some r := lim_of ((spec_l6Class_eq k s1 i2).trans h)
noncomputable def pl_spec_l6Piece : List (Nat × Run) := [(fid_spec_l1In, run_spec_l1In), (fid_spec_l5Letter, run_spec_l5Letter), (fid_spec_l6Class, run_spec_l6Class)]
noncomputable def G_spec_l6Piece : Ctx := ctx tyTab fiTab pl_spec_l6Piece
noncomputable def run_spec_l6Piece : Run := lim G_spec_l6Piece fid_spec_l6Piece
theorem ok_spec_l6Piece : FnOk Tryd.prog OkT fid_spec_l6Piece run_spec_l6Piece := lim_ok (l := pl_spec_l6Piece) Tryd_mix tyTab_ok fiTab_ok okT (.cons ok_spec_l1In (.cons ok_spec_l5Letter (.cons ok_spec_l6Class .nil))) fid_spec_l6Piece
noncomputable def spec_l6Piece_l0 (k m : Nat) : Nat → ByteArray → Int → Int → Option Res
  | 0, _, _, _ => none
  | n + 1, s2, i3, i4 =>
    cond (decide (i4 < (s2.size : Int)))
    ((bytS s2 i4).bind fun i5 =>
    cond (i5 == 91)
    ((callS run_spec_l6Class [.one (Cell.str s2), .one (Cell.int i4)] []).bind fun r6 =>
    cond (shapeOk rk_spec_l6Class r6)
    ((cI .i64 (cellsAt r6 0) 0).bind fun i7 =>
    cond (decide (i7 < 0))
    (some ([.one (Cell.bool false)], []))
    (spec_l6Piece_l0 k m n s2 (IntKind.i64.wrap (i3 + 1)) i7))
    none)
    ((bytS s2 i4).bind fun i8 =>
    (callS run_spec_l5Letter [.one (.sc (.int .u8 i8))] []).bind fun r9 =>
    cond (shapeOk rk_spec_l5Letter r9)
    ((cB (cellsAt r9 0) 0).bind fun b10 =>
    cond b10
    (spec_l6Piece_l0 k m n s2 (IntKind.i64.wrap (i3 + 1)) (IntKind.i64.wrap (i4 + 1)))
    ((bytS s2 i4).bind fun i11 =>
    cond (i11 == 63)
    (spec_l6Piece_l0 k m n s2 (IntKind.i64.wrap (i3 + 1)) (IntKind.i64.wrap (i4 + 1)))
    ((bytS s2 i4).bind fun i12 =>
    cond (i12 == 42)
    (spec_l6Piece_l0 k m n s2 (IntKind.i64.wrap (i3 + 1)) (IntKind.i64.wrap (i4 + 1)))
    (some ([.one (Cell.bool false)], [])))))
    none))
    ((callS run_spec_l1In [.one (Cell.int i3), .one (Cell.int 1), .one (Cell.int 12)] []).bind fun r13 =>
    cond (shapeOk rk_spec_l1In r13)
    ((cB (cellsAt r13 0) 0).bind fun b14 =>
    some ([.one (Cell.bool b14)], []))
    none)
noncomputable def spec_l6Piece (k m : Nat) (s1 : ByteArray) : Option Res :=
  spec_l6Piece_l0 k m m s1 0 0
noncomputable abbrev spec_l6Piece_l0_B (k m : Nat) : (Ex → Fr → Option Res) → Fr → Option Res := evC G_spec_l6Piece fi_spec_l6Piece (evF G_spec_l6Piece (k + 1)) m (sub [1, 1, 0, 1, 2, 3] fi_spec_l6Piece.code) none
noncomputable abbrev spec_l6Piece_l0_K (k m : Nat) : Ex → Fr → Option Res := blockK 0 (seqK (evC G_spec_l6Piece fi_spec_l6Piece (evF G_spec_l6Piece (k + 1)) m (sub [1, 1, 1] fi_spec_l6Piece.code) none) (retK G_spec_l6Piece fi_spec_l6Piece))
theorem spec_l6Piece_l0_eq (k m : Nat) : ∀ (n : Nat) (s2 : ByteArray) (i3 : Int) (i4 : Int), loopK (some [0, 3, 4]) (spec_l6Piece_l0_B k m) (spec_l6Piece_l0_K k m) n ⟨fT 42 0 [(0, .av (.one (Cell.str s2))), (3, .av (.one (Cell.int i3))), (4, .av (.one (Cell.int i4)))], fX 42 0 [], []⟩ = spec_l6Piece_l0 (k + 1) m n s2 i3 i4 := by
  intro n
  induction n with
  | zero => intros; rfl
  | succ n ih =>
    intros
    simp only [spec_l6Piece_l0, ← ih]
    kernel_rfl
theorem spec_l6Piece_code (k m : Nat) (s1 : ByteArray) : evC G_spec_l6Piece fi_spec_l6Piece (evF G_spec_l6Piece (k + 1)) m fi_spec_l6Piece.code none (retK G_spec_l6Piece fi_spec_l6Piece) (enter fi_spec_l6Piece [.one (Cell.str s1)] []) = spec_l6Piece (k + 1) m s1 := by
  simp only [spec_l6Piece, ← spec_l6Piece_l0_eq k m]
  kernel_rfl
theorem spec_l6Piece_eq (k : Nat) (s1 : ByteArray) : evF G_spec_l6Piece (k + 2) fid_spec_l6Piece [.one (Cell.str s1)] [] = spec_l6Piece (k + 1) (k + 1) s1 :=
  Eq.trans (by kernel_rfl) (spec_l6Piece_code k (k + 1) s1)
theorem run_spec_l6Piece_of {s1 : ByteArray} {r : Res} (k : Nat) (h : spec_l6Piece (k + 1) (k + 1) s1 = some r) : run_spec_l6Piece [.one (Cell.str s1)] [] = some r := lim_of ((spec_l6Piece_eq k s1).trans h)
noncomputable def pl_spec_GlobOk : List (Nat × Run) := [(fid_spec_Split, run_spec_Split), (fid_spec_l6Piece, run_spec_l6Piece)]
noncomputable def G_spec_GlobOk : Ctx := ctx tyTab fiTab pl_spec_GlobOk
noncomputable def run_spec_GlobOk : Run := lim G_spec_GlobOk fid_spec_GlobOk
theorem ok_spec_GlobOk : FnOk Tryd.prog OkT fid_spec_GlobOk run_spec_GlobOk := lim_ok (l := pl_spec_GlobOk) Tryd_mix tyTab_ok fiTab_ok okT (.cons ok_spec_Split (.cons ok_spec_l6Piece .nil)) fid_spec_GlobOk
noncomputable def spec_GlobOk_l0 (k m : Nat) : Nat → Cell → Int → List Entry → Option Res
  | 0, _, _, _ => none
  | n + 1, c4, i5, H6 =>
    (lenC c4).bind fun n7 =>
    cond (decide (i5 < (n7 : Int)))
    ((idxA 1 (c4) i5).bind fun c8 =>
    (deref H6 (c8)).bind fun p9 =>
    (cS p9.1 p9.2).bind fun s10 =>
    cond (!(s10.toList == (bs [42, 42]).toList))
    ((idxA 1 (c4) i5).bind fun c11 =>
    (deref H6 (c11)).bind fun p12 =>
    (cS p12.1 p12.2).bind fun s13 =>
    (callS run_spec_l6Piece [.one (Cell.str s13)] H6).bind fun r14 =>
    cond (shapeOk rk_spec_l6Piece r14)
    ((cB (cellsAt r14 0) 0).bind fun b15 =>
    cond (!b15)
    (some ([.one (Cell.bool false)], H6))
    (spec_GlobOk_l0 k m n (c4) (IntKind.i64.wrap (i5 + 1)) H6))
    none)
    (spec_GlobOk_l0 k m n (c4) (IntKind.i64.wrap (i5 + 1)) H6))
    ((lenC c4).bind fun n16 =>
    some ([.one (Cell.bool (decide ((n16 : Int) ≤ 4)))], H6))
noncomputable def spec_GlobOk (k m : Nat) (s1 : ByteArray) : Option Res :=
  (callL run_spec_Split [.one (Cell.str s1), .one (.sc (.int .u8 47))] []).bind fun r2 =>
  cond (shapeOk rk_spec_Split r2.1)
  ((cC (cellsAt r2.1 0) 0).bind fun c3 =>
  spec_GlobOk_l0 k m m (c3) 0 r2.2)
  none
noncomputable abbrev spec_GlobOk_l0_B (k m : Nat) : (Ex → Fr → Option Res) → Fr → Option Res := evC G_spec_GlobOk fi_spec_GlobOk (evF G_spec_GlobOk (k + 1)) m (sub [1, 1, 0, 1, 2, 3] fi_spec_GlobOk.code) none
noncomputable abbrev spec_GlobOk_l0_K (k m : Nat) : Ex → Fr → Option Res := blockK 0 (seqK (evC G_spec_GlobOk fi_spec_GlobOk (evF G_spec_GlobOk (k + 1)) m (sub [1, 1, 1] fi_spec_GlobOk.code) none) (retK G_spec_GlobOk fi_spec_GlobOk))
theorem spec_GlobOk_l0_eq (k m : Nat) : ∀ (n : Nat) (c4 : Cell) (i5 : Int) (H6 : List Entry), loopK (some [3, 4]) (spec_GlobOk_l0_B k m) (spec_GlobOk_l0_K k m) n ⟨fT 29 0 [(3, .av (.one (c4))), (4, .av (.one (Cell.int i5)))], fX 29 0 [], H6⟩ = spec_GlobOk_l0 (k + 1) m n c4 i5 H6 := by
  intro n
  induction n with
  | zero => intros; rfl
  | succ n ih =>
    intros
    simp only [spec_GlobOk_l0, ← ih]
    kernel_rfl
theorem spec_GlobOk_code (k m : Nat) (s1 : ByteArray) : evC G_spec_GlobOk fi_spec_GlobOk (evF G_spec_GlobOk (k + 1)) m fi_spec_GlobOk.code none (retK G_spec_GlobOk fi_spec_GlobOk) (enter fi_spec_GlobOk [.one (Cell.str s1)] []) = spec_GlobOk (k + 1) m s1 := by
  simp only [spec_GlobOk, ← spec_GlobOk_l0_eq k m]
  kernel_rfl
theorem spec_GlobOk_eq (k : Nat) (s1 : ByteArray) : evF G_spec_GlobOk (k + 2) fid_spec_GlobOk [.one (Cell.str s1)] [] = spec_GlobOk (k + 1) (k + 1) s1 :=
  Eq.trans (by kernel_rfl) (spec_GlobOk_code k (k + 1) s1)
theorem run_spec_GlobOk_of {s1 : ByteArray} {r : Res} (k : Nat) (h : spec_GlobOk (k + 1) (k + 1) s1 = some r) : run_spec_GlobOk [.one (Cell.str s1)] [] = some r := lim_of ((spec_GlobOk_eq k s1).trans h)
noncomputable def pl_spec_l7Names : List (Nat × Run) := [(fid_spec_NameOk, run_spec_NameOk)]
noncomputable def G_spec_l7Names : Ctx := ctx tyTab fiTab pl_spec_l7Names
noncomputable def run_spec_l7Names : Run := lim G_spec_l7Names fid_spec_l7Names
theorem ok_spec_l7Names : FnOk Tryd.prog OkT fid_spec_l7Names run_spec_l7Names := lim_ok (l := pl_spec_l7Names) Tryd_mix tyTab_ok fiTab_ok okT (.cons ok_spec_NameOk .nil) fid_spec_l7Names
noncomputable def spec_l7Names_l0 (k m : Nat) : Nat → Cell → Int → Option Res
  | 0, _, _ => none
  | n + 1, c2, i3 =>
    (lenC c2).bind fun n4 =>
    cond (decide (i3 < (n4 : Int)))
    ((idxA 1 (c2) i3).bind fun c5 =>
    (deref [] (c5)).bind fun p6 =>
    (cS p6.1 p6.2).bind fun s7 =>
    (callS run_spec_NameOk [.one (Cell.str s7)] []).bind fun r8 =>
    cond (shapeOk rk_spec_NameOk r8)
    ((cB (cellsAt r8 0) 0).bind fun b9 =>
    cond (!b9)
    (some ([.one (Cell.bool false)], []))
    (spec_l7Names_l0 k m n (c2) (IntKind.i64.wrap (i3 + 1))))
    none)
    (some ([.one (Cell.bool true)], []))
noncomputable def spec_l7Names (k m : Nat) (c1 : Cell) : Option Res :=
  spec_l7Names_l0 k m m (c1) 0
noncomputable abbrev spec_l7Names_l0_B (k m : Nat) : (Ex → Fr → Option Res) → Fr → Option Res := evC G_spec_l7Names fi_spec_l7Names (evF G_spec_l7Names (k + 1)) m (sub [1, 0, 1, 2, 3] fi_spec_l7Names.code) none
noncomputable abbrev spec_l7Names_l0_K (k m : Nat) : Ex → Fr → Option Res := blockK 0 (seqK (evC G_spec_l7Names fi_spec_l7Names (evF G_spec_l7Names (k + 1)) m (sub [1, 1] fi_spec_l7Names.code) none) (retK G_spec_l7Names fi_spec_l7Names))
theorem spec_l7Names_l0_eq (k m : Nat) : ∀ (n : Nat) (c2 : Cell) (i3 : Int), loopK (some [0, 3]) (spec_l7Names_l0_B k m) (spec_l7Names_l0_K k m) n ⟨fT 16 0 [(0, .av (.one (c2))), (3, .av (.one (Cell.int i3)))], fX 16 0 [], []⟩ = spec_l7Names_l0 (k + 1) m n c2 i3 := by
  intro n
  induction n with
  | zero => intros; rfl
  | succ n ih =>
    intros
    simp only [spec_l7Names_l0, ← ih]
    kernel_rfl
theorem spec_l7Names_code (k m : Nat) (c1 : Cell) : evC G_spec_l7Names fi_spec_l7Names (evF G_spec_l7Names (k + 1)) m fi_spec_l7Names.code none (retK G_spec_l7Names fi_spec_l7Names) (enter fi_spec_l7Names [.one (c1)] []) = spec_l7Names (k + 1) m c1 := by
  simp only [spec_l7Names, ← spec_l7Names_l0_eq k m]
  kernel_rfl
theorem spec_l7Names_eq (k : Nat) (c1 : Cell) : evF G_spec_l7Names (k + 2) fid_spec_l7Names [.one (c1)] [] = spec_l7Names (k + 1) (k + 1) c1 :=
  Eq.trans (by kernel_rfl) (spec_l7Names_code k (k + 1) c1)
theorem run_spec_l7Names_of {c1 : Cell} {r : Res} (k : Nat) (h : spec_l7Names (k + 1) (k + 1) c1 = some r) : run_spec_l7Names [.one (c1)] [] = some r := lim_of ((spec_l7Names_eq k c1).trans h)
noncomputable def pl_spec_l12Rule : List (Nat × Run) := [(fid_spec_NameOk, run_spec_NameOk), (fid_spec_OnOk, run_spec_OnOk), (fid_spec_GlobOk, run_spec_GlobOk), (fid_spec_l7Names, run_spec_l7Names)]
noncomputable def G_spec_l12Rule : Ctx := ctx tyTab fiTab pl_spec_l12Rule
noncomputable def run_spec_l12Rule : Run := lim G_spec_l12Rule fid_spec_l12Rule
theorem ok_spec_l12Rule : FnOk Tryd.prog OkT fid_spec_l12Rule run_spec_l12Rule := lim_ok (l := pl_spec_l12Rule) Tryd_mix tyTab_ok fiTab_ok okT (.cons ok_spec_NameOk (.cons ok_spec_OnOk (.cons ok_spec_GlobOk (.cons ok_spec_l7Names .nil)))) fid_spec_l12Rule
noncomputable def spec_l12Rule_l1 (k m : Nat) : Nat → Int → ByteArray → Cell → Cell → Cell → Bool → Option Res
  | 0, _, _, _, _, _, _ => none
  | n + 1, i18, s19, c20, c21, c22, b23 =>
    (lenC c21).bind fun n24 =>
    cond (decide (i18 < (n24 : Int)))
    ((idxA 1 (c21) i18).bind fun c25 =>
    (deref [] (c25)).bind fun p26 =>
    (cS p26.1 p26.2).bind fun s27 =>
    (callS run_spec_GlobOk [.one (Cell.str s27)] []).bind fun r28 =>
    cond (shapeOk rk_spec_GlobOk r28)
    ((cB (cellsAt r28 0) 0).bind fun b29 =>
    cond (!b29)
    (some ([.one (Cell.bool false)], []))
    ((idxA 1 (c21) i18).bind fun c30 =>
    (deref [] (c30)).bind fun p31 =>
    (cS p31.1 p31.2).bind fun s32 =>
    cond (decide ((s32.size : Int) > 60))
    (some ([.one (Cell.bool false)], []))
    (spec_l12Rule_l1 k m n (IntKind.i64.wrap (i18 + 1)) s19 (c20) (c21) (c22) b23)))
    none)
    ((callS run_spec_NameOk [.one (Cell.str s19)] []).bind fun r33 =>
    cond (shapeOk rk_spec_NameOk r33)
    ((cB (cellsAt r33 0) 0).bind fun b34 =>
    cond b34
    ((lenC c20).bind fun n35 =>
    cond (decide ((n35 : Int) ≤ 4))
    ((lenC c21).bind fun n36 =>
    cond (decide ((n36 : Int) ≤ 4))
    ((lenC c22).bind fun n37 =>
    cond (decide ((n37 : Int) ≤ 3))
    ((callS run_spec_l7Names [.one (c22)] []).bind fun r38 =>
    cond (shapeOk rk_spec_l7Names r38)
    ((cB (cellsAt r38 0) 0).bind fun b39 =>
    some ([.one (Cell.bool b39)], []))
    none)
    (some ([.one (Cell.bool false)], [])))
    (some ([.one (Cell.bool false)], [])))
    (some ([.one (Cell.bool false)], [])))
    (some ([.one (Cell.bool false)], [])))
    none)
noncomputable def spec_l12Rule_l0 (k m : Nat) : Nat → Int → ByteArray → Cell → Cell → Cell → Bool → Option Res
  | 0, _, _, _, _, _, _ => none
  | n + 1, i6, s7, c8, c9, c10, b11 =>
    (lenC c8).bind fun n12 =>
    cond (decide (i6 < (n12 : Int)))
    ((idxA 1 (c8) i6).bind fun c13 =>
    (deref [] (c13)).bind fun p14 =>
    (cS p14.1 p14.2).bind fun s15 =>
    (callS run_spec_OnOk [.one (Cell.str s15)] []).bind fun r16 =>
    cond (shapeOk rk_spec_OnOk r16)
    ((cB (cellsAt r16 0) 0).bind fun b17 =>
    cond (!b17)
    (some ([.one (Cell.bool false)], []))
    (spec_l12Rule_l0 k m n (IntKind.i64.wrap (i6 + 1)) s7 (c8) (c9) (c10) b11))
    none)
    (spec_l12Rule_l1 k m m 0 s7 (c8) (c9) (c10) b11)
noncomputable def spec_l12Rule (k m : Nat) (s1 : ByteArray) (c2 : Cell) (c3 : Cell) (c4 : Cell) (b5 : Bool) : Option Res :=
  spec_l12Rule_l0 k m m 0 s1 (c2) (c3) (c4) b5
noncomputable abbrev spec_l12Rule_l0_B (k m : Nat) : (Ex → Fr → Option Res) → Fr → Option Res := evC G_spec_l12Rule fi_spec_l12Rule (evF G_spec_l12Rule (k + 1)) m (sub [1, 0, 1, 2, 3] fi_spec_l12Rule.code) none
noncomputable abbrev spec_l12Rule_l0_K (k m : Nat) : Ex → Fr → Option Res := blockK 0 (seqK (evC G_spec_l12Rule fi_spec_l12Rule (evF G_spec_l12Rule (k + 1)) m (sub [1, 1] fi_spec_l12Rule.code) none) (retK G_spec_l12Rule fi_spec_l12Rule))
noncomputable abbrev spec_l12Rule_l1_B (k m : Nat) : (Ex → Fr → Option Res) → Fr → Option Res := evC G_spec_l12Rule fi_spec_l12Rule (evF G_spec_l12Rule (k + 1)) m (sub [1, 1, 0, 1, 2, 3] fi_spec_l12Rule.code) none
noncomputable abbrev spec_l12Rule_l1_K (k m : Nat) : Ex → Fr → Option Res := blockK 2 (seqK (evC G_spec_l12Rule fi_spec_l12Rule (evF G_spec_l12Rule (k + 1)) m (sub [1, 1, 1] fi_spec_l12Rule.code) none) (retK G_spec_l12Rule fi_spec_l12Rule))
theorem spec_l12Rule_l1_eq (k m : Nat) : ∀ (n : Nat) (i18 : Int) (s19 : ByteArray) (c20 : Cell) (c21 : Cell) (c22 : Cell) (b23 : Bool), loopK (some [1, 4]) (spec_l12Rule_l1_B k m) (spec_l12Rule_l1_K k m) n ⟨fT 68 0 [(1, .loc 1 0), (4, .av (.one (Cell.int i18)))], fX 68 0 [(1, [Cell.str s19, c20, c21, c22, Cell.bool b23])], []⟩ = spec_l12Rule_l1 (k + 1) m n i18 s19 c20 c21 c22 b23 := by
  intro n
  induction n with
  | zero => intros; rfl
  | succ n ih =>
    intros
    simp only [spec_l12Rule_l1, ← ih]
    kernel_rfl
theorem spec_l12Rule_l0_eq (k m : Nat) : ∀ (n : Nat) (i6 : Int) (s7 : ByteArray) (c8 : Cell) (c9 : Cell) (c10 : Cell) (b11 : Bool), loopK (some [1, 3]) (spec_l12Rule_l0_B k m) (spec_l12Rule_l0_K k m) n ⟨fT 68 0 [(1, .loc 1 0), (3, .av (.one (Cell.int i6)))], fX 68 0 [(1, [Cell.str s7, c8, c9, c10, Cell.bool b11])], []⟩ = spec_l12Rule_l0 (k + 1) m n i6 s7 c8 c9 c10 b11 := by
  intro n
  induction n with
  | zero => intros; rfl
  | succ n ih =>
    intros
    simp only [spec_l12Rule_l0, ← spec_l12Rule_l1_eq k m, ← ih]
    kernel_rfl
theorem spec_l12Rule_code (k m : Nat) (s1 : ByteArray) (c2 : Cell) (c3 : Cell) (c4 : Cell) (b5 : Bool) : evC G_spec_l12Rule fi_spec_l12Rule (evF G_spec_l12Rule (k + 1)) m fi_spec_l12Rule.code none (retK G_spec_l12Rule fi_spec_l12Rule) (enter fi_spec_l12Rule [.agg [Cell.str s1, c2, c3, c4, Cell.bool b5]] []) = spec_l12Rule (k + 1) m s1 c2 c3 c4 b5 := by
  simp only [spec_l12Rule, ← spec_l12Rule_l0_eq k m]
  kernel_rfl
theorem spec_l12Rule_eq (k : Nat) (s1 : ByteArray) (c2 : Cell) (c3 : Cell) (c4 : Cell) (b5 : Bool) : evF G_spec_l12Rule (k + 2) fid_spec_l12Rule [.agg [Cell.str s1, c2, c3, c4, Cell.bool b5]] [] = spec_l12Rule (k + 1) (k + 1) s1 c2 c3 c4 b5 :=
  Eq.trans (by kernel_rfl) (spec_l12Rule_code k (k + 1) s1 c2 c3 c4 b5)
theorem run_spec_l12Rule_of {s1 : ByteArray} {c2 : Cell} {c3 : Cell} {c4 : Cell} {b5 : Bool} {r : Res} (k : Nat) (h : spec_l12Rule (k + 1) (k + 1) s1 c2 c3 c4 b5 = some r) : run_spec_l12Rule [.agg [Cell.str s1, c2, c3, c4, Cell.bool b5]] [] = some r := lim_of ((spec_l12Rule_eq k s1 c2 c3 c4 b5).trans h)
noncomputable def pl_spec_RulesOk : List (Nat × Run) := [(fid_spec_l12Rule, run_spec_l12Rule)]
noncomputable def G_spec_RulesOk : Ctx := ctx tyTab fiTab pl_spec_RulesOk
noncomputable def run_spec_RulesOk : Run := lim G_spec_RulesOk fid_spec_RulesOk
theorem ok_spec_RulesOk : FnOk Tryd.prog OkT fid_spec_RulesOk run_spec_RulesOk := lim_ok (l := pl_spec_RulesOk) Tryd_mix tyTab_ok fiTab_ok okT (.cons ok_spec_l12Rule .nil) fid_spec_RulesOk
noncomputable def spec_RulesOk_l0 (k m : Nat) : Nat → Cell → Int → Option Res
  | 0, _, _ => none
  | n + 1, c2, i3 =>
    (lenC c2).bind fun n4 =>
    cond (decide (i3 < (n4 : Int)))
    ((idxA 5 (c2) i3).bind fun c5 =>
    (deref [] (c5)).bind fun p6 =>
    (cS p6.1 p6.2).bind fun s7 =>
    (cC p6.1 (p6.2 + 1)).bind fun c8 =>
    (cC p6.1 ((p6.2 + 1) + 1)).bind fun c9 =>
    (cC p6.1 (((p6.2 + 1) + 1) + 1)).bind fun c10 =>
    (cB p6.1 ((((p6.2 + 1) + 1) + 1) + 1)).bind fun b11 =>
    (callS run_spec_l12Rule [.agg [Cell.str s7, c8, c9, c10, Cell.bool b11]] []).bind fun r12 =>
    cond (shapeOk rk_spec_l12Rule r12)
    ((cB (cellsAt r12 0) 0).bind fun b13 =>
    cond (!b13)
    (some ([.one (Cell.bool false)], []))
    (cond (decide (i3 > 0))
    ((idxA 5 (c2) (IntKind.i64.wrap (i3 - 1))).bind fun c14 =>
    (fldA c14 0).bind fun c15 =>
    (deref [] (c15)).bind fun p16 =>
    (cS p16.1 p16.2).bind fun s17 =>
    (idxA 5 (c2) i3).bind fun c18 =>
    (fldA c18 0).bind fun c19 =>
    (deref [] (c19)).bind fun p20 =>
    (cS p20.1 p20.2).bind fun s21 =>
    cond (!Op.bytesLess s17.toList s21.toList)
    (some ([.one (Cell.bool false)], []))
    (spec_RulesOk_l0 k m n (c2) (IntKind.i64.wrap (i3 + 1))))
    (spec_RulesOk_l0 k m n (c2) (IntKind.i64.wrap (i3 + 1)))))
    none)
    ((lenC c2).bind fun n22 =>
    some ([.one (Cell.bool (decide ((n22 : Int) ≤ 5)))], []))
noncomputable def spec_RulesOk (k m : Nat) (c1 : Cell) : Option Res :=
  spec_RulesOk_l0 k m m (c1) 0
noncomputable abbrev spec_RulesOk_l0_B (k m : Nat) : (Ex → Fr → Option Res) → Fr → Option Res := evC G_spec_RulesOk fi_spec_RulesOk (evF G_spec_RulesOk (k + 1)) m (sub [1, 0, 1, 2, 3] fi_spec_RulesOk.code) none
noncomputable abbrev spec_RulesOk_l0_K (k m : Nat) : Ex → Fr → Option Res := blockK 0 (seqK (evC G_spec_RulesOk fi_spec_RulesOk (evF G_spec_RulesOk (k + 1)) m (sub [1, 1] fi_spec_RulesOk.code) none) (retK G_spec_RulesOk fi_spec_RulesOk))
theorem spec_RulesOk_l0_eq (k m : Nat) : ∀ (n : Nat) (c2 : Cell) (i3 : Int), loopK (some [0, 3]) (spec_RulesOk_l0_B k m) (spec_RulesOk_l0_K k m) n ⟨fT 37 0 [(0, .av (.one (c2))), (3, .av (.one (Cell.int i3)))], fX 37 0 [], []⟩ = spec_RulesOk_l0 (k + 1) m n c2 i3 := by
  intro n
  induction n with
  | zero => intros; rfl
  | succ n ih =>
    intros
    simp only [spec_RulesOk_l0, ← ih]
    kernel_rfl
theorem spec_RulesOk_code (k m : Nat) (c1 : Cell) : evC G_spec_RulesOk fi_spec_RulesOk (evF G_spec_RulesOk (k + 1)) m fi_spec_RulesOk.code none (retK G_spec_RulesOk fi_spec_RulesOk) (enter fi_spec_RulesOk [.one (c1)] []) = spec_RulesOk (k + 1) m c1 := by
  simp only [spec_RulesOk, ← spec_RulesOk_l0_eq k m]
  kernel_rfl
theorem spec_RulesOk_eq (k : Nat) (c1 : Cell) : evF G_spec_RulesOk (k + 2) fid_spec_RulesOk [.one (c1)] [] = spec_RulesOk (k + 1) (k + 1) c1 :=
  Eq.trans (by kernel_rfl) (spec_RulesOk_code k (k + 1) c1)
theorem run_spec_RulesOk_of {c1 : Cell} {r : Res} (k : Nat) (h : spec_RulesOk (k + 1) (k + 1) c1 = some r) : run_spec_RulesOk [.one (c1)] [] = some r := lim_of ((spec_RulesOk_eq k c1).trans h)
noncomputable def pl_laws_toStringS : List (Nat × Run) := []
noncomputable def G_laws_toStringS : Ctx := ctx tyTab fiTab pl_laws_toStringS
noncomputable def run_laws_toStringS : Run := lim G_laws_toStringS fid_laws_toStringS
theorem ok_laws_toStringS : FnOk Tryd.prog OkT fid_laws_toStringS run_laws_toStringS := lim_ok (l := pl_laws_toStringS) Tryd_mix tyTab_ok fiTab_ok okT .nil fid_laws_toStringS
noncomputable def laws_toStringS_l0 (k m : Nat) : Nat → Cell → Cell → Int → List Entry → Option Res
  | 0, _, _, _, _ => none
  | n + 1, c3, c4, i5, H6 =>
    (lenC c3).bind fun n7 =>
    cond (decide (i5 < (n7 : Int)))
    ((idxA 1 (c3) i5).bind fun c8 =>
    (deref H6 (c8)).bind fun p9 =>
    (cS p9.1 p9.2).bind fun s10 =>
    (idxA 1 (c4) i5).bind fun c11 =>
    (hStore H6 (c11) [Cell.str s10]).bind fun h12 =>
    laws_toStringS_l0 k m n (c3) (c4) (IntKind.i64.wrap (i5 + 1)) h12)
    (some ([.one (c4)], H6))
noncomputable def laws_toStringS (k m : Nat) (c1 : Cell) : Option Res :=
  (lenC c1).bind fun n2 =>
  if 0 ≤ (n2 : Int) ∧ (n2 : Int) ≤ (n2 : Int) ∧ (n2 : Int) * 16 ≤ bound ∧ (n2 : Int) ≤ bound then
  (laws_toStringS_l0 k m m (c1) ((.vs 0 1 0 (n2 : Int).toNat 0)) 0 [Entry.mk 1 (mkRows (n2 : Int).toNat [Cell.str (bs [])]) 0 false]) else none
noncomputable abbrev laws_toStringS_l0_B (k m : Nat) : (Ex → Fr → Option Res) → Fr → Option Res := evC G_laws_toStringS fi_laws_toStringS (evF G_laws_toStringS (k + 1)) m (sub [1, 1, 0, 1, 2, 3] fi_laws_toStringS.code) none
noncomputable abbrev laws_toStringS_l0_K (k m : Nat) : Ex → Fr → Option Res := blockK 0 (seqK (evC G_laws_toStringS fi_laws_toStringS (evF G_laws_toStringS (k + 1)) m (sub [1, 1, 1] fi_laws_toStringS.code) none) (retK G_laws_toStringS fi_laws_toStringS))
theorem laws_toStringS_l0_eq (k m : Nat) : ∀ (n : Nat) (c3 : Cell) (c4 : Cell) (i5 : Int) (H6 : List Entry), loopK (some [0, 3, 4]) (laws_toStringS_l0_B k m) (laws_toStringS_l0_K k m) n ⟨fT 22 0 [(0, .av (.one (c3))), (3, .av (.one (c4))), (4, .av (.one (Cell.int i5)))], fX 22 0 [], H6⟩ = laws_toStringS_l0 (k + 1) m n c3 c4 i5 H6 := by
  intro n
  induction n with
  | zero => intros; rfl
  | succ n ih =>
    intros
    simp only [laws_toStringS_l0, ← ih]
    kernel_rfl
theorem laws_toStringS_code (k m : Nat) (c1 : Cell) : evC G_laws_toStringS fi_laws_toStringS (evF G_laws_toStringS (k + 1)) m fi_laws_toStringS.code none (retK G_laws_toStringS fi_laws_toStringS) (enter fi_laws_toStringS [.one (c1)] []) = laws_toStringS (k + 1) m c1 := by
  simp only [laws_toStringS, ← laws_toStringS_l0_eq k m]
  kernel_rfl
theorem laws_toStringS_eq (k : Nat) (c1 : Cell) : evF G_laws_toStringS (k + 2) fid_laws_toStringS [.one (c1)] [] = laws_toStringS (k + 1) (k + 1) c1 :=
  Eq.trans (by kernel_rfl) (laws_toStringS_code k (k + 1) c1)
theorem run_laws_toStringS_of {c1 : Cell} {r : Res} (k : Nat) (h : laws_toStringS (k + 1) (k + 1) c1 = some r) : run_laws_toStringS [.one (c1)] [] = some r := lim_of ((laws_toStringS_eq k c1).trans h)
noncomputable def pl_laws_toRule : List (Nat × Run) := [(fid_laws_toStringS, run_laws_toStringS)]
noncomputable def G_laws_toRule : Ctx := ctx tyTab fiTab pl_laws_toRule
noncomputable def run_laws_toRule : Run := lim G_laws_toRule fid_laws_toRule
theorem ok_laws_toRule : FnOk Tryd.prog OkT fid_laws_toRule run_laws_toRule := lim_ok (l := pl_laws_toRule) Tryd_mix tyTab_ok fiTab_ok okT (.cons ok_laws_toStringS .nil) fid_laws_toRule
noncomputable def laws_toRule (k m : Nat) (s1 : ByteArray) (c2 : Cell) (c3 : Cell) (c4 : Cell) (b5 : Bool) : Option Res :=
  (callL run_laws_toStringS [.one (c2)] []).bind fun r6 =>
  cond (shapeOk rk_laws_toStringS r6.1)
  ((cC (cellsAt r6.1 0) 0).bind fun c7 =>
  (callL run_laws_toStringS [.one (c3)] r6.2).bind fun r8 =>
  cond (shapeOk rk_laws_toStringS r8.1)
  ((cC (cellsAt r8.1 0) 0).bind fun c9 =>
  (callL run_laws_toStringS [.one (c4)] r8.2).bind fun r10 =>
  cond (shapeOk rk_laws_toStringS r10.1)
  ((cC (cellsAt r10.1 0) 0).bind fun c11 =>
  some ([.agg [Cell.str s1, c7, c9, c11, Cell.bool b5]], r10.2))
  none)
  none)
  none
theorem laws_toRule_code (k m : Nat) (s1 : ByteArray) (c2 : Cell) (c3 : Cell) (c4 : Cell) (b5 : Bool) : evC G_laws_toRule fi_laws_toRule (evF G_laws_toRule (k + 1)) m fi_laws_toRule.code none (retK G_laws_toRule fi_laws_toRule) (enter fi_laws_toRule [.agg [Cell.str s1, c2, c3, c4, Cell.bool b5]] []) = laws_toRule (k + 1) m s1 c2 c3 c4 b5 := by
  kernel_rfl
theorem laws_toRule_eq (k : Nat) (s1 : ByteArray) (c2 : Cell) (c3 : Cell) (c4 : Cell) (b5 : Bool) : evF G_laws_toRule (k + 2) fid_laws_toRule [.agg [Cell.str s1, c2, c3, c4, Cell.bool b5]] [] = laws_toRule (k + 1) (k + 1) s1 c2 c3 c4 b5 :=
  Eq.trans (by kernel_rfl) (laws_toRule_code k (k + 1) s1 c2 c3 c4 b5)
theorem run_laws_toRule_of {s1 : ByteArray} {c2 : Cell} {c3 : Cell} {c4 : Cell} {b5 : Bool} {r : Res} (k : Nat) (h : laws_toRule (k + 1) (k + 1) s1 c2 c3 c4 b5 = some r) : run_laws_toRule [.agg [Cell.str s1, c2, c3, c4, Cell.bool b5]] [] = some r := lim_of ((laws_toRule_eq k s1 c2 c3 c4 b5).trans h)
noncomputable def pl_laws_toRuleS : List (Nat × Run) := [(fid_laws_toRule, run_laws_toRule)]
noncomputable def G_laws_toRuleS : Ctx := ctx tyTab fiTab pl_laws_toRuleS
noncomputable def run_laws_toRuleS : Run := lim G_laws_toRuleS fid_laws_toRuleS
theorem ok_laws_toRuleS : FnOk Tryd.prog OkT fid_laws_toRuleS run_laws_toRuleS := lim_ok (l := pl_laws_toRuleS) Tryd_mix tyTab_ok fiTab_ok okT (.cons ok_laws_toRule .nil) fid_laws_toRuleS
noncomputable def laws_toRuleS_l0 (k m : Nat) : Nat → Cell → Cell → Int → List Entry → Option Res
  | 0, _, _, _, _ => none
  | n + 1, c3, c4, i5, H6 =>
    (lenC c3).bind fun n7 =>
    cond (decide (i5 < (n7 : Int)))
    ((idxA 5 (c3) i5).bind fun c8 =>
    (deref H6 (c8)).bind fun p9 =>
    (cS p9.1 p9.2).bind fun s10 =>
    (cC p9.1 (p9.2 + 1)).bind fun c11 =>
    (cC p9.1 ((p9.2 + 1) + 1)).bind fun c12 =>
    (cC p9.1 (((p9.2 + 1) + 1) + 1)).bind fun c13 =>
    (cB p9.1 ((((p9.2 + 1) + 1) + 1) + 1)).bind fun b14 =>
    (callL run_laws_toRule [.agg [Cell.str s10, c11, c12, c13, Cell.bool b14]] H6).bind fun r15 =>
    cond (shapeOk rk_laws_toRule r15.1)
    ((cS (cellsAt r15.1 0) 0).bind fun s16 =>
    (cC (cellsAt r15.1 0) 1).bind fun c17 =>
    (cC (cellsAt r15.1 0) 2).bind fun c18 =>
    (cC (cellsAt r15.1 0) 3).bind fun c19 =>
    (cB (cellsAt r15.1 0) 4).bind fun b20 =>
    (idxA 5 (c4) i5).bind fun c21 =>
    (hStore r15.2 (c21) [Cell.str s16, c17, c18, c19, Cell.bool b20]).bind fun h22 =>
    laws_toRuleS_l0 k m n (c3) (c4) (IntKind.i64.wrap (i5 + 1)) h22)
    none)
    (some ([.one (c4)], H6))
noncomputable def laws_toRuleS (k m : Nat) (c1 : Cell) : Option Res :=
  (lenC c1).bind fun n2 =>
  if 0 ≤ (n2 : Int) ∧ (n2 : Int) ≤ (n2 : Int) ∧ (n2 : Int) * 96 ≤ bound ∧ (n2 : Int) ≤ bound then
  (laws_toRuleS_l0 k m m (c1) ((.vs 0 5 0 (n2 : Int).toNat 0)) 0 [Entry.mk 5 (mkRows (n2 : Int).toNat [Cell.str (bs []), .lst true 1 [], .lst true 1 [], .lst true 1 [], Cell.bool false]) 0 false]) else none
noncomputable abbrev laws_toRuleS_l0_B (k m : Nat) : (Ex → Fr → Option Res) → Fr → Option Res := evC G_laws_toRuleS fi_laws_toRuleS (evF G_laws_toRuleS (k + 1)) m (sub [1, 1, 0, 1, 2, 3] fi_laws_toRuleS.code) none
noncomputable abbrev laws_toRuleS_l0_K (k m : Nat) : Ex → Fr → Option Res := blockK 0 (seqK (evC G_laws_toRuleS fi_laws_toRuleS (evF G_laws_toRuleS (k + 1)) m (sub [1, 1, 1] fi_laws_toRuleS.code) none) (retK G_laws_toRuleS fi_laws_toRuleS))
theorem laws_toRuleS_l0_eq (k m : Nat) : ∀ (n : Nat) (c3 : Cell) (c4 : Cell) (i5 : Int) (H6 : List Entry), loopK (some [0, 3, 4]) (laws_toRuleS_l0_B k m) (laws_toRuleS_l0_K k m) n ⟨fT 23 0 [(0, .av (.one (c3))), (3, .av (.one (c4))), (4, .av (.one (Cell.int i5)))], fX 23 0 [], H6⟩ = laws_toRuleS_l0 (k + 1) m n c3 c4 i5 H6 := by
  intro n
  induction n with
  | zero => intros; rfl
  | succ n ih =>
    intros
    simp only [laws_toRuleS_l0, ← ih]
    kernel_rfl
theorem laws_toRuleS_code (k m : Nat) (c1 : Cell) : evC G_laws_toRuleS fi_laws_toRuleS (evF G_laws_toRuleS (k + 1)) m fi_laws_toRuleS.code none (retK G_laws_toRuleS fi_laws_toRuleS) (enter fi_laws_toRuleS [.one (c1)] []) = laws_toRuleS (k + 1) m c1 := by
  simp only [laws_toRuleS, ← laws_toRuleS_l0_eq k m]
  kernel_rfl
theorem laws_toRuleS_eq (k : Nat) (c1 : Cell) : evF G_laws_toRuleS (k + 2) fid_laws_toRuleS [.one (c1)] [] = laws_toRuleS (k + 1) (k + 1) c1 :=
  Eq.trans (by kernel_rfl) (laws_toRuleS_code k (k + 1) c1)
theorem run_laws_toRuleS_of {c1 : Cell} {r : Res} (k : Nat) (h : laws_toRuleS (k + 1) (k + 1) c1 = some r) : run_laws_toRuleS [.one (c1)] [] = some r := lim_of ((laws_toRuleS_eq k c1).trans h)
noncomputable def pl_impl_inRange : List (Nat × Run) := []
noncomputable def G_impl_inRange : Ctx := ctx tyTab fiTab pl_impl_inRange
noncomputable def run_impl_inRange : Run := lim G_impl_inRange fid_impl_inRange
theorem ok_impl_inRange : FnOk Tryd.prog OkT fid_impl_inRange run_impl_inRange := lim_ok (l := pl_impl_inRange) Tryd_mix tyTab_ok fiTab_ok okT .nil fid_impl_inRange
noncomputable def impl_inRange (k m : Nat) (i1 : Int) (i2 : Int) (i3 : Int) : Option Res :=
  cond (decide (i1 ≥ i2))
  (some ([.one (Cell.bool (decide (i1 ≤ i3)))], []))
  (some ([.one (Cell.bool false)], []))
theorem impl_inRange_code (k m : Nat) (i1 : Int) (i2 : Int) (i3 : Int) : evC G_impl_inRange fi_impl_inRange (evF G_impl_inRange (k + 1)) m fi_impl_inRange.code none (retK G_impl_inRange fi_impl_inRange) (enter fi_impl_inRange [.one (Cell.int i1), .one (Cell.int i2), .one (Cell.int i3)] []) = impl_inRange (k + 1) m i1 i2 i3 := by
  kernel_rfl
theorem impl_inRange_eq (k : Nat) (i1 : Int) (i2 : Int) (i3 : Int) : evF G_impl_inRange (k + 2) fid_impl_inRange [.one (Cell.int i1), .one (Cell.int i2), .one (Cell.int i3)] [] = impl_inRange (k + 1) (k + 1) i1 i2 i3 :=
  Eq.trans (by kernel_rfl) (impl_inRange_code k (k + 1) i1 i2 i3)
theorem run_impl_inRange_of {i1 : Int} {i2 : Int} {i3 : Int} {r : Res} (k : Nat) (h : impl_inRange (k + 1) (k + 1) i1 i2 i3 = some r) : run_impl_inRange [.one (Cell.int i1), .one (Cell.int i2), .one (Cell.int i3)] [] = some r := lim_of ((impl_inRange_eq k i1 i2 i3).trans h)
end Go.Ev
