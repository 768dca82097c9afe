/- What the evaluator says of the functions, each as a Lean function over cells. Printed by a program of this claim. Conditions: none. -/
import Derived.Test.YtholafaogipaiaaDoorEvPr
import Derived.KernelRfl
namespace Go.Ev
open Go Go.Proofs
set_option maxRecDepth 100000
set_option linter.unusedVariables false
set_option linter.unusedSimpArgs false
noncomputable def pl_spec_Split : List (Nat × Run) := []
noncomputable def G_spec_Split : Ctx := ctx tyTab fiTab pl_spec_Split
noncomputable def run_spec_Split : Run := lim G_spec_Split fid_spec_Split
theorem ok_spec_Split : FnOk Tryd.prog OkT fid_spec_Split run_spec_Split := lim_ok (l := pl_spec_Split) Tryd_mix tyTab_ok fiTab_ok okT .nil fid_spec_Split
noncomputable def spec_Split_l0 (k m : Nat) : Nat → ByteArray → Int → Cell → Int → Int → List Entry → Option Res
  | 0, _, _, _, _, _, _ => none
  | n + 1, s3, i4, c5, i6, i7, H8 =>
    cond (decide (i7 ≤ (s3.size : Int)))
    (cond (i7 == (s3.size : Int))
    ((subS s3 i6 i7).bind fun s9 =>
    (app H8 1 16 (c5) [[Cell.str s9]]).bind fun p10 =>
    spec_Split_l0 k m n s3 i4 (p10.1) (IntKind.i64.wrap (i7 + 1)) (IntKind.i64.wrap (i7 + 1)) p10.2)
    ((bytS s3 i7).bind fun i11 =>
    cond (i11 == i4)
    ((subS s3 i6 i7).bind fun s12 =>
    (app H8 1 16 (c5) [[Cell.str s12]]).bind fun p13 =>
    spec_Split_l0 k m n s3 i4 (p13.1) (IntKind.i64.wrap (i7 + 1)) (IntKind.i64.wrap (i7 + 1)) p13.2)
    (spec_Split_l0 k m n s3 i4 (c5) i6 (IntKind.i64.wrap (i7 + 1)) H8)))
    (some ([.one (c5)], H8))
noncomputable def spec_Split (k m : Nat) (s1 : ByteArray) (i2 : Int) : Option Res :=
  spec_Split_l0 k m m s1 i2 (.lst true 1 []) 0 0 []
noncomputable abbrev spec_Split_l0_B (k m : Nat) : (Ex → Fr → Option Res) → Fr → Option Res := evC G_spec_Split fi_spec_Split (evF G_spec_Split (k + 1)) m (sub [1, 1, 1, 0, 1, 2, 3] fi_spec_Split.code) none
noncomputable abbrev spec_Split_l0_K (k m : Nat) : Ex → Fr → Option Res := blockK 0 (seqK (evC G_spec_Split fi_spec_Split (evF G_spec_Split (k + 1)) m (sub [1, 1, 1, 1] fi_spec_Split.code) none) (retK G_spec_Split fi_spec_Split))
theorem spec_Split_l0_eq (k m : Nat) : ∀ (n : Nat) (s3 : ByteArray) (i4 : Int) (c5 : Cell) (i6 : Int) (i7 : Int) (H8 : List Entry), loopK (some [0, 1, 5, 6, 7]) (spec_Split_l0_B k m) (spec_Split_l0_K k m) n ⟨fT 36 0 [(0, .av (.one (Cell.str s3))), (1, .av (.one (.sc (.int .u8 i4)))), (5, .av (.one (c5))), (6, .av (.one (Cell.int i6))), (7, .av (.one (Cell.int i7)))], fX 36 0 [], H8⟩ = spec_Split_l0 (k + 1) m n s3 i4 c5 i6 i7 H8 := by
  intro n
  induction n with
  | zero => intros; rfl
  | succ n ih =>
    intros
    simp only [spec_Split_l0, ← ih]
    kernel_rfl
theorem spec_Split_code (k m : Nat) (s1 : ByteArray) (i2 : Int) : evC G_spec_Split fi_spec_Split (evF G_spec_Split (k + 1)) m fi_spec_Split.code none (retK G_spec_Split fi_spec_Split) (enter fi_spec_Split [.one (Cell.str s1), .one (.sc (.int .u8 i2))] []) = spec_Split (k + 1) m s1 i2 := by
  simp only [spec_Split, ← spec_Split_l0_eq k m]
  kernel_rfl
theorem spec_Split_eq (k : Nat) (s1 : ByteArray) (i2 : Int) : evF G_spec_Split (k + 2) fid_spec_Split [.one (Cell.str s1), .one (.sc (.int .u8 i2))] [] = spec_Split (k + 1) (k + 1) s1 i2 :=
  Eq.trans (by kernel_rfl) (spec_Split_code k (k + 1) s1 i2)
theorem run_spec_Split_of {s1 : ByteArray} {i2 : Int} {r : Res} (k : Nat) (h : spec_Split (k + 1) (k + 1) s1 i2 = some r) : run_spec_Split [.one (Cell.str s1), .one (.sc (.int .u8 i2))] [] = some r := lim_of ((spec_Split_eq k s1 i2).trans h)
noncomputable def pl_spec_l1In : List (Nat × Run) := []
noncomputable def G_spec_l1In : Ctx := ctx tyTab fiTab pl_spec_l1In
noncomputable def run_spec_l1In : Run := lim G_spec_l1In fid_spec_l1In
theorem ok_spec_l1In : FnOk Tryd.prog OkT fid_spec_l1In run_spec_l1In := lim_ok (l := pl_spec_l1In) Tryd_mix tyTab_ok fiTab_ok okT .nil fid_spec_l1In
noncomputable def spec_l1In (k m : Nat) (i1 : Int) (i2 : Int) (i3 : Int) : Option Res :=
  cond (decide (i1 ≥ i2))
  (some ([.one (Cell.bool (decide (i1 ≤ i3)))], []))
  (some ([.one (Cell.bool false)], []))
theorem spec_l1In_code (k m : Nat) (i1 : Int) (i2 : Int) (i3 : Int) : evC G_spec_l1In fi_spec_l1In (evF G_spec_l1In (k + 1)) m fi_spec_l1In.code none (retK G_spec_l1In fi_spec_l1In) (enter fi_spec_l1In [.one (Cell.int i1), .one (Cell.int i2), .one (Cell.int i3)] []) = spec_l1In (k + 1) m i1 i2 i3 := by
  kernel_rfl
theorem spec_l1In_eq (k : Nat) (i1 : Int) (i2 : Int) (i3 : Int) : evF G_spec_l1In (k + 2) fid_spec_l1In [.one (Cell.int i1), .one (Cell.int i2), .one (Cell.int i3)] [] = spec_l1In (k + 1) (k + 1) i1 i2 i3 :=
  Eq.trans (by kernel_rfl) (spec_l1In_code k (k + 1) i1 i2 i3)
theorem run_spec_l1In_of {i1 : Int} {i2 : Int} {i3 : Int} {r : Res} (k : Nat) (h : spec_l1In (k + 1) (k + 1) i1 i2 i3 = some r) : run_spec_l1In [.one (Cell.int i1), .one (Cell.int i2), .one (Cell.int i3)] [] = some r := lim_of ((spec_l1In_eq k i1 i2 i3).trans h)
noncomputable def pl_spec_l1Digit : List (Nat × Run) := [(fid_spec_l1In, run_spec_l1In)]
noncomputable def G_spec_l1Digit : Ctx := ctx tyTab fiTab pl_spec_l1Digit
noncomputable def run_spec_l1Digit : Run := lim G_spec_l1Digit fid_spec_l1Digit
theorem ok_spec_l1Digit : FnOk Tryd.prog OkT fid_spec_l1Digit run_spec_l1Digit := lim_ok (l := pl_spec_l1Digit) Tryd_mix tyTab_ok fiTab_ok okT (.cons ok_spec_l1In .nil) fid_spec_l1Digit
noncomputable def spec_l1Digit (k m : Nat) (i1 : Int) : Option Res :=
  (callS run_spec_l1In [.one (Cell.int (IntKind.i64.wrap i1)), .one (Cell.int 48), .one (Cell.int 57)] []).bind fun r2 =>
  cond (shapeOk rk_spec_l1In r2)
  ((cB (cellsAt r2 0) 0).bind fun b3 =>
  some ([.one (Cell.bool b3)], []))
  none
theorem spec_l1Digit_code (k m : Nat) (i1 : Int) : evC G_spec_l1Digit fi_spec_l1Digit (evF G_spec_l1Digit (k + 1)) m fi_spec_l1Digit.code none (retK G_spec_l1Digit fi_spec_l1Digit) (enter fi_spec_l1Digit [.one (.sc (.int .u8 i1))] []) = spec_l1Digit (k + 1) m i1 := by
  kernel_rfl
theorem spec_l1Digit_eq (k : Nat) (i1 : Int) : evF G_spec_l1Digit (k + 2) fid_spec_l1Digit [.one (.sc (.int .u8 i1))] [] = spec_l1Digit (k + 1) (k + 1) i1 :=
  Eq.trans (by kernel_rfl) (spec_l1Digit_code k (k + 1) i1)
theorem run_spec_l1Digit_of {i1 : Int} {r : Res} (k : Nat) (h : spec_l1Digit (k + 1) (k + 1) i1 = some r) : run_spec_l1Digit [.one (.sc (.int .u8 i1))] [] = some r := lim_of ((spec_l1Digit_eq k i1).trans h)
noncomputable def pl_spec_ParseNum : List (Nat × Run) := [(fid_spec_l1Digit, run_spec_l1Digit), (fid_spec_l1In, run_spec_l1In)]
noncomputable def G_spec_ParseNum : Ctx := ctx tyTab fiTab pl_spec_ParseNum
noncomputable def run_spec_ParseNum : Run := lim G_spec_ParseNum fid_spec_ParseNum
theorem ok_spec_ParseNum : FnOk Tryd.prog OkT fid_spec_ParseNum run_spec_ParseNum := lim_ok (l := pl_spec_ParseNum) Tryd_mix tyTab_ok fiTab_ok okT (.cons ok_spec_l1Digit (.cons ok_spec_l1In .nil)) fid_spec_ParseNum
noncomputable def spec_ParseNum_l0 (k m : Nat) : Nat → ByteArray → Int → Int → Int → Option Res
  | 0, _, _, _, _ => none
  | n + 1, s3, i4, i5, i6 =>
    cond (decide (i6 < (s3.size : Int)))
    (cond (decide (i6 < 8))
    ((bytS s3 i6).bind fun i7 =>
    (callS run_spec_l1Digit [.one (.sc (.int .u8 i7))] []).bind fun r8 =>
    cond (shapeOk rk_spec_l1Digit r8)
    ((cB (cellsAt r8 0) 0).bind fun b9 =>
    cond (!b9)
    (some ([.one (Cell.int 0), .one (Cell.bool false)], []))
    ((bytS s3 i6).bind fun i10 =>
    spec_ParseNum_l0 k m n s3 i4 (IntKind.i64.wrap ((IntKind.i64.wrap (i5 * 10)) + (IntKind.i64.wrap (IntKind.u8.wrap (i10 - 48))))) (IntKind.i64.wrap (i6 + 1))))
    none)
    ((callS run_spec_l1In [.one (Cell.int (s3.size : Int)), .one (Cell.int 1), .one (Cell.int 7)] []).bind fun r11 =>
    cond (shapeOk rk_spec_l1In r11)
    ((cB (cellsAt r11 0) 0).bind fun b12 =>
    cond (!b12)
    (some ([.one (Cell.int 0), .one (Cell.bool false)], []))
    (cond (decide ((s3.size : Int) > 1))
    ((bytS s3 0).bind fun i13 =>
    cond (i13 == 48)
    (some ([.one (Cell.int 0), .one (Cell.bool false)], []))
    (cond (decide (i5 > i4))
    (some ([.one (Cell.int 0), .one (Cell.bool false)], []))
    (some ([.one (Cell.int i5), .one (Cell.bool true)], []))))
    (cond (decide (i5 > i4))
    (some ([.one (Cell.int 0), .one (Cell.bool false)], []))
    (some ([.one (Cell.int i5), .one (Cell.bool true)], [])))))
    none))
    ((callS run_spec_l1In [.one (Cell.int (s3.size : Int)), .one (Cell.int 1), .one (Cell.int 7)] []).bind fun r14 =>
    cond (shapeOk rk_spec_l1In r14)
    ((cB (cellsAt r14 0) 0).bind fun b15 =>
    cond (!b15)
    (some ([.one (Cell.int 0), .one (Cell.bool false)], []))
    (cond (decide ((s3.size : Int) > 1))
    ((bytS s3 0).bind fun i16 =>
    cond (i16 == 48)
    (some ([.one (Cell.int 0), .one (Cell.bool false)], []))
    (cond (decide (i5 > i4))
    (some ([.one (Cell.int 0), .one (Cell.bool false)], []))
    (some ([.one (Cell.int i5), .one (Cell.bool true)], []))))
    (cond (decide (i5 > i4))
    (some ([.one (Cell.int 0), .one (Cell.bool false)], []))
    (some ([.one (Cell.int i5), .one (Cell.bool true)], [])))))
    none)
noncomputable def spec_ParseNum (k m : Nat) (s1 : ByteArray) (i2 : Int) : Option Res :=
  spec_ParseNum_l0 k m m s1 i2 0 0
noncomputable abbrev spec_ParseNum_l0_B (k m : Nat) : (Ex → Fr → Option Res) → Fr → Option Res := evC G_spec_ParseNum fi_spec_ParseNum (evF G_spec_ParseNum (k + 1)) m (sub [1, 1, 0, 1, 2, 3] fi_spec_ParseNum.code) none
noncomputable abbrev spec_ParseNum_l0_K (k m : Nat) : Ex → Fr → Option Res := blockK 0 (seqK (evC G_spec_ParseNum fi_spec_ParseNum (evF G_spec_ParseNum (k + 1)) m (sub [1, 1, 1] fi_spec_ParseNum.code) none) (retK G_spec_ParseNum fi_spec_ParseNum))
theorem spec_ParseNum_l0_eq (k m : Nat) : ∀ (n : Nat) (s3 : ByteArray) (i4 : Int) (i5 : Int) (i6 : Int), loopK (some [0, 1, 6, 7]) (spec_ParseNum_l0_B k m) (spec_ParseNum_l0_K k m) n ⟨fT 51 0 [(0, .av (.one (Cell.str s3))), (1, .av (.one (Cell.int i4))), (6, .av (.one (Cell.int i5))), (7, .av (.one (Cell.int i6)))], fX 51 0 [], []⟩ = spec_ParseNum_l0 (k + 1) m n s3 i4 i5 i6 := by
  intro n
  induction n with
  | zero => intros; rfl
  | succ n ih =>
    intros
    simp only [spec_ParseNum_l0, ← ih]
    kernel_rfl
theorem spec_ParseNum_code (k m : Nat) (s1 : ByteArray) (i2 : Int) : evC G_spec_ParseNum fi_spec_ParseNum (evF G_spec_ParseNum (k + 1)) m fi_spec_ParseNum.code none (retK G_spec_ParseNum fi_spec_ParseNum) (enter fi_spec_ParseNum [.one (Cell.str s1), .one (Cell.int i2)] []) = spec_ParseNum (k + 1) m s1 i2 := by
  simp only [spec_ParseNum, ← spec_ParseNum_l0_eq k m]
  kernel_rfl
theorem spec_ParseNum_eq (k : Nat) (s1 : ByteArray) (i2 : Int) : evF G_spec_ParseNum (k + 2) fid_spec_ParseNum [.one (Cell.str s1), .one (Cell.int i2)] [] = spec_ParseNum (k + 1) (k + 1) s1 i2 :=
  Eq.trans (by kernel_rfl) (spec_ParseNum_code k (k + 1) s1 i2)
theorem run_spec_ParseNum_of {s1 : ByteArray} {i2 : Int} {r : Res} (k : Nat) (h : spec_ParseNum (k + 1) (k + 1) s1 i2 = some r) : run_spec_ParseNum [.one (Cell.str s1), .one (Cell.int i2)] [] = some r := lim_of ((spec_ParseNum_eq k s1 i2).trans h)
noncomputable def pl_spec_l1Small : List (Nat × Run) := [(fid_spec_l1In, run_spec_l1In)]
noncomputable def G_spec_l1Small : Ctx := ctx tyTab fiTab pl_spec_l1Small
noncomputable def run_spec_l1Small : Run := lim G_spec_l1Small fid_spec_l1Small
theorem ok_spec_l1Small : FnOk Tryd.prog OkT fid_spec_l1Small run_spec_l1Small := lim_ok (l := pl_spec_l1Small) Tryd_mix tyTab_ok fiTab_ok okT (.cons ok_spec_l1In .nil) fid_spec_l1Small
noncomputable def spec_l1Small (k m : Nat) (i1 : Int) : Option Res :=
  (callS run_spec_l1In [.one (Cell.int (IntKind.i64.wrap i1)), .one (Cell.int 97), .one (Cell.int 122)] []).bind fun r2 =>
  cond (shapeOk rk_spec_l1In r2)
  ((cB (cellsAt r2 0) 0).bind fun b3 =>
  some ([.one (Cell.bool b3)], []))
  none
theorem spec_l1Small_code (k m : Nat) (i1 : Int) : evC G_spec_l1Small fi_spec_l1Small (evF G_spec_l1Small (k + 1)) m fi_spec_l1Small.code none (retK G_spec_l1Small fi_spec_l1Small) (enter fi_spec_l1Small [.one (.sc (.int .u8 i1))] []) = spec_l1Small (k + 1) m i1 := by
  kernel_rfl
theorem spec_l1Small_eq (k : Nat) (i1 : Int) : evF G_spec_l1Small (k + 2) fid_spec_l1Small [.one (.sc (.int .u8 i1))] [] = spec_l1Small (k + 1) (k + 1) i1 :=
  Eq.trans (by kernel_rfl) (spec_l1Small_code k (k + 1) i1)
theorem run_spec_l1Small_of {i1 : Int} {r : Res} (k : Nat) (h : spec_l1Small (k + 1) (k + 1) i1 = some r) : run_spec_l1Small [.one (.sc (.int .u8 i1))] [] = some r := lim_of ((spec_l1Small_eq k i1).trans h)
noncomputable def pl_spec_l3Digits : List (Nat × Run) := [(fid_spec_l1Digit, run_spec_l1Digit)]
noncomputable def G_spec_l3Digits : Ctx := ctx tyTab fiTab pl_spec_l3Digits
noncomputable def run_spec_l3Digits : Run := lim G_spec_l3Digits fid_spec_l3Digits
theorem ok_spec_l3Digits : FnOk Tryd.prog OkT fid_spec_l3Digits run_spec_l3Digits := lim_ok (l := pl_spec_l3Digits) Tryd_mix tyTab_ok fiTab_ok okT (.cons ok_spec_l1Digit .nil) fid_spec_l3Digits
noncomputable def spec_l3Digits_l0 (k m : Nat) : Nat → ByteArray → Int → Option Res
  | 0, _, _ => none
  | n + 1, s2, i3 =>
    cond (decide (i3 < (s2.size : Int)))
    ((bytS s2 i3).bind fun i4 =>
    (callS run_spec_l1Digit [.one (.sc (.int .u8 i4))] []).bind fun r5 =>
    cond (shapeOk rk_spec_l1Digit r5)
    ((cB (cellsAt r5 0) 0).bind fun b6 =>
    cond (!b6)
    (some ([.one (Cell.bool false)], []))
    (spec_l3Digits_l0 k m n s2 (IntKind.i64.wrap (i3 + 1))))
    none)
    (some ([.one (Cell.bool true)], []))
noncomputable def spec_l3Digits (k m : Nat) (s1 : ByteArray) : Option Res :=
  spec_l3Digits_l0 k m m s1 0
noncomputable abbrev spec_l3Digits_l0_B (k m : Nat) : (Ex → Fr → Option Res) → Fr → Option Res := evC G_spec_l3Digits fi_spec_l3Digits (evF G_spec_l3Digits (k + 1)) m (sub [1, 0, 1, 2, 3] fi_spec_l3Digits.code) none
noncomputable abbrev spec_l3Digits_l0_K (k m : Nat) : Ex → Fr → Option Res := blockK 0 (seqK (evC G_spec_l3Digits fi_spec_l3Digits (evF G_spec_l3Digits (k + 1)) m (sub [1, 1] fi_spec_l3Digits.code) none) (retK G_spec_l3Digits fi_spec_l3Digits))
theorem spec_l3Digits_l0_eq (k m : Nat) : ∀ (n : Nat) (s2 : ByteArray) (i3 : Int), loopK (some [0, 3]) (spec_l3Digits_l0_B k m) (spec_l3Digits_l0_K k m) n ⟨fT 15 0 [(0, .av (.one (Cell.str s2))), (3, .av (.one (Cell.int i3)))], fX 15 0 [], []⟩ = spec_l3Digits_l0 (k + 1) m n s2 i3 := by
  intro n
  induction n with
  | zero => intros; rfl
  | succ n ih =>
    intros
    simp only [spec_l3Digits_l0, ← ih]
    kernel_rfl
theorem spec_l3Digits_code (k m : Nat) (s1 : ByteArray) : evC G_spec_l3Digits fi_spec_l3Digits (evF G_spec_l3Digits (k + 1)) m fi_spec_l3Digits.code none (retK G_spec_l3Digits fi_spec_l3Digits) (enter fi_spec_l3Digits [.one (Cell.str s1)] []) = spec_l3Digits (k + 1) m s1 := by
  simp only [spec_l3Digits, ← spec_l3Digits_l0_eq k m]
  kernel_rfl
theorem spec_l3Digits_eq (k : Nat) (s1 : ByteArray) : evF G_spec_l3Digits (k + 2) fid_spec_l3Digits [.one (Cell.str s1)] [] = spec_l3Digits (k + 1) (k + 1) s1 :=
  Eq.trans (by kernel_rfl) (spec_l3Digits_code k (k + 1) s1)
theorem run_spec_l3Digits_of {s1 : ByteArray} {r : Res} (k : Nat) (h : spec_l3Digits (k + 1) (k + 1) s1 = some r) : run_spec_l3Digits [.one (Cell.str s1)] [] = some r := lim_of ((spec_l3Digits_eq k s1).trans h)
noncomputable def pl_spec_l3Part : List (Nat × Run) := [(fid_spec_l1Digit, run_spec_l1Digit), (fid_spec_l1In, run_spec_l1In), (fid_spec_l1Small, run_spec_l1Small), (fid_spec_l3Digits, run_spec_l3Digits)]
noncomputable def G_spec_l3Part : Ctx := ctx tyTab fiTab pl_spec_l3Part
noncomputable def run_spec_l3Part : Run := lim G_spec_l3Part fid_spec_l3Part
theorem ok_spec_l3Part : FnOk Tryd.prog OkT fid_spec_l3Part run_spec_l3Part := lim_ok (l := pl_spec_l3Part) Tryd_mix tyTab_ok fiTab_ok okT (.cons ok_spec_l1Digit (.cons ok_spec_l1In (.cons ok_spec_l1Small (.cons ok_spec_l3Digits .nil)))) fid_spec_l3Part
noncomputable def spec_l3Part_l0 (k m : Nat) : Nat → ByteArray → Int → Option Res
  | 0, _, _ => none
  | n + 1, s2, i3 =>
    cond (decide (i3 < (s2.size : Int)))
    ((bytS s2 i3).bind fun i4 =>
    (callS run_spec_l1Digit [.one (.sc (.int .u8 i4))] []).bind fun r5 =>
    cond (shapeOk rk_spec_l1Digit r5)
    ((cB (cellsAt r5 0) 0).bind fun b6 =>
    cond (!b6)
    ((bytS s2 i3).bind fun i7 =>
    (callS run_spec_l1Small [.one (.sc (.int .u8 i7))] []).bind fun r8 =>
    cond (shapeOk rk_spec_l1Small r8)
    ((cB (cellsAt r8 0) 0).bind fun b9 =>
    cond (!b9)
    ((bytS s2 i3).bind fun i10 =>
    (callS run_spec_l1In [.one (Cell.int (IntKind.i64.wrap i10)), .one (Cell.int 65), .one (Cell.int 90)] []).bind fun r11 =>
    cond (shapeOk rk_spec_l1In r11)
    ((cB (cellsAt r11 0) 0).bind fun b12 =>
    cond (!b12)
    ((bytS s2 i3).bind fun i13 =>
    cond (i13 != 45)
    (some ([.one (Cell.bool false)], []))
    (spec_l3Part_l0 k m n s2 (IntKind.i64.wrap (i3 + 1))))
    (spec_l3Part_l0 k m n s2 (IntKind.i64.wrap (i3 + 1))))
    none)
    (spec_l3Part_l0 k m n s2 (IntKind.i64.wrap (i3 + 1))))
    none)
    (spec_l3Part_l0 k m n s2 (IntKind.i64.wrap (i3 + 1))))
    none)
    ((callS run_spec_l1In [.one (Cell.int (s2.size : Int)), .one (Cell.int 1), .one (Cell.int 8)] []).bind fun r14 =>
    cond (shapeOk rk_spec_l1In r14)
    ((cB (cellsAt r14 0) 0).bind fun b15 =>
    cond b15
    ((callS run_spec_l3Digits [.one (Cell.str s2)] []).bind fun r16 =>
    cond (shapeOk rk_spec_l3Digits r16)
    ((cB (cellsAt r16 0) 0).bind fun b17 =>
    cond (!b17)
    (some ([.one (Cell.bool true)], []))
    (cond ((s2.size : Int) == 1)
    (some ([.one (Cell.bool true)], []))
    ((bytS s2 0).bind fun i18 =>
    some ([.one (Cell.bool (i18 != 48))], []))))
    none)
    (some ([.one (Cell.bool false)], [])))
    none)
noncomputable def spec_l3Part (k m : Nat) (s1 : ByteArray) : Option Res :=
  spec_l3Part_l0 k m m s1 0
noncomputable abbrev spec_l3Part_l0_B (k m : Nat) : (Ex → Fr → Option Res) → Fr → Option Res := evC G_spec_l3Part fi_spec_l3Part (evF G_spec_l3Part (k + 1)) m (sub [1, 0, 1, 2, 3] fi_spec_l3Part.code) none
noncomputable abbrev spec_l3Part_l0_K (k m : Nat) : Ex → Fr → Option Res := blockK 0 (seqK (evC G_spec_l3Part fi_spec_l3Part (evF G_spec_l3Part (k + 1)) m (sub [1, 1] fi_spec_l3Part.code) none) (retK G_spec_l3Part fi_spec_l3Part))
theorem spec_l3Part_l0_eq (k m : Nat) : ∀ (n : Nat) (s2 : ByteArray) (i3 : Int), loopK (some [0, 3]) (spec_l3Part_l0_B k m) (spec_l3Part_l0_K k m) n ⟨fT 54 0 [(0, .av (.one (Cell.str s2))), (3, .av (.one (Cell.int i3)))], fX 54 0 [], []⟩ = spec_l3Part_l0 (k + 1) m n s2 i3 := by
  intro n
  induction n with
  | zero => intros; rfl
  | succ n ih =>
    intros
    simp only [spec_l3Part_l0, ← ih]
    kernel_rfl
theorem spec_l3Part_code (k m : Nat) (s1 : ByteArray) : evC G_spec_l3Part fi_spec_l3Part (evF G_spec_l3Part (k + 1)) m fi_spec_l3Part.code none (retK G_spec_l3Part fi_spec_l3Part) (enter fi_spec_l3Part [.one (Cell.str s1)] []) = spec_l3Part (k + 1) m s1 := by
  simp only [spec_l3Part, ← spec_l3Part_l0_eq k m]
  kernel_rfl
theorem spec_l3Part_eq (k : Nat) (s1 : ByteArray) : evF G_spec_l3Part (k + 2) fid_spec_l3Part [.one (Cell.str s1)] [] = spec_l3Part (k + 1) (k + 1) s1 :=
  Eq.trans (by kernel_rfl) (spec_l3Part_code k (k + 1) s1)
theorem run_spec_l3Part_of {s1 : ByteArray} {r : Res} (k : Nat) (h : spec_l3Part (k + 1) (k + 1) s1 = some r) : run_spec_l3Part [.one (Cell.str s1)] [] = some r := lim_of ((spec_l3Part_eq k s1).trans h)
noncomputable def pl_spec_VerOk : List (Nat × Run) := [(fid_spec_l1In, run_spec_l1In), (fid_spec_l3Part, run_spec_l3Part)]
noncomputable def G_spec_VerOk : Ctx := ctx tyTab fiTab pl_spec_VerOk
noncomputable def run_spec_VerOk : Run := lim G_spec_VerOk fid_spec_VerOk
theorem ok_spec_VerOk : FnOk Tryd.prog OkT fid_spec_VerOk run_spec_VerOk := lim_ok (l := pl_spec_VerOk) Tryd_mix tyTab_ok fiTab_ok okT (.cons ok_spec_l1In (.cons ok_spec_l3Part .nil)) fid_spec_VerOk
noncomputable def spec_VerOk_l0 (k m : Nat) : Nat → Int → Int → Int → Int → Cell → Option Res
  | 0, _, _, _, _, _ => none
  | n + 1, i5, i6, i7, i8, c9 =>
    (lenC c9).bind fun n10 =>
    cond (decide (i5 < (n10 : Int)))
    ((idxA 1 (c9) i5).bind fun c11 =>
    (deref [] (c11)).bind fun p12 =>
    (cS p12.1 p12.2).bind fun s13 =>
    (callS run_spec_l3Part [.one (Cell.str s13)] []).bind fun r14 =>
    cond (shapeOk rk_spec_l3Part r14)
    ((cB (cellsAt r14 0) 0).bind fun b15 =>
    cond (!b15)
    (some ([.one (Cell.bool false)], []))
    (spec_VerOk_l0 k m n (IntKind.i64.wrap (i5 + 1)) i6 i7 i8 (c9)))
    none)
    ((callS run_spec_l1In [.one (Cell.int i6), .one (Cell.int 0), .one (Cell.int 9999)] []).bind fun r16 =>
    cond (shapeOk rk_spec_l1In r16)
    ((cB (cellsAt r16 0) 0).bind fun b17 =>
    cond b17
    ((callS run_spec_l1In [.one (Cell.int i7), .one (Cell.int 0), .one (Cell.int 9999)] []).bind fun r18 =>
    cond (shapeOk rk_spec_l1In r18)
    ((cB (cellsAt r18 0) 0).bind fun b19 =>
    cond b19
    ((callS run_spec_l1In [.one (Cell.int i8), .one (Cell.int 0), .one (Cell.int 9999)] []).bind fun r20 =>
    cond (shapeOk rk_spec_l1In r20)
    ((cB (cellsAt r20 0) 0).bind fun b21 =>
    cond b21
    ((lenC c9).bind fun n22 =>
    some ([.one (Cell.bool (decide ((n22 : Int) ≤ 3)))], []))
    (some ([.one (Cell.bool false)], [])))
    none)
    (some ([.one (Cell.bool false)], [])))
    none)
    (some ([.one (Cell.bool false)], [])))
    none)
noncomputable def spec_VerOk (k m : Nat) (i1 : Int) (i2 : Int) (i3 : Int) (c4 : Cell) : Option Res :=
  spec_VerOk_l0 k m m 0 i1 i2 i3 (c4)
noncomputable abbrev spec_VerOk_l0_B (k m : Nat) : (Ex → Fr → Option Res) → Fr → Option Res := evC G_spec_VerOk fi_spec_VerOk (evF G_spec_VerOk (k + 1)) m (sub [1, 0, 1, 2, 3] fi_spec_VerOk.code) none
noncomputable abbrev spec_VerOk_l0_K (k m : Nat) : Ex → Fr → Option Res := blockK 0 (seqK (evC G_spec_VerOk fi_spec_VerOk (evF G_spec_VerOk (k + 1)) m (sub [1, 1] fi_spec_VerOk.code) none) (retK G_spec_VerOk fi_spec_VerOk))
theorem spec_VerOk_l0_eq (k m : Nat) : ∀ (n : Nat) (i5 : Int) (i6 : Int) (i7 : Int) (i8 : Int) (c9 : Cell), loopK (some [1, 3]) (spec_VerOk_l0_B k m) (spec_VerOk_l0_K k m) n ⟨fT 37 0 [(1, .loc 1 0), (3, .av (.one (Cell.int i5)))], fX 37 0 [(1, [Cell.int i6, Cell.int i7, Cell.int i8, c9])], []⟩ = spec_VerOk_l0 (k + 1) m n i5 i6 i7 i8 c9 := by
  intro n
  induction n with
  | zero => intros; rfl
  | succ n ih =>
    intros
    simp only [spec_VerOk_l0, ← ih]
    kernel_rfl
theorem spec_VerOk_code (k m : Nat) (i1 : Int) (i2 : Int) (i3 : Int) (c4 : Cell) : evC G_spec_VerOk fi_spec_VerOk (evF G_spec_VerOk (k + 1)) m fi_spec_VerOk.code none (retK G_spec_VerOk fi_spec_VerOk) (enter fi_spec_VerOk [.agg [Cell.int i1, Cell.int i2, Cell.int i3, c4]] []) = spec_VerOk (k + 1) m i1 i2 i3 c4 := by
  simp only [spec_VerOk, ← spec_VerOk_l0_eq k m]
  kernel_rfl
theorem spec_VerOk_eq (k : Nat) (i1 : Int) (i2 : Int) (i3 : Int) (c4 : Cell) : evF G_spec_VerOk (k + 2) fid_spec_VerOk [.agg [Cell.int i1, Cell.int i2, Cell.int i3, c4]] [] = spec_VerOk (k + 1) (k + 1) i1 i2 i3 c4 :=
  Eq.trans (by kernel_rfl) (spec_VerOk_code k (k + 1) i1 i2 i3 c4)
theorem run_spec_VerOk_of {i1 : Int} {i2 : Int} {i3 : Int} {c4 : Cell} {r : Res} (k : Nat) (h : spec_VerOk (k + 1) (k + 1) i1 i2 i3 c4 = some r) : run_spec_VerOk [.agg [Cell.int i1, Cell.int i2, Cell.int i3, c4]] [] = some r := lim_of ((spec_VerOk_eq k i1 i2 i3 c4).trans h)
noncomputable def pl_spec_ParseVer : List (Nat × Run) := [(fid_spec_Split, run_spec_Split), (fid_spec_ParseNum, run_spec_ParseNum), (fid_spec_VerOk, run_spec_VerOk)]
noncomputable def G_spec_ParseVer : Ctx := ctx tyTab fiTab pl_spec_ParseVer
noncomputable def run_spec_ParseVer : Run := lim G_spec_ParseVer fid_spec_ParseVer
theorem ok_spec_ParseVer : FnOk Tryd.prog OkT fid_spec_ParseVer run_spec_ParseVer := lim_ok (l := pl_spec_ParseVer) Tryd_mix tyTab_ok fiTab_ok okT (.cons ok_spec_Split (.cons ok_spec_ParseNum (.cons ok_spec_VerOk .nil))) fid_spec_ParseVer
noncomputable def spec_ParseVer_l0 (k m : Nat) : Nat → ByteArray → Int → Option Res
  | 0, _, _ => none
  | n + 1, s2, i3 =>
    cond (decide (i3 < (s2.size : Int)))
    ((bytS s2 i3).bind fun i4 =>
    cond (i4 != 45)
    (spec_ParseVer_l0 k m n s2 (IntKind.i64.wrap (i3 + 1)))
    (cond (decide (i3 < (s2.size : Int)))
    ((subS s2 (IntKind.i64.wrap (i3 + 1)) (s2.size : Int)).bind fun s5 =>
    (callL run_spec_Split [.one (Cell.str s5), .one (.sc (.int .u8 46))] []).bind fun r6 =>
    cond (shapeOk rk_spec_Split r6.1)
    ((cC (cellsAt r6.1 0) 0).bind fun c7 =>
    (subS s2 0 i3).bind fun s8 =>
    (callL run_spec_Split [.one (Cell.str s8), .one (.sc (.int .u8 46))] r6.2).bind fun r9 =>
    cond (shapeOk rk_spec_Split r9.1)
    ((cC (cellsAt r9.1 0) 0).bind fun c10 =>
    (lenC c10).bind fun n11 =>
    cond ((n11 : Int) != 3)
    (some ([.agg [Cell.int 0, Cell.int 0, Cell.int 0, .lst true 1 []], .one (Cell.bool false)], r9.2))
    ((idxA 1 (c10) 0).bind fun c12 =>
    (deref r9.2 (c12)).bind fun p13 =>
    (cS p13.1 p13.2).bind fun s14 =>
    (callS run_spec_ParseNum [.one (Cell.str s14), .one (Cell.int 9999)] r9.2).bind fun r15 =>
    cond (shapeOk rk_spec_ParseNum r15)
    ((cI .i64 (cellsAt r15 0) 0).bind fun i16 =>
    (cB (cellsAt r15 1) 0).bind fun b17 =>
    (idxA 1 (c10) 1).bind fun c18 =>
    (deref r9.2 (c18)).bind fun p19 =>
    (cS p19.1 p19.2).bind fun s20 =>
    (callS run_spec_ParseNum [.one (Cell.str s20), .one (Cell.int 9999)] r9.2).bind fun r21 =>
    cond (shapeOk rk_spec_ParseNum r21)
    ((cI .i64 (cellsAt r21 0) 0).bind fun i22 =>
    (cB (cellsAt r21 1) 0).bind fun b23 =>
    (idxA 1 (c10) 2).bind fun c24 =>
    (deref r9.2 (c24)).bind fun p25 =>
    (cS p25.1 p25.2).bind fun s26 =>
    (callS run_spec_ParseNum [.one (Cell.str s26), .one (Cell.int 9999)] r9.2).bind fun r27 =>
    cond (shapeOk rk_spec_ParseNum r27)
    ((cI .i64 (cellsAt r27 0) 0).bind fun i28 =>
    (cB (cellsAt r27 1) 0).bind fun b29 =>
    cond (!b17)
    (some ([.agg [Cell.int 0, Cell.int 0, Cell.int 0, .lst true 1 []], .one (Cell.bool false)], r9.2))
    (cond (!b23)
    (some ([.agg [Cell.int 0, Cell.int 0, Cell.int 0, .lst true 1 []], .one (Cell.bool false)], r9.2))
    (cond (!b29)
    (some ([.agg [Cell.int 0, Cell.int 0, Cell.int 0, .lst true 1 []], .one (Cell.bool false)], r9.2))
    ((callS run_spec_VerOk [.agg [Cell.int i16, Cell.int i22, Cell.int i28, c7]] r9.2).bind fun r30 =>
    cond (shapeOk rk_spec_VerOk r30)
    ((cB (cellsAt r30 0) 0).bind fun b31 =>
    cond (!b31)
    (some ([.agg [Cell.int 0, Cell.int 0, Cell.int 0, .lst true 1 []], .one (Cell.bool false)], r9.2))
    (some ([.agg [Cell.int i16, Cell.int i22, Cell.int i28, c7], .one (Cell.bool true)], r9.2)))
    none))))
    none)
    none)
    none))
    none)
    none)
    ((subS s2 0 i3).bind fun s32 =>
    (callL run_spec_Split [.one (Cell.str s32), .one (.sc (.int .u8 46))] []).bind fun r33 =>
    cond (shapeOk rk_spec_Split r33.1)
    ((cC (cellsAt r33.1 0) 0).bind fun c34 =>
    (lenC c34).bind fun n35 =>
    cond ((n35 : Int) != 3)
    (some ([.agg [Cell.int 0, Cell.int 0, Cell.int 0, .lst true 1 []], .one (Cell.bool false)], r33.2))
    ((idxA 1 (c34) 0).bind fun c36 =>
    (deref r33.2 (c36)).bind fun p37 =>
    (cS p37.1 p37.2).bind fun s38 =>
    (callS run_spec_ParseNum [.one (Cell.str s38), .one (Cell.int 9999)] r33.2).bind fun r39 =>
    cond (shapeOk rk_spec_ParseNum r39)
    ((cI .i64 (cellsAt r39 0) 0).bind fun i40 =>
    (cB (cellsAt r39 1) 0).bind fun b41 =>
    (idxA 1 (c34) 1).bind fun c42 =>
    (deref r33.2 (c42)).bind fun p43 =>
    (cS p43.1 p43.2).bind fun s44 =>
    (callS run_spec_ParseNum [.one (Cell.str s44), .one (Cell.int 9999)] r33.2).bind fun r45 =>
    cond (shapeOk rk_spec_ParseNum r45)
    ((cI .i64 (cellsAt r45 0) 0).bind fun i46 =>
    (cB (cellsAt r45 1) 0).bind fun b47 =>
    (idxA 1 (c34) 2).bind fun c48 =>
    (deref r33.2 (c48)).bind fun p49 =>
    (cS p49.1 p49.2).bind fun s50 =>
    (callS run_spec_ParseNum [.one (Cell.str s50), .one (Cell.int 9999)] r33.2).bind fun r51 =>
    cond (shapeOk rk_spec_ParseNum r51)
    ((cI .i64 (cellsAt r51 0) 0).bind fun i52 =>
    (cB (cellsAt r51 1) 0).bind fun b53 =>
    cond (!b41)
    (some ([.agg [Cell.int 0, Cell.int 0, Cell.int 0, .lst true 1 []], .one (Cell.bool false)], r33.2))
    (cond (!b47)
    (some ([.agg [Cell.int 0, Cell.int 0, Cell.int 0, .lst true 1 []], .one (Cell.bool false)], r33.2))
    (cond (!b53)
    (some ([.agg [Cell.int 0, Cell.int 0, Cell.int 0, .lst true 1 []], .one (Cell.bool false)], r33.2))
    ((callS run_spec_VerOk [.agg [Cell.int i40, Cell.int i46, Cell.int i52, .lst true 1 []]] r33.2).bind fun r54 =>
    cond (shapeOk rk_spec_VerOk r54)
    ((cB (cellsAt r54 0) 0).bind fun b55 =>
    cond (!b55)
    (some ([.agg [Cell.int 0, Cell.int 0, Cell.int 0, .lst true 1 []], .one (Cell.bool false)], r33.2))
    (some ([.agg [Cell.int i40, Cell.int i46, Cell.int i52, .lst true 1 []], .one (Cell.bool true)], r33.2)))
    none))))
    none)
    none)
    none))
    none)))
    (cond (decide (i3 < (s2.size : Int)))
    ((subS s2 (IntKind.i64.wrap (i3 + 1)) (s2.size : Int)).bind fun s56 =>
    (callL run_spec_Split [.one (Cell.str s56), .one (.sc (.int .u8 46))] []).bind fun r57 =>
    cond (shapeOk rk_spec_Split r57.1)
    ((cC (cellsAt r57.1 0) 0).bind fun c58 =>
    (subS s2 0 i3).bind fun s59 =>
    (callL run_spec_Split [.one (Cell.str s59), .one (.sc (.int .u8 46))] r57.2).bind fun r60 =>
    cond (shapeOk rk_spec_Split r60.1)
    ((cC (cellsAt r60.1 0) 0).bind fun c61 =>
    (lenC c61).bind fun n62 =>
    cond ((n62 : Int) != 3)
    (some ([.agg [Cell.int 0, Cell.int 0, Cell.int 0, .lst true 1 []], .one (Cell.bool false)], r60.2))
    ((idxA 1 (c61) 0).bind fun c63 =>
    (deref r60.2 (c63)).bind fun p64 =>
    (cS p64.1 p64.2).bind fun s65 =>
    (callS run_spec_ParseNum [.one (Cell.str s65), .one (Cell.int 9999)] r60.2).bind fun r66 =>
    cond (shapeOk rk_spec_ParseNum r66)
    ((cI .i64 (cellsAt r66 0) 0).bind fun i67 =>
    (cB (cellsAt r66 1) 0).bind fun b68 =>
    (idxA 1 (c61) 1).bind fun c69 =>
    (deref r60.2 (c69)).bind fun p70 =>
    (cS p70.1 p70.2).bind fun s71 =>
    (callS run_spec_ParseNum [.one (Cell.str s71), .one (Cell.int 9999)] r60.2).bind fun r72 =>
    cond (shapeOk rk_spec_ParseNum r72)
    ((cI .i64 (cellsAt r72 0) 0).bind fun i73 =>
    (cB (cellsAt r72 1) 0).bind fun b74 =>
    (idxA 1 (c61) 2).bind fun c75 =>
    (deref r60.2 (c75)).bind fun p76 =>
    (cS p76.1 p76.2).bind fun s77 =>
    (callS run_spec_ParseNum [.one (Cell.str s77), .one (Cell.int 9999)] r60.2).bind fun r78 =>
    cond (shapeOk rk_spec_ParseNum r78)
    ((cI .i64 (cellsAt r78 0) 0).bind fun i79 =>
    (cB (cellsAt r78 1) 0).bind fun b80 =>
    cond (!b68)
    (some ([.agg [Cell.int 0, Cell.int 0, Cell.int 0, .lst true 1 []], .one (Cell.bool false)], r60.2))
    (cond (!b74)
    (some ([.agg [Cell.int 0, Cell.int 0, Cell.int 0, .lst true 1 []], .one (Cell.bool false)], r60.2))
    (cond (!b80)
    (some ([.agg [Cell.int 0, Cell.int 0, Cell.int 0, .lst true 1 []], .one (Cell.bool false)], r60.2))
    ((callS run_spec_VerOk [.agg [Cell.int i67, Cell.int i73, Cell.int i79, c58]] r60.2).bind fun r81 =>
    cond (shapeOk rk_spec_VerOk r81)
    ((cB (cellsAt r81 0) 0).bind fun b82 =>
    cond (!b82)
    (some ([.agg [Cell.int 0, Cell.int 0, Cell.int 0, .lst true 1 []], .one (Cell.bool false)], r60.2))
    (some ([.agg [Cell.int i67, Cell.int i73, Cell.int i79, c58], .one (Cell.bool true)], r60.2)))
    none))))
    none)
    none)
    none))
    none)
    none)
    ((subS s2 0 i3).bind fun s83 =>
    (callL run_spec_Split [.one (Cell.str s83), .one (.sc (.int .u8 46))] []).bind fun r84 =>
    cond (shapeOk rk_spec_Split r84.1)
    ((cC (cellsAt r84.1 0) 0).bind fun c85 =>
    (lenC c85).bind fun n86 =>
    cond ((n86 : Int) != 3)
    (some ([.agg [Cell.int 0, Cell.int 0, Cell.int 0, .lst true 1 []], .one (Cell.bool false)], r84.2))
    ((idxA 1 (c85) 0).bind fun c87 =>
    (deref r84.2 (c87)).bind fun p88 =>
    (cS p88.1 p88.2).bind fun s89 =>
    (callS run_spec_ParseNum [.one (Cell.str s89), .one (Cell.int 9999)] r84.2).bind fun r90 =>
    cond (shapeOk rk_spec_ParseNum r90)
    ((cI .i64 (cellsAt r90 0) 0).bind fun i91 =>
    (cB (cellsAt r90 1) 0).bind fun b92 =>
    (idxA 1 (c85) 1).bind fun c93 =>
    (deref r84.2 (c93)).bind fun p94 =>
    (cS p94.1 p94.2).bind fun s95 =>
    (callS run_spec_ParseNum [.one (Cell.str s95), .one (Cell.int 9999)] r84.2).bind fun r96 =>
    cond (shapeOk rk_spec_ParseNum r96)
    ((cI .i64 (cellsAt r96 0) 0).bind fun i97 =>
    (cB (cellsAt r96 1) 0).bind fun b98 =>
    (idxA 1 (c85) 2).bind fun c99 =>
    (deref r84.2 (c99)).bind fun p100 =>
    (cS p100.1 p100.2).bind fun s101 =>
    (callS run_spec_ParseNum [.one (Cell.str s101), .one (Cell.int 9999)] r84.2).bind fun r102 =>
    cond (shapeOk rk_spec_ParseNum r102)
    ((cI .i64 (cellsAt r102 0) 0).bind fun i103 =>
    (cB (cellsAt r102 1) 0).bind fun b104 =>
    cond (!b92)
    (some ([.agg [Cell.int 0, Cell.int 0, Cell.int 0, .lst true 1 []], .one (Cell.bool false)], r84.2))
    (cond (!b98)
    (some ([.agg [Cell.int 0, Cell.int 0, Cell.int 0, .lst true 1 []], .one (Cell.bool false)], r84.2))
    (cond (!b104)
    (some ([.agg [Cell.int 0, Cell.int 0, Cell.int 0, .lst true 1 []], .one (Cell.bool false)], r84.2))
    ((callS run_spec_VerOk [.agg [Cell.int i91, Cell.int i97, Cell.int i103, .lst true 1 []]] r84.2).bind fun r105 =>
    cond (shapeOk rk_spec_VerOk r105)
    ((cB (cellsAt r105 0) 0).bind fun b106 =>
    cond (!b106)
    (some ([.agg [Cell.int 0, Cell.int 0, Cell.int 0, .lst true 1 []], .one (Cell.bool false)], r84.2))
    (some ([.agg [Cell.int i91, Cell.int i97, Cell.int i103, .lst true 1 []], .one (Cell.bool true)], r84.2)))
    none))))
    none)
    none)
    none))
    none))
noncomputable def spec_ParseVer (k m : Nat) (s1 : ByteArray) : Option Res :=
  spec_ParseVer_l0 k m m s1 0
noncomputable abbrev spec_ParseVer_l0_B (k m : Nat) : (Ex → Fr → Option Res) → Fr → Option Res := evC G_spec_ParseVer fi_spec_ParseVer (evF G_spec_ParseVer (k + 1)) m (sub [1, 1, 1, 0, 2, 3] fi_spec_ParseVer.code) none
noncomputable abbrev spec_ParseVer_l0_K (k m : Nat) : Ex → Fr → Option Res := blockK 0 (seqK (evC G_spec_ParseVer fi_spec_ParseVer (evF G_spec_ParseVer (k + 1)) m (sub [1, 1, 1, 1] fi_spec_ParseVer.code) none) (retK G_spec_ParseVer fi_spec_ParseVer))
theorem spec_ParseVer_l0_eq (k m : Nat) : ∀ (n : Nat) (s2 : ByteArray) (i3 : Int), loopK (some [0, 2, 4, 5]) (spec_ParseVer_l0_B k m) (spec_ParseVer_l0_K k m) n ⟨fT 88 0 [(0, .av (.one (Cell.str s2))), (2, .loc 2 0), (4, .loc 4 0), (5, .av (.one (Cell.int i3)))], fX 88 0 [(2, [Cell.int 0, Cell.int 0, Cell.int 0, .lst true 1 []]), (4, [Cell.int 0, Cell.int 0, Cell.int 0, .lst true 1 []])], []⟩ = spec_ParseVer_l0 (k + 1) m n s2 i3 := by
  intro n
  induction n with
  | zero => intros; rfl
  | succ n ih =>
    intros
    simp only [spec_ParseVer_l0, ← ih]
    kernel_rfl
theorem spec_ParseVer_code (k m : Nat) (s1 : ByteArray) : evC G_spec_ParseVer fi_spec_ParseVer (evF G_spec_ParseVer (k + 1)) m fi_spec_ParseVer.code none (retK G_spec_ParseVer fi_spec_ParseVer) (enter fi_spec_ParseVer [.one (Cell.str s1)] []) = spec_ParseVer (k + 1) m s1 := by
  simp only [spec_ParseVer, ← spec_ParseVer_l0_eq k m]
  kernel_rfl
theorem spec_ParseVer_eq (k : Nat) (s1 : ByteArray) : evF G_spec_ParseVer (k + 2) fid_spec_ParseVer [.one (Cell.str s1)] [] = spec_ParseVer (k + 1) (k + 1) s1 :=
  Eq.trans (by kernel_rfl) (spec_ParseVer_code k (k + 1) s1)
theorem run_spec_ParseVer_of {s1 : ByteArray} {r : Res} (k : Nat) (h : spec_ParseVer (k + 1) (k + 1) s1 = some r) : run_spec_ParseVer [.one (Cell.str s1)] [] = some r := lim_of ((spec_ParseVer_eq k s1).trans h)
noncomputable def pl_spec_NameOk : List (Nat × Run) := [(fid_spec_l1Digit, run_spec_l1Digit), (fid_spec_l1In, run_spec_l1In), (fid_spec_l1Small, run_spec_l1Small)]
noncomputable def G_spec_NameOk : Ctx := ctx tyTab fiTab pl_spec_NameOk
noncomputable def run_spec_NameOk : Run := lim G_spec_NameOk fid_spec_NameOk
theorem ok_spec_NameOk : FnOk Tryd.prog OkT fid_spec_NameOk run_spec_NameOk := lim_ok (l := pl_spec_NameOk) Tryd_mix tyTab_ok fiTab_ok okT (.cons ok_spec_l1Digit (.cons ok_spec_l1In (.cons ok_spec_l1Small .nil))) fid_spec_NameOk
noncomputable def spec_NameOk_l0 (k m : Nat) : Nat → ByteArray → Int → Option Res
  | 0, _, _ => none
  | n + 1, s2, i3 =>
    cond (decide (i3 < (s2.size : Int)))
    ((bytS s2 i3).bind fun i4 =>
    (callS run_spec_l1Small [.one (.sc (.int .u8 i4))] []).bind fun r5 =>
    cond (shapeOk rk_spec_l1Small r5)
    ((cB (cellsAt r5 0) 0).bind fun b6 =>
    cond (!b6)
    (cond (i3 == 0)
    (some ([.one (Cell.bool false)], []))
    ((bytS s2 i3).bind fun i7 =>
    (callS run_spec_l1Digit [.one (.sc (.int .u8 i7))] []).bind fun r8 =>
    cond (shapeOk rk_spec_l1Digit r8)
    ((cB (cellsAt r8 0) 0).bind fun b9 =>
    cond (!b9)
    ((bytS s2 i3).bind fun i10 =>
    cond (i10 != 45)
    (some ([.one (Cell.bool false)], []))
    (spec_NameOk_l0 k m n s2 (IntKind.i64.wrap (i3 + 1))))
    (spec_NameOk_l0 k m n s2 (IntKind.i64.wrap (i3 + 1))))
    none))
    (spec_NameOk_l0 k m n s2 (IntKind.i64.wrap (i3 + 1))))
    none)
    ((callS run_spec_l1In [.one (Cell.int (s2.size : Int)), .one (Cell.int 1), .one (Cell.int 10)] []).bind fun r11 =>
    cond (shapeOk rk_spec_l1In r11)
    ((cB (cellsAt r11 0) 0).bind fun b12 =>
    some ([.one (Cell.bool b12)], []))
    none)
noncomputable def spec_NameOk (k m : Nat) (s1 : ByteArray) : Option Res :=
  spec_NameOk_l0 k m m s1 0
noncomputable abbrev spec_NameOk_l0_B (k m : Nat) : (Ex → Fr → Option Res) → Fr → Option Res := evC G_spec_NameOk fi_spec_NameOk (evF G_spec_NameOk (k + 1)) m (sub [1, 0, 1, 2, 3] fi_spec_NameOk.code) none
noncomputable abbrev spec_NameOk_l0_K (k m : Nat) : Ex → Fr → Option Res := blockK 0 (seqK (evC G_spec_NameOk fi_spec_NameOk (evF G_spec_NameOk (k + 1)) m (sub [1, 1] fi_spec_NameOk.code) none) (retK G_spec_NameOk fi_spec_NameOk))
theorem spec_NameOk_l0_eq (k m : Nat) : ∀ (n : Nat) (s2 : ByteArray) (i3 : Int), loopK (some [0, 3]) (spec_NameOk_l0_B k m) (spec_NameOk_l0_K k m) n ⟨fT 35 0 [(0, .av (.one (Cell.str s2))), (3, .av (.one (Cell.int i3)))], fX 35 0 [], []⟩ = spec_NameOk_l0 (k + 1) m n s2 i3 := by
  intro n
  induction n with
  | zero => intros; rfl
  | succ n ih =>
    intros
    simp only [spec_NameOk_l0, ← ih]
    kernel_rfl
theorem spec_NameOk_code (k m : Nat) (s1 : ByteArray) : evC G_spec_NameOk fi_spec_NameOk (evF G_spec_NameOk (k + 1)) m fi_spec_NameOk.code none (retK G_spec_NameOk fi_spec_NameOk) (enter fi_spec_NameOk [.one (Cell.str s1)] []) = spec_NameOk (k + 1) m s1 := by
  simp only [spec_NameOk, ← spec_NameOk_l0_eq k m]
  kernel_rfl
theorem spec_NameOk_eq (k : Nat) (s1 : ByteArray) : evF G_spec_NameOk (k + 2) fid_spec_NameOk [.one (Cell.str s1)] [] = spec_NameOk (k + 1) (k + 1) s1 :=
  Eq.trans (by kernel_rfl) (spec_NameOk_code k (k + 1) s1)
theorem run_spec_NameOk_of {s1 : ByteArray} {r : Res} (k : Nat) (h : spec_NameOk (k + 1) (k + 1) s1 = some r) : run_spec_NameOk [.one (Cell.str s1)] [] = some r := lim_of ((spec_NameOk_eq k s1).trans h)
noncomputable def pl_spec_l10Ok : List (Nat × Run) := [(fid_spec_VerOk, run_spec_VerOk), (fid_spec_NameOk, run_spec_NameOk)]
noncomputable def G_spec_l10Ok : Ctx := ctx tyTab fiTab pl_spec_l10Ok
noncomputable def run_spec_l10Ok : Run := lim G_spec_l10Ok fid_spec_l10Ok
theorem ok_spec_l10Ok : FnOk Tryd.prog OkT fid_spec_l10Ok run_spec_l10Ok := lim_ok (l := pl_spec_l10Ok) Tryd_mix tyTab_ok fiTab_ok okT (.cons ok_spec_VerOk (.cons ok_spec_NameOk .nil)) fid_spec_l10Ok
noncomputable def spec_l10Ok_l0 (k m : Nat) : Nat → Cell → Int → Option Res
  | 0, _, _ => none
  | n + 1, c2, i3 =>
    (lenC c2).bind fun n4 =>
    cond (decide (i3 < (n4 : Int)))
    ((idxA 5 (c2) i3).bind fun c5 =>
    (fldA c5 0).bind fun c6 =>
    (deref [] (c6)).bind fun p7 =>
    (cS p7.1 p7.2).bind fun s8 =>
    (callS run_spec_NameOk [.one (Cell.str s8)] []).bind fun r9 =>
    cond (shapeOk rk_spec_NameOk r9)
    ((cB (cellsAt r9 0) 0).bind fun b10 =>
    cond (!b10)
    (some ([.one (Cell.bool false)], []))
    ((idxA 5 (c2) i3).bind fun c11 =>
    (fldA c11 1).bind fun c12 =>
    (deref [] (c12)).bind fun p13 =>
    (cI .i64 p13.1 p13.2).bind fun i14 =>
    (cI .i64 p13.1 (p13.2 + 1)).bind fun i15 =>
    (cI .i64 p13.1 ((p13.2 + 1) + 1)).bind fun i16 =>
    (cC p13.1 (((p13.2 + 1) + 1) + 1)).bind fun c17 =>
    (callS run_spec_VerOk [.agg [Cell.int i14, Cell.int i15, Cell.int i16, c17]] []).bind fun r18 =>
    cond (shapeOk rk_spec_VerOk r18)
    ((cB (cellsAt r18 0) 0).bind fun b19 =>
    cond (!b19)
    (some ([.one (Cell.bool false)], []))
    (cond (decide (i3 > 0))
    ((idxA 5 (c2) (IntKind.i64.wrap (i3 - 1))).bind fun c20 =>
    (fldA c20 0).bind fun c21 =>
    (deref [] (c21)).bind fun p22 =>
    (cS p22.1 p22.2).bind fun s23 =>
    (idxA 5 (c2) i3).bind fun c24 =>
    (fldA c24 0).bind fun c25 =>
    (deref [] (c25)).bind fun p26 =>
    (cS p26.1 p26.2).bind fun s27 =>
    cond (!Op.bytesLess s23.toList s27.toList)
    (some ([.one (Cell.bool false)], []))
    (spec_l10Ok_l0 k m n (c2) (IntKind.i64.wrap (i3 + 1))))
    (spec_l10Ok_l0 k m n (c2) (IntKind.i64.wrap (i3 + 1)))))
    none))
    none)
    ((lenC c2).bind fun n28 =>
    some ([.one (Cell.bool (decide ((n28 : Int) ≤ 12)))], []))
noncomputable def spec_l10Ok (k m : Nat) (c1 : Cell) : Option Res :=
  spec_l10Ok_l0 k m m (c1) 0
noncomputable abbrev spec_l10Ok_l0_B (k m : Nat) : (Ex → Fr → Option Res) → Fr → Option Res := evC G_spec_l10Ok fi_spec_l10Ok (evF G_spec_l10Ok (k + 1)) m (sub [1, 0, 1, 2, 3] fi_spec_l10Ok.code) none
noncomputable abbrev spec_l10Ok_l0_K (k m : Nat) : Ex → Fr → Option Res := blockK 0 (seqK (evC G_spec_l10Ok fi_spec_l10Ok (evF G_spec_l10Ok (k + 1)) m (sub [1, 1] fi_spec_l10Ok.code) none) (retK G_spec_l10Ok fi_spec_l10Ok))
theorem spec_l10Ok_l0_eq (k m : Nat) : ∀ (n : Nat) (c2 : Cell) (i3 : Int), loopK (some [0, 3]) (spec_l10Ok_l0_B k m) (spec_l10Ok_l0_K k m) n ⟨fT 47 0 [(0, .av (.one (c2))), (3, .av (.one (Cell.int i3)))], fX 47 0 [], []⟩ = spec_l10Ok_l0 (k + 1) m n c2 i3 := by
  intro n
  induction n with
  | zero => intros; rfl
  | succ n ih =>
    intros
    simp only [spec_l10Ok_l0, ← ih]
    kernel_rfl
theorem spec_l10Ok_code (k m : Nat) (c1 : Cell) : evC G_spec_l10Ok fi_spec_l10Ok (evF G_spec_l10Ok (k + 1)) m fi_spec_l10Ok.code none (retK G_spec_l10Ok fi_spec_l10Ok) (enter fi_spec_l10Ok [.one (c1)] []) = spec_l10Ok (k + 1) m c1 := by
  simp only [spec_l10Ok, ← spec_l10Ok_l0_eq k m]
  kernel_rfl
theorem spec_l10Ok_eq (k : Nat) (c1 : Cell) : evF G_spec_l10Ok (k + 2) fid_spec_l10Ok [.one (c1)] [] = spec_l10Ok (k + 1) (k + 1) c1 :=
  Eq.trans (by kernel_rfl) (spec_l10Ok_code k (k + 1) c1)
theorem run_spec_l10Ok_of {c1 : Cell} {r : Res} (k : Nat) (h : spec_l10Ok (k + 1) (k + 1) c1 = some r) : run_spec_l10Ok [.one (c1)] [] = some r := lim_of ((spec_l10Ok_eq k c1).trans h)
noncomputable def pl_spec_ParseLock : List (Nat × Run) := [(fid_spec_Split, run_spec_Split), (fid_spec_ParseVer, run_spec_ParseVer), (fid_spec_l10Ok, run_spec_l10Ok)]
noncomputable def G_spec_ParseLock : Ctx := ctx tyTab fiTab pl_spec_ParseLock
noncomputable def run_spec_ParseLock : Run := lim G_spec_ParseLock fid_spec_ParseLock
theorem ok_spec_ParseLock : FnOk Tryd.prog OkT fid_spec_ParseLock run_spec_ParseLock := lim_ok (l := pl_spec_ParseLock) Tryd_mix tyTab_ok fiTab_ok okT (.cons ok_spec_Split (.cons ok_spec_ParseVer (.cons ok_spec_l10Ok .nil))) fid_spec_ParseLock
noncomputable def spec_ParseLock_l0 (k m : Nat) : Nat → Cell → Cell → Int → List Entry → Option Res
  | 0, _, _, _, _ => none
  | n + 1, c4, c5, i6, H7 =>
    (lenC c5).bind fun n8 =>
    cond (decide (i6 < (IntKind.i64.wrap ((n8 : Int) - 1))))
    ((idxA 1 (c5) i6).bind fun c9 =>
    (deref H7 (c9)).bind fun p10 =>
    (cS p10.1 p10.2).bind fun s11 =>
    (callL run_spec_Split [.one (Cell.str s11), .one (.sc (.int .u8 64))] H7).bind fun r12 =>
    cond (shapeOk rk_spec_Split r12.1)
    ((cC (cellsAt r12.1 0) 0).bind fun c13 =>
    (lenC c13).bind fun n14 =>
    cond ((n14 : Int) != 2)
    (some ([.one (.lst true 5 []), .one (Cell.bool false)], r12.2))
    ((idxA 1 (c13) 1).bind fun c15 =>
    (deref r12.2 (c15)).bind fun p16 =>
    (cS p16.1 p16.2).bind fun s17 =>
    (callL run_spec_ParseVer [.one (Cell.str s17)] r12.2).bind fun r18 =>
    cond (shapeOk rk_spec_ParseVer r18.1)
    ((cI .i64 (cellsAt r18.1 0) 0).bind fun i19 =>
    (cI .i64 (cellsAt r18.1 0) 1).bind fun i20 =>
    (cI .i64 (cellsAt r18.1 0) 2).bind fun i21 =>
    (cC (cellsAt r18.1 0) 3).bind fun c22 =>
    (cB (cellsAt r18.1 1) 0).bind fun b23 =>
    cond (!b23)
    (some ([.one (.lst true 5 []), .one (Cell.bool false)], r18.2))
    ((idxA 1 (c13) 0).bind fun c24 =>
    (deref r18.2 (c24)).bind fun p25 =>
    (cS p25.1 p25.2).bind fun s26 =>
    restK [Cell.str s26, Cell.int i19, Cell.int i20, Cell.int i21, c22] fun d27 =>
    (srcRows r18.2 5 (.lst true 5 (chunks 5 1 d27))).bind fun r28 =>
    (app r18.2 5 64 (c4) r28).bind fun p29 =>
    spec_ParseLock_l0 k m n (p29.1) (c5) (IntKind.i64.wrap (i6 + 1)) p29.2))
    none))
    none)
    ((lenC c5).bind fun n30 =>
    (idxA 1 (c5) (IntKind.i64.wrap ((n30 : Int) - 1))).bind fun c31 =>
    (deref H7 (c31)).bind fun p32 =>
    (cS p32.1 p32.2).bind fun s33 =>
    cond (!(s33.toList == (bs []).toList))
    (some ([.one (.lst true 5 []), .one (Cell.bool false)], H7))
    ((callS run_spec_l10Ok [.one (c4)] H7).bind fun r34 =>
    cond (shapeOk rk_spec_l10Ok r34)
    ((cB (cellsAt r34 0) 0).bind fun b35 =>
    cond (!b35)
    (some ([.one (.lst true 5 []), .one (Cell.bool false)], H7))
    (some ([.one (c4), .one (Cell.bool true)], H7)))
    none))
noncomputable def spec_ParseLock (k m : Nat) (s1 : ByteArray) : Option Res :=
  (callL run_spec_Split [.one (Cell.str s1), .one (.sc (.int .u8 10))] []).bind fun r2 =>
  cond (shapeOk rk_spec_Split r2.1)
  ((cC (cellsAt r2.1 0) 0).bind fun c3 =>
  spec_ParseLock_l0 k m m (.lst true 5 []) (c3) 0 r2.2)
  none
noncomputable abbrev spec_ParseLock_l0_B (k m : Nat) : (Ex → Fr → Option Res) → Fr → Option Res := evC G_spec_ParseLock fi_spec_ParseLock (evF G_spec_ParseLock (k + 1)) m (sub [1, 1, 1, 0, 1, 2, 3] fi_spec_ParseLock.code) none
noncomputable abbrev spec_ParseLock_l0_K (k m : Nat) : Ex → Fr → Option Res := blockK 0 (seqK (evC G_spec_ParseLock fi_spec_ParseLock (evF G_spec_ParseLock (k + 1)) m (sub [1, 1, 1, 1] fi_spec_ParseLock.code) none) (retK G_spec_ParseLock fi_spec_ParseLock))
theorem spec_ParseLock_l0_eq (k m : Nat) : ∀ (n : Nat) (c4 : Cell) (c5 : Cell) (i6 : Int) (H7 : List Entry), loopK (some [4, 5, 6]) (spec_ParseLock_l0_B k m) (spec_ParseLock_l0_K k m) n ⟨fT 61 0 [(4, .av (.one (c4))), (5, .av (.one (c5))), (6, .av (.one (Cell.int i6)))], fX 61 0 [], H7⟩ = spec_ParseLock_l0 (k + 1) m n c4 c5 i6 H7 := by
  intro n
  induction n with
  | zero => intros; rfl
  | succ n ih =>
    intros
    simp only [spec_ParseLock_l0, ← ih]
    kernel_rfl
theorem spec_ParseLock_code (k m : Nat) (s1 : ByteArray) : evC G_spec_ParseLock fi_spec_ParseLock (evF G_spec_ParseLock (k + 1)) m fi_spec_ParseLock.code none (retK G_spec_ParseLock fi_spec_ParseLock) (enter fi_spec_ParseLock [.one (Cell.str s1)] []) = spec_ParseLock (k + 1) m s1 := by
  simp only [spec_ParseLock, ← spec_ParseLock_l0_eq k m]
  kernel_rfl
theorem spec_ParseLock_eq (k : Nat) (s1 : ByteArray) : evF G_spec_ParseLock (k + 2) fid_spec_ParseLock [.one (Cell.str s1)] [] = spec_ParseLock (k + 1) (k + 1) s1 :=
  Eq.trans (by kernel_rfl) (spec_ParseLock_code k (k + 1) s1)
theorem run_spec_ParseLock_of {s1 : ByteArray} {r : Res} (k : Nat) (h : spec_ParseLock (k + 1) (k + 1) s1 = some r) : run_spec_ParseLock [.one (Cell.str s1)] [] = some r := lim_of ((spec_ParseLock_eq k s1).trans h)
noncomputable def pl_internal_bytealg_Cutover : List (Nat × Run) := []
noncomputable def G_internal_bytealg_Cutover : Ctx := ctx tyTab fiTab pl_internal_bytealg_Cutover
noncomputable def run_internal_bytealg_Cutover : Run := lim G_internal_bytealg_Cutover fid_internal_bytealg_Cutover
theorem ok_internal_bytealg_Cutover : FnOk Tryd.prog OkT fid_internal_bytealg_Cutover run_internal_bytealg_Cutover := lim_ok (l := pl_internal_bytealg_Cutover) Tryd_mix tyTab_ok fiTab_ok okT .nil fid_internal_bytealg_Cutover
noncomputable def internal_bytealg_Cutover (k m : Nat) (i1 : Int) : Option Res :=
  some ([.one (Cell.int (IntKind.i64.wrap ((IntKind.i64.wrap (i1 + 16)).tdiv 8)))], [])
theorem internal_bytealg_Cutover_code (k m : Nat) (i1 : Int) : evC G_internal_bytealg_Cutover fi_internal_bytealg_Cutover (evF G_internal_bytealg_Cutover (k + 1)) m fi_internal_bytealg_Cutover.code none (retK G_internal_bytealg_Cutover fi_internal_bytealg_Cutover) (enter fi_internal_bytealg_Cutover [.one (Cell.int i1)] []) = internal_bytealg_Cutover (k + 1) m i1 := by
  kernel_rfl
theorem internal_bytealg_Cutover_eq (k : Nat) (i1 : Int) : evF G_internal_bytealg_Cutover (k + 2) fid_internal_bytealg_Cutover [.one (Cell.int i1)] [] = internal_bytealg_Cutover (k + 1) (k + 1) i1 :=
  Eq.trans (by kernel_rfl) (internal_bytealg_Cutover_code k (k + 1) i1)
theorem run_internal_bytealg_Cutover_of {i1 : Int} {r : Res} (k : Nat) (h : internal_bytealg_Cutover (k + 1) (k + 1) i1 = some r) : run_internal_bytealg_Cutover [.one (Cell.int i1)] [] = some r := lim_of ((internal_bytealg_Cutover_eq k i1).trans h)
noncomputable def pl_internal_bytealg_hashStr_string : List (Nat × Run) := []
noncomputable def G_internal_bytealg_hashStr_string : Ctx := ctx tyTab fiTab pl_internal_bytealg_hashStr_string
noncomputable def run_internal_bytealg_hashStr_string : Run := lim G_internal_bytealg_hashStr_string fid_internal_bytealg_hashStr_string
theorem ok_internal_bytealg_hashStr_string : FnOk Tryd.prog OkT fid_internal_bytealg_hashStr_string run_internal_bytealg_hashStr_string := lim_ok (l := pl_internal_bytealg_hashStr_string) Tryd_mix tyTab_ok fiTab_ok okT .nil fid_internal_bytealg_hashStr_string
noncomputable def internal_bytealg_hashStr_string_l1 (k m : Nat) : Nat → Int → Int → Int → Int → Option Res
  | 0, _, _, _, _ => none
  | n + 1, i6, i7, i8, i9 =>
    cond (decide (i9 > 0))
    (cond ((andI .i64 i9 1) != 0)
    (internal_bytealg_hashStr_string_l1 k m n i6 (IntKind.u32.wrap (i7 * i8)) (IntKind.u32.wrap (i8 * i8)) (shrI .i64 i9 1))
    (internal_bytealg_hashStr_string_l1 k m n i6 i7 (IntKind.u32.wrap (i8 * i8)) (shrI .i64 i9 1)))
    (some ([.one (.sc (.int .u32 i6)), .one (.sc (.int .u32 i7))], []))
noncomputable def internal_bytealg_hashStr_string_l0 (k m : Nat) : Nat → ByteArray → Int → Int → Option Res
  | 0, _, _, _ => none
  | n + 1, s2, i3, i4 =>
    cond (decide (i4 < (s2.size : Int)))
    ((bytS s2 i4).bind fun i5 =>
    internal_bytealg_hashStr_string_l0 k m n s2 (IntKind.u32.wrap ((IntKind.u32.wrap (i3 * 16777619)) + (IntKind.u32.wrap i5))) (IntKind.i64.wrap (i4 + 1)))
    (internal_bytealg_hashStr_string_l1 k m m i3 1 16777619 (s2.size : Int))
noncomputable def internal_bytealg_hashStr_string (k m : Nat) (s1 : ByteArray) : Option Res :=
  internal_bytealg_hashStr_string_l0 k m m s1 0 0
noncomputable abbrev internal_bytealg_hashStr_string_l0_B (k m : Nat) : (Ex → Fr → Option Res) → Fr → Option Res := evC G_internal_bytealg_hashStr_string fi_internal_bytealg_hashStr_string (evF G_internal_bytealg_hashStr_string (k + 1)) m (sub [1, 1, 0, 1, 2, 3] fi_internal_bytealg_hashStr_string.code) none
noncomputable abbrev internal_bytealg_hashStr_string_l0_K (k m : Nat) : Ex → Fr → Option Res := blockK 0 (seqK (evC G_internal_bytealg_hashStr_string fi_internal_bytealg_hashStr_string (evF G_internal_bytealg_hashStr_string (k + 1)) m (sub [1, 1, 1] fi_internal_bytealg_hashStr_string.code) none) (retK G_internal_bytealg_hashStr_string fi_internal_bytealg_hashStr_string))
noncomputable abbrev internal_bytealg_hashStr_string_l1_B (k m : Nat) : (Ex → Fr → Option Res) → Fr → Option Res := evC G_internal_bytealg_hashStr_string fi_internal_bytealg_hashStr_string (evF G_internal_bytealg_hashStr_string (k + 1)) m (sub [1, 1, 1, 1, 0, 1, 2, 3] fi_internal_bytealg_hashStr_string.code) none
noncomputable abbrev internal_bytealg_hashStr_string_l1_K (k m : Nat) : Ex → Fr → Option Res := blockK 2 (seqK (evC G_internal_bytealg_hashStr_string fi_internal_bytealg_hashStr_string (evF G_internal_bytealg_hashStr_string (k + 1)) m (sub [1, 1, 1, 1, 1] fi_internal_bytealg_hashStr_string.code) none) (retK G_internal_bytealg_hashStr_string fi_internal_bytealg_hashStr_string))
theorem internal_bytealg_hashStr_string_l1_eq (k m : Nat) : ∀ (n : Nat) (i6 : Int) (i7 : Int) (i8 : Int) (i9 : Int), loopK (some [4, 6, 7, 8]) (internal_bytealg_hashStr_string_l1_B k m) (internal_bytealg_hashStr_string_l1_K k m) n ⟨fT 39 0 [(4, .av (.one (.sc (.int .u32 i6)))), (6, .av (.one (.sc (.int .u32 i7)))), (7, .av (.one (.sc (.int .u32 i8)))), (8, .av (.one (Cell.int i9)))], fX 39 0 [], []⟩ = internal_bytealg_hashStr_string_l1 (k + 1) m n i6 i7 i8 i9 := by
  intro n
  induction n with
  | zero => intros; rfl
  | succ n ih =>
    intros
    simp only [internal_bytealg_hashStr_string_l1, ← ih]
    kernel_rfl
theorem internal_bytealg_hashStr_string_l0_eq (k m : Nat) : ∀ (n : Nat) (s2 : ByteArray) (i3 : Int) (i4 : Int), loopK (some [0, 4, 5]) (internal_bytealg_hashStr_string_l0_B k m) (internal_bytealg_hashStr_string_l0_K k m) n ⟨fT 39 0 [(0, .av (.one (Cell.str s2))), (4, .av (.one (.sc (.int .u32 i3)))), (5, .av (.one (Cell.int i4)))], fX 39 0 [], []⟩ = internal_bytealg_hashStr_string_l0 (k + 1) m n s2 i3 i4 := by
  intro n
  induction n with
  | zero => intros; rfl
  | succ n ih =>
    intros
    simp only [internal_bytealg_hashStr_string_l0, ← internal_bytealg_hashStr_string_l1_eq k m, ← ih]
    kernel_rfl
theorem internal_bytealg_hashStr_string_code (k m : Nat) (s1 : ByteArray) : evC G_internal_bytealg_hashStr_string fi_internal_bytealg_hashStr_string (evF G_internal_bytealg_hashStr_string (k + 1)) m fi_internal_bytealg_hashStr_string.code none (retK G_internal_bytealg_hashStr_string fi_internal_bytealg_hashStr_string) (enter fi_internal_bytealg_hashStr_string [.one (Cell.str s1)] []) = internal_bytealg_hashStr_string (k + 1) m s1 := by
  simp only [internal_bytealg_hashStr_string, ← internal_bytealg_hashStr_string_l0_eq k m]
  kernel_rfl
theorem internal_bytealg_hashStr_string_eq (k : Nat) (s1 : ByteArray) : evF G_internal_bytealg_hashStr_string (k + 2) fid_internal_bytealg_hashStr_string [.one (Cell.str s1)] [] = internal_bytealg_hashStr_string (k + 1) (k + 1) s1 :=
  Eq.trans (by kernel_rfl) (internal_bytealg_hashStr_string_code k (k + 1) s1)
theorem run_internal_bytealg_hashStr_string_of {s1 : ByteArray} {r : Res} (k : Nat) (h : internal_bytealg_hashStr_string (k + 1) (k + 1) s1 = some r) : run_internal_bytealg_hashStr_string [.one (Cell.str s1)] [] = some r := lim_of ((internal_bytealg_hashStr_string_eq k s1).trans h)
end Go.Ev
