/- What the evaluator says of the functions, each as a Lean function over cells. Printed by a program of this claim. Conditions: none. -/
import Derived.Test.YtaigckobkcihgaaDoorEvPr
import Derived.KernelRfl
namespace Go.Ev
open Go Go.Proofs
set_option maxRecDepth 100000
set_option linter.unusedVariables false
set_option linter.unusedSimpArgs false
noncomputable def pl_spec_Split : List (Nat × Run) := []
noncomputable def G_spec_Split : Ctx := ctx tyTab fiTab pl_spec_Split
noncomputable def run_spec_Split : Run := lim G_spec_Split fid_spec_Split
theorem ok_spec_Split : FnOk Tryd.prog OkT fid_spec_Split run_spec_Split := lim_ok (l := pl_spec_Split) Tryd_mix tyTab_ok fiTab_ok okT .nil fid_spec_Split
noncomputable def spec_Split_l0 (k m : Nat) : Nat → ByteArray → Int → Cell → Int → Int → List Entry → Option Res
  | 0, _, _, _, _, _, _ => none
  | n + 1, s3, i4, c5, i6, i7, H8 =>
    cond (decide (i7 ≤ (s3.size : Int)))
    (cond (i7 == (s3.size : Int))
    ((subS s3 i6 i7).bind fun s9 =>
    (app H8 1 16 (c5) [[Cell.str s9]]).bind fun p10 =>
    spec_Split_l0 k m n s3 i4 (p10.1) (IntKind.i64.wrap (i7 + 1)) (IntKind.i64.wrap (i7 + 1)) p10.2)
    ((bytS s3 i7).bind fun i11 =>
    cond (i11 == i4)
    ((subS s3 i6 i7).bind fun s12 =>
    (app H8 1 16 (c5) [[Cell.str s12]]).bind fun p13 =>
    spec_Split_l0 k m n s3 i4 (p13.1) (IntKind.i64.wrap (i7 + 1)) (IntKind.i64.wrap (i7 + 1)) p13.2)
    (spec_Split_l0 k m n s3 i4 (c5) i6 (IntKind.i64.wrap (i7 + 1)) H8)))
    (some ([.one (c5)], H8))
noncomputable def spec_Split (k m : Nat) (s1 : ByteArray) (i2 : Int) : Option Res :=
  spec_Split_l0 k m m s1 i2 (.lst true 1 []) 0 0 []
noncomputable abbrev spec_Split_l0_B (k m : Nat) : (Ex → Fr → Option Res) → Fr → Option Res := evC G_spec_Split fi_spec_Split (evF G_spec_Split (k + 1)) m (sub [1, 1, 1, 0, 1, 2, 3] fi_spec_Split.code) none
noncomputable abbrev spec_Split_l0_K (k m : Nat) : Ex → Fr → Option Res := blockK 0 (seqK (evC G_spec_Split fi_spec_Split (evF G_spec_Split (k + 1)) m (sub [1, 1, 1, 1] fi_spec_Split.code) none) (retK G_spec_Split fi_spec_Split))
theorem spec_Split_l0_eq (k m : Nat) : ∀ (n : Nat) (s3 : ByteArray) (i4 : Int) (c5 : Cell) (i6 : Int) (i7 : Int) (H8 : List Entry), loopK (some [0, 1, 5, 6, 7]) (spec_Split_l0_B k m) (spec_Split_l0_K k m) n ⟨fT 36 0 [(0, .av (.one (Cell.str s3))), (1, .av (.one (.sc (.int .u8 i4)))), (5, .av (.one (c5))), (6, .av (.one (Cell.int i6))), (7, .av (.one (Cell.int i7)))], fX 36 0 [], H8⟩ = spec_Split_l0 (k + 1) m n s3 i4 c5 i6 i7 H8 := by
  intro n
  induction n with
  | zero => intros; rfl
  | succ n ih =>
    intros
    simp only [spec_Split_l0, ← ih]
    kernel_rfl
theorem spec_Split_code (k m : Nat) (s1 : ByteArray) (i2 : Int) : evC G_spec_Split fi_spec_Split (evF G_spec_Split (k + 1)) m fi_spec_Split.code none (retK G_spec_Split fi_spec_Split) (enter fi_spec_Split [.one (Cell.str s1), .one (.sc (.int .u8 i2))] []) = spec_Split (k + 1) m s1 i2 := by
  simp only [spec_Split, ← spec_Split_l0_eq k m]
  kernel_rfl
theorem spec_Split_eq (k : Nat) (s1 : ByteArray) (i2 : Int) : evF G_spec_Split (k + 2) fid_spec_Split [.one (Cell.str s1), .one (.sc (.int .u8 i2))] [] = spec_Split (k + 1) (k + 1) s1 i2 :=
  Eq.trans (by kernel_rfl) (spec_Split_code k (k + 1) s1 i2)
theorem run_spec_Split_of {s1 : ByteArray} {i2 : Int} {r : Res} (k : Nat) (h : spec_Split (k + 1) (k + 1) s1 i2 = some r) : run_spec_Split [.one (Cell.str s1), .one (.sc (.int .u8 i2))] [] = some r := lim_of ((spec_Split_eq k s1 i2).trans h)
noncomputable def pl_spec_l14Head : List (Nat × Run) := []
noncomputable def G_spec_l14Head : Ctx := ctx tyTab fiTab pl_spec_l14Head
noncomputable def run_spec_l14Head : Run := lim G_spec_l14Head fid_spec_l14Head
theorem ok_spec_l14Head : FnOk Tryd.prog OkT fid_spec_l14Head run_spec_l14Head := lim_ok (l := pl_spec_l14Head) Tryd_mix tyTab_ok fiTab_ok okT .nil fid_spec_l14Head
noncomputable def spec_l14Head (k m : Nat) (s1 : ByteArray) (s2 : ByteArray) : Option Res :=
  cond (decide ((s1.size : Int) ≥ (s2.size : Int)))
  ((subS s1 0 (s2.size : Int)).bind fun s3 =>
  some ([.one (Cell.bool (s3.toList == s2.toList))], []))
  (some ([.one (Cell.bool false)], []))
theorem spec_l14Head_code (k m : Nat) (s1 : ByteArray) (s2 : ByteArray) : evC G_spec_l14Head fi_spec_l14Head (evF G_spec_l14Head (k + 1)) m fi_spec_l14Head.code none (retK G_spec_l14Head fi_spec_l14Head) (enter fi_spec_l14Head [.one (Cell.str s1), .one (Cell.str s2)] []) = spec_l14Head (k + 1) m s1 s2 := by
  kernel_rfl
theorem spec_l14Head_eq (k : Nat) (s1 : ByteArray) (s2 : ByteArray) : evF G_spec_l14Head (k + 2) fid_spec_l14Head [.one (Cell.str s1), .one (Cell.str s2)] [] = spec_l14Head (k + 1) (k + 1) s1 s2 :=
  Eq.trans (by kernel_rfl) (spec_l14Head_code k (k + 1) s1 s2)
theorem run_spec_l14Head_of {s1 : ByteArray} {s2 : ByteArray} {r : Res} (k : Nat) (h : spec_l14Head (k + 1) (k + 1) s1 s2 = some r) : run_spec_l14Head [.one (Cell.str s1), .one (Cell.str s2)] [] = some r := lim_of ((spec_l14Head_eq k s1 s2).trans h)
noncomputable def pl_spec_l14Tail : List (Nat × Run) := []
noncomputable def G_spec_l14Tail : Ctx := ctx tyTab fiTab pl_spec_l14Tail
noncomputable def run_spec_l14Tail : Run := lim G_spec_l14Tail fid_spec_l14Tail
theorem ok_spec_l14Tail : FnOk Tryd.prog OkT fid_spec_l14Tail run_spec_l14Tail := lim_ok (l := pl_spec_l14Tail) Tryd_mix tyTab_ok fiTab_ok okT .nil fid_spec_l14Tail
noncomputable def spec_l14Tail (k m : Nat) (s1 : ByteArray) (s2 : ByteArray) : Option Res :=
  cond (decide ((s1.size : Int) ≥ (s2.size : Int)))
  ((subS s1 (IntKind.i64.wrap ((s1.size : Int) - (s2.size : Int))) (s1.size : Int)).bind fun s3 =>
  some ([.one (Cell.bool (s3.toList == s2.toList))], []))
  (some ([.one (Cell.bool false)], []))
theorem spec_l14Tail_code (k m : Nat) (s1 : ByteArray) (s2 : ByteArray) : evC G_spec_l14Tail fi_spec_l14Tail (evF G_spec_l14Tail (k + 1)) m fi_spec_l14Tail.code none (retK G_spec_l14Tail fi_spec_l14Tail) (enter fi_spec_l14Tail [.one (Cell.str s1), .one (Cell.str s2)] []) = spec_l14Tail (k + 1) m s1 s2 := by
  kernel_rfl
theorem spec_l14Tail_eq (k : Nat) (s1 : ByteArray) (s2 : ByteArray) : evF G_spec_l14Tail (k + 2) fid_spec_l14Tail [.one (Cell.str s1), .one (Cell.str s2)] [] = spec_l14Tail (k + 1) (k + 1) s1 s2 :=
  Eq.trans (by kernel_rfl) (spec_l14Tail_code k (k + 1) s1 s2)
theorem run_spec_l14Tail_of {s1 : ByteArray} {s2 : ByteArray} {r : Res} (k : Nat) (h : spec_l14Tail (k + 1) (k + 1) s1 s2 = some r) : run_spec_l14Tail [.one (Cell.str s1), .one (Cell.str s2)] [] = some r := lim_of ((spec_l14Tail_eq k s1 s2).trans h)
noncomputable def pl_spec_l1In : List (Nat × Run) := []
noncomputable def G_spec_l1In : Ctx := ctx tyTab fiTab pl_spec_l1In
noncomputable def run_spec_l1In : Run := lim G_spec_l1In fid_spec_l1In
theorem ok_spec_l1In : FnOk Tryd.prog OkT fid_spec_l1In run_spec_l1In := lim_ok (l := pl_spec_l1In) Tryd_mix tyTab_ok fiTab_ok okT .nil fid_spec_l1In
noncomputable def spec_l1In (k m : Nat) (i1 : Int) (i2 : Int) (i3 : Int) : Option Res :=
  cond (decide (i1 ≥ i2))
  (some ([.one (Cell.bool (decide (i1 ≤ i3)))], []))
  (some ([.one (Cell.bool false)], []))
theorem spec_l1In_code (k m : Nat) (i1 : Int) (i2 : Int) (i3 : Int) : evC G_spec_l1In fi_spec_l1In (evF G_spec_l1In (k + 1)) m fi_spec_l1In.code none (retK G_spec_l1In fi_spec_l1In) (enter fi_spec_l1In [.one (Cell.int i1), .one (Cell.int i2), .one (Cell.int i3)] []) = spec_l1In (k + 1) m i1 i2 i3 := by
  kernel_rfl
theorem spec_l1In_eq (k : Nat) (i1 : Int) (i2 : Int) (i3 : Int) : evF G_spec_l1In (k + 2) fid_spec_l1In [.one (Cell.int i1), .one (Cell.int i2), .one (Cell.int i3)] [] = spec_l1In (k + 1) (k + 1) i1 i2 i3 :=
  Eq.trans (by kernel_rfl) (spec_l1In_code k (k + 1) i1 i2 i3)
theorem run_spec_l1In_of {i1 : Int} {i2 : Int} {i3 : Int} {r : Res} (k : Nat) (h : spec_l1In (k + 1) (k + 1) i1 i2 i3 = some r) : run_spec_l1In [.one (Cell.int i1), .one (Cell.int i2), .one (Cell.int i3)] [] = some r := lim_of ((spec_l1In_eq k i1 i2 i3).trans h)
noncomputable def pl_spec_l1Digit : List (Nat × Run) := [(fid_spec_l1In, run_spec_l1In)]
noncomputable def G_spec_l1Digit : Ctx := ctx tyTab fiTab pl_spec_l1Digit
noncomputable def run_spec_l1Digit : Run := lim G_spec_l1Digit fid_spec_l1Digit
theorem ok_spec_l1Digit : FnOk Tryd.prog OkT fid_spec_l1Digit run_spec_l1Digit := lim_ok (l := pl_spec_l1Digit) Tryd_mix tyTab_ok fiTab_ok okT (.cons ok_spec_l1In .nil) fid_spec_l1Digit
noncomputable def spec_l1Digit (k m : Nat) (i1 : Int) : Option Res :=
  (callS run_spec_l1In [.one (Cell.int (IntKind.i64.wrap i1)), .one (Cell.int 48), .one (Cell.int 57)] []).bind fun r2 =>
  cond (shapeOk rk_spec_l1In r2)
  ((cB (cellsAt r2 0) 0).bind fun b3 =>
  some ([.one (Cell.bool b3)], []))
  none
theorem spec_l1Digit_code (k m : Nat) (i1 : Int) : evC G_spec_l1Digit fi_spec_l1Digit (evF G_spec_l1Digit (k + 1)) m fi_spec_l1Digit.code none (retK G_spec_l1Digit fi_spec_l1Digit) (enter fi_spec_l1Digit [.one (.sc (.int .u8 i1))] []) = spec_l1Digit (k + 1) m i1 := by
  kernel_rfl
theorem spec_l1Digit_eq (k : Nat) (i1 : Int) : evF G_spec_l1Digit (k + 2) fid_spec_l1Digit [.one (.sc (.int .u8 i1))] [] = spec_l1Digit (k + 1) (k + 1) i1 :=
  Eq.trans (by kernel_rfl) (spec_l1Digit_code k (k + 1) i1)
theorem run_spec_l1Digit_of {i1 : Int} {r : Res} (k : Nat) (h : spec_l1Digit (k + 1) (k + 1) i1 = some r) : run_spec_l1Digit [.one (.sc (.int .u8 i1))] [] = some r := lim_of ((spec_l1Digit_eq k i1).trans h)
noncomputable def pl_spec_l1Small : List (Nat × Run) := [(fid_spec_l1In, run_spec_l1In)]
noncomputable def G_spec_l1Small : Ctx := ctx tyTab fiTab pl_spec_l1Small
noncomputable def run_spec_l1Small : Run := lim G_spec_l1Small fid_spec_l1Small
theorem ok_spec_l1Small : FnOk Tryd.prog OkT fid_spec_l1Small run_spec_l1Small := lim_ok (l := pl_spec_l1Small) Tryd_mix tyTab_ok fiTab_ok okT (.cons ok_spec_l1In .nil) fid_spec_l1Small
noncomputable def spec_l1Small (k m : Nat) (i1 : Int) : Option Res :=
  (callS run_spec_l1In [.one (Cell.int (IntKind.i64.wrap i1)), .one (Cell.int 97), .one (Cell.int 122)] []).bind fun r2 =>
  cond (shapeOk rk_spec_l1In r2)
  ((cB (cellsAt r2 0) 0).bind fun b3 =>
  some ([.one (Cell.bool b3)], []))
  none
theorem spec_l1Small_code (k m : Nat) (i1 : Int) : evC G_spec_l1Small fi_spec_l1Small (evF G_spec_l1Small (k + 1)) m fi_spec_l1Small.code none (retK G_spec_l1Small fi_spec_l1Small) (enter fi_spec_l1Small [.one (.sc (.int .u8 i1))] []) = spec_l1Small (k + 1) m i1 := by
  kernel_rfl
theorem spec_l1Small_eq (k : Nat) (i1 : Int) : evF G_spec_l1Small (k + 2) fid_spec_l1Small [.one (.sc (.int .u8 i1))] [] = spec_l1Small (k + 1) (k + 1) i1 :=
  Eq.trans (by kernel_rfl) (spec_l1Small_code k (k + 1) i1)
theorem run_spec_l1Small_of {i1 : Int} {r : Res} (k : Nat) (h : spec_l1Small (k + 1) (k + 1) i1 = some r) : run_spec_l1Small [.one (.sc (.int .u8 i1))] [] = some r := lim_of ((spec_l1Small_eq k i1).trans h)
noncomputable def pl_spec_l5Letter : List (Nat × Run) := [(fid_spec_l1Digit, run_spec_l1Digit), (fid_spec_l1Small, run_spec_l1Small)]
noncomputable def G_spec_l5Letter : Ctx := ctx tyTab fiTab pl_spec_l5Letter
noncomputable def run_spec_l5Letter : Run := lim G_spec_l5Letter fid_spec_l5Letter
theorem ok_spec_l5Letter : FnOk Tryd.prog OkT fid_spec_l5Letter run_spec_l5Letter := lim_ok (l := pl_spec_l5Letter) Tryd_mix tyTab_ok fiTab_ok okT (.cons ok_spec_l1Digit (.cons ok_spec_l1Small .nil)) fid_spec_l5Letter
noncomputable def spec_l5Letter (k m : Nat) (i1 : Int) : Option Res :=
  (callS run_spec_l1Small [.one (.sc (.int .u8 i1))] []).bind fun r2 =>
  cond (shapeOk rk_spec_l1Small r2)
  ((cB (cellsAt r2 0) 0).bind fun b3 =>
  cond b3
  (some ([.one (Cell.bool true)], []))
  ((callS run_spec_l1Digit [.one (.sc (.int .u8 i1))] []).bind fun r4 =>
  cond (shapeOk rk_spec_l1Digit r4)
  ((cB (cellsAt r4 0) 0).bind fun b5 =>
  cond b5
  (some ([.one (Cell.bool true)], []))
  (cond (i1 == 46)
  (some ([.one (Cell.bool true)], []))
  (cond (i1 == 45)
  (some ([.one (Cell.bool true)], []))
  (some ([.one (Cell.bool (i1 == 95))], [])))))
  none))
  none
theorem spec_l5Letter_code (k m : Nat) (i1 : Int) : evC G_spec_l5Letter fi_spec_l5Letter (evF G_spec_l5Letter (k + 1)) m fi_spec_l5Letter.code none (retK G_spec_l5Letter fi_spec_l5Letter) (enter fi_spec_l5Letter [.one (.sc (.int .u8 i1))] []) = spec_l5Letter (k + 1) m i1 := by
  kernel_rfl
theorem spec_l5Letter_eq (k : Nat) (i1 : Int) : evF G_spec_l5Letter (k + 2) fid_spec_l5Letter [.one (.sc (.int .u8 i1))] [] = spec_l5Letter (k + 1) (k + 1) i1 :=
  Eq.trans (by kernel_rfl) (spec_l5Letter_code k (k + 1) i1)
theorem run_spec_l5Letter_of {i1 : Int} {r : Res} (k : Nat) (h : spec_l5Letter (k + 1) (k + 1) i1 = some r) : run_spec_l5Letter [.one (.sc (.int .u8 i1))] [] = some r := lim_of ((spec_l5Letter_eq k i1).trans h)
noncomputable def pl_spec_l6Class : List (Nat × Run) := [(fid_spec_l1Digit, run_spec_l1Digit), (fid_spec_l1In, run_spec_l1In), (fid_spec_l1Small, run_spec_l1Small)]
noncomputable def G_spec_l6Class : Ctx := ctx tyTab fiTab pl_spec_l6Class
noncomputable def run_spec_l6Class : Run := lim G_spec_l6Class fid_spec_l6Class
theorem ok_spec_l6Class : FnOk Tryd.prog OkT fid_spec_l6Class run_spec_l6Class := lim_ok (l := pl_spec_l6Class) Tryd_mix tyTab_ok fiTab_ok okT (.cons ok_spec_l1Digit (.cons ok_spec_l1In (.cons ok_spec_l1Small .nil))) fid_spec_l6Class
noncomputable def spec_l6Class_l0 (k m : Nat) : Nat → ByteArray → Int → Int → Option Res
  | 0, _, _, _ => none
  | n + 1, s4, i5, i6 =>
    cond (decide (i5 < (s4.size : Int)))
    ((bytS s4 i5).bind fun i7 =>
    (callS run_spec_l1Small [.one (.sc (.int .u8 i7))] []).bind fun r8 =>
    cond (shapeOk rk_spec_l1Small r8)
    ((cB (cellsAt r8 0) 0).bind fun b9 =>
    cond b9
    (spec_l6Class_l0 k m n s4 (IntKind.i64.wrap (i5 + 1)) (IntKind.i64.wrap (i6 + 1)))
    ((bytS s4 i5).bind fun i10 =>
    (callS run_spec_l1Digit [.one (.sc (.int .u8 i10))] []).bind fun r11 =>
    cond (shapeOk rk_spec_l1Digit r11)
    ((cB (cellsAt r11 0) 0).bind fun b12 =>
    cond b12
    (spec_l6Class_l0 k m n s4 (IntKind.i64.wrap (i5 + 1)) (IntKind.i64.wrap (i6 + 1)))
    ((callS run_spec_l1In [.one (Cell.int i6), .one (Cell.int 1), .one (Cell.int 5)] []).bind fun r13 =>
    cond (shapeOk rk_spec_l1In r13)
    ((cB (cellsAt r13 0) 0).bind fun b14 =>
    cond (!b14)
    (some ([.one (Cell.int (-1))], []))
    (cond (decide (i5 ≥ (s4.size : Int)))
    (some ([.one (Cell.int (-1))], []))
    ((bytS s4 i5).bind fun i15 =>
    cond (i15 != 93)
    (some ([.one (Cell.int (-1))], []))
    (some ([.one (Cell.int (IntKind.i64.wrap (i5 + 1)))], [])))))
    none))
    none))
    none)
    ((callS run_spec_l1In [.one (Cell.int i6), .one (Cell.int 1), .one (Cell.int 5)] []).bind fun r16 =>
    cond (shapeOk rk_spec_l1In r16)
    ((cB (cellsAt r16 0) 0).bind fun b17 =>
    cond (!b17)
    (some ([.one (Cell.int (-1))], []))
    (cond (decide (i5 ≥ (s4.size : Int)))
    (some ([.one (Cell.int (-1))], []))
    ((bytS s4 i5).bind fun i18 =>
    cond (i18 != 93)
    (some ([.one (Cell.int (-1))], []))
    (some ([.one (Cell.int (IntKind.i64.wrap (i5 + 1)))], [])))))
    none)
noncomputable def spec_l6Class (k m : Nat) (s1 : ByteArray) (i2 : Int) : Option Res :=
  cond (decide ((IntKind.i64.wrap (i2 + 1)) < (s1.size : Int)))
  ((bytS s1 (IntKind.i64.wrap (i2 + 1))).bind fun i3 =>
  cond (i3 == 33)
  (spec_l6Class_l0 k m m s1 (IntKind.i64.wrap ((IntKind.i64.wrap (i2 + 1)) + 1)) 0)
  (spec_l6Class_l0 k m m s1 (IntKind.i64.wrap (i2 + 1)) 0))
  (spec_l6Class_l0 k m m s1 (IntKind.i64.wrap (i2 + 1)) 0)
noncomputable abbrev spec_l6Class_l0_B (k m : Nat) : (Ex → Fr → Option Res) → Fr → Option Res := evC G_spec_l6Class fi_spec_l6Class (evF G_spec_l6Class (k + 1)) m (sub [1, 1, 1, 1, 0, 2, 3] fi_spec_l6Class.code) none
noncomputable abbrev spec_l6Class_l0_K (k m : Nat) : Ex → Fr → Option Res := blockK 0 (seqK (evC G_spec_l6Class fi_spec_l6Class (evF G_spec_l6Class (k + 1)) m (sub [1, 1, 1, 1, 1] fi_spec_l6Class.code) none) (retK G_spec_l6Class fi_spec_l6Class))
theorem spec_l6Class_l0_eq (k m : Nat) : ∀ (n : Nat) (s4 : ByteArray) (i5 : Int) (i6 : Int), loopK (some [0, 5, 6]) (spec_l6Class_l0_B k m) (spec_l6Class_l0_K k m) n ⟨fT 58 0 [(0, .av (.one (Cell.str s4))), (5, .av (.one (Cell.int i5))), (6, .av (.one (Cell.int i6)))], fX 58 0 [], []⟩ = spec_l6Class_l0 (k + 1) m n s4 i5 i6 := by
  intro n
  induction n with
  | zero => intros; rfl
  | succ n ih =>
    intros
    simp only [spec_l6Class_l0, ← ih]
    kernel_rfl
theorem spec_l6Class_code (k m : Nat) (s1 : ByteArray) (i2 : Int) : evC G_spec_l6Class fi_spec_l6Class (evF G_spec_l6Class (k + 1)) m fi_spec_l6Class.code none (retK G_spec_l6Class fi_spec_l6Class) (enter fi_spec_l6Class [.one (Cell.str s1), .one (Cell.int i2)] []) = spec_l6Class (k + 1) m s1 i2 := by
  simp only [spec_l6Class, ← spec_l6Class_l0_eq k m]
  kernel_rfl
theorem spec_l6Class_eq (k : Nat) (s1 : ByteArray) (i2 : Int) : evF G_spec_l6Class (k + 2) fid_spec_l6Class [.one (Cell.str s1), .one (Cell.int i2)] [] = spec_l6Class (k + 1) (k + 1) s1 i2 :=
  Eq.trans (by kernel_rfl) (spec_l6Class_code k (k + 1) s1 i2)
theorem run_spec_l6Class_of {s1 : ByteArray} {i2 : Int} {r : Res} (k : Nat) (h : spec_l6Class (k + 1) (k + 1) s1 i2 = some r) : run_spec_l6Class [.one (Cell.str s1), .one (Cell.int i2)] [] = some r := lim_of ((spec_l6Class_eq k s1 i2).trans h)
noncomputable def pl_spec_l6Piece : List (Nat × Run) := [(fid_spec_l1In, run_spec_l1In), (fid_spec_l5Letter, run_spec_l5Letter), (fid_spec_l6Class, run_spec_l6Class)]
noncomputable def G_spec_l6Piece : Ctx := ctx tyTab fiTab pl_spec_l6Piece
noncomputable def run_spec_l6Piece : Run := lim G_spec_l6Piece fid_spec_l6Piece
theorem ok_spec_l6Piece : FnOk Tryd.prog OkT fid_spec_l6Piece run_spec_l6Piece := lim_ok (l := pl_spec_l6Piece) Tryd_mix tyTab_ok fiTab_ok okT (.cons ok_spec_l1In (.cons ok_spec_l5Letter (.cons ok_spec_l6Class .nil))) fid_spec_l6Piece
noncomputable def spec_l6Piece_l0 (k m : Nat) : Nat → ByteArray → Int → Int → Option Res
  | 0, _, _, _ => none
  | n + 1, s2, i3, i4 =>
    cond (decide (i4 < (s2.size : Int)))
    ((bytS s2 i4).bind fun i5 =>
    cond (i5 == 91)
    ((callS run_spec_l6Class [.one (Cell.str s2), .one (Cell.int i4)] []).bind fun r6 =>
    cond (shapeOk rk_spec_l6Class r6)
    ((cI .i64 (cellsAt r6 0) 0).bind fun i7 =>
    cond (decide (i7 < 0))
    (some ([.one (Cell.bool false)], []))
    (spec_l6Piece_l0 k m n s2 (IntKind.i64.wrap (i3 + 1)) i7))
    none)
    ((bytS s2 i4).bind fun i8 =>
    (callS run_spec_l5Letter [.one (.sc (.int .u8 i8))] []).bind fun r9 =>
    cond (shapeOk rk_spec_l5Letter r9)
    ((cB (cellsAt r9 0) 0).bind fun b10 =>
    cond b10
    (spec_l6Piece_l0 k m n s2 (IntKind.i64.wrap (i3 + 1)) (IntKind.i64.wrap (i4 + 1)))
    ((bytS s2 i4).bind fun i11 =>
    cond (i11 == 63)
    (spec_l6Piece_l0 k m n s2 (IntKind.i64.wrap (i3 + 1)) (IntKind.i64.wrap (i4 + 1)))
    ((bytS s2 i4).bind fun i12 =>
    cond (i12 == 42)
    (spec_l6Piece_l0 k m n s2 (IntKind.i64.wrap (i3 + 1)) (IntKind.i64.wrap (i4 + 1)))
    (some ([.one (Cell.bool false)], [])))))
    none))
    ((callS run_spec_l1In [.one (Cell.int i3), .one (Cell.int 1), .one (Cell.int 12)] []).bind fun r13 =>
    cond (shapeOk rk_spec_l1In r13)
    ((cB (cellsAt r13 0) 0).bind fun b14 =>
    some ([.one (Cell.bool b14)], []))
    none)
noncomputable def spec_l6Piece (k m : Nat) (s1 : ByteArray) : Option Res :=
  spec_l6Piece_l0 k m m s1 0 0
noncomputable abbrev spec_l6Piece_l0_B (k m : Nat) : (Ex → Fr → Option Res) → Fr → Option Res := evC G_spec_l6Piece fi_spec_l6Piece (evF G_spec_l6Piece (k + 1)) m (sub [1, 1, 0, 1, 2, 3] fi_spec_l6Piece.code) none
noncomputable abbrev spec_l6Piece_l0_K (k m : Nat) : Ex → Fr → Option Res := blockK 0 (seqK (evC G_spec_l6Piece fi_spec_l6Piece (evF G_spec_l6Piece (k + 1)) m (sub [1, 1, 1] fi_spec_l6Piece.code) none) (retK G_spec_l6Piece fi_spec_l6Piece))
theorem spec_l6Piece_l0_eq (k m : Nat) : ∀ (n : Nat) (s2 : ByteArray) (i3 : Int) (i4 : Int), loopK (some [0, 3, 4]) (spec_l6Piece_l0_B k m) (spec_l6Piece_l0_K k m) n ⟨fT 42 0 [(0, .av (.one (Cell.str s2))), (3, .av (.one (Cell.int i3))), (4, .av (.one (Cell.int i4)))], fX 42 0 [], []⟩ = spec_l6Piece_l0 (k + 1) m n s2 i3 i4 := by
  intro n
  induction n with
  | zero => intros; rfl
  | succ n ih =>
    intros
    simp only [spec_l6Piece_l0, ← ih]
    kernel_rfl
theorem spec_l6Piece_code (k m : Nat) (s1 : ByteArray) : evC G_spec_l6Piece fi_spec_l6Piece (evF G_spec_l6Piece (k + 1)) m fi_spec_l6Piece.code none (retK G_spec_l6Piece fi_spec_l6Piece) (enter fi_spec_l6Piece [.one (Cell.str s1)] []) = spec_l6Piece (k + 1) m s1 := by
  simp only [spec_l6Piece, ← spec_l6Piece_l0_eq k m]
  kernel_rfl
theorem spec_l6Piece_eq (k : Nat) (s1 : ByteArray) : evF G_spec_l6Piece (k + 2) fid_spec_l6Piece [.one (Cell.str s1)] [] = spec_l6Piece (k + 1) (k + 1) s1 :=
  Eq.trans (by kernel_rfl) (spec_l6Piece_code k (k + 1) s1)
theorem run_spec_l6Piece_of {s1 : ByteArray} {r : Res} (k : Nat) (h : spec_l6Piece (k + 1) (k + 1) s1 = some r) : run_spec_l6Piece [.one (Cell.str s1)] [] = some r := lim_of ((spec_l6Piece_eq k s1).trans h)
noncomputable def pl_spec_l14One : List (Nat × Run) := [(fid_spec_l14Head, run_spec_l14Head), (fid_spec_l14Tail, run_spec_l14Tail), (fid_spec_l6Piece, run_spec_l6Piece)]
noncomputable def G_spec_l14One : Ctx := ctx tyTab fiTab pl_spec_l14One
noncomputable def run_spec_l14One : Run := lim G_spec_l14One fid_spec_l14One
theorem ok_spec_l14One : FnOk Tryd.prog OkT fid_spec_l14One run_spec_l14One := lim_ok (l := pl_spec_l14One) Tryd_mix tyTab_ok fiTab_ok okT (.cons ok_spec_l14Head (.cons ok_spec_l14Tail (.cons ok_spec_l6Piece .nil))) fid_spec_l14One
noncomputable def spec_l14One (k m : Nat) (s1 : ByteArray) : Option Res :=
  (callS run_spec_l14Head [.one (Cell.str s1), .one (Cell.str (bs [33]))] []).bind fun r2 =>
  cond (shapeOk rk_spec_l14Head r2)
  ((cB (cellsAt r2 0) 0).bind fun b3 =>
  cond b3
  ((subS s1 1 (s1.size : Int)).bind fun s4 =>
  (callS (evF G_spec_l14One k fid_spec_l14One) [.one (Cell.str s4)] []).bind fun r5 =>
  cond (shapeOk rk_spec_l14One r5)
  ((cB (cellsAt r5 0) 0).bind fun b6 =>
  some ([.one (Cell.bool b6)], []))
  none)
  ((callS run_spec_l14Head [.one (Cell.str s1), .one (Cell.str (bs [46, 46, 46]))] []).bind fun r7 =>
  cond (shapeOk rk_spec_l14Head r7)
  ((cB (cellsAt r7 0) 0).bind fun b8 =>
  cond b8
  ((subS s1 3 (s1.size : Int)).bind fun s9 =>
  (callS (evF G_spec_l14One k fid_spec_l14One) [.one (Cell.str s9)] []).bind fun r10 =>
  cond (shapeOk rk_spec_l14One r10)
  ((cB (cellsAt r10 0) 0).bind fun b11 =>
  some ([.one (Cell.bool b11)], []))
  none)
  ((callS run_spec_l14Tail [.one (Cell.str s1), .one (Cell.str (bs [46, 46, 46]))] []).bind fun r12 =>
  cond (shapeOk rk_spec_l14Tail r12)
  ((cB (cellsAt r12 0) 0).bind fun b13 =>
  cond b13
  ((subS s1 0 (IntKind.i64.wrap ((s1.size : Int) - 3))).bind fun s14 =>
  (callS (evF G_spec_l14One k fid_spec_l14One) [.one (Cell.str s14)] []).bind fun r15 =>
  cond (shapeOk rk_spec_l14One r15)
  ((cB (cellsAt r15 0) 0).bind fun b16 =>
  some ([.one (Cell.bool b16)], []))
  none)
  (cond (s1.toList == (bs [91, 115, 105, 110, 99, 101, 93]).toList)
  (some ([.one (Cell.bool true)], []))
  ((callS run_spec_l6Piece [.one (Cell.str s1)] []).bind fun r17 =>
  cond (shapeOk rk_spec_l6Piece r17)
  ((cB (cellsAt r17 0) 0).bind fun b18 =>
  cond b18
  (some ([.one (Cell.bool (decide ((s1.size : Int) ≤ 20)))], []))
  (some ([.one (Cell.bool false)], [])))
  none)))
  none))
  none))
  none
theorem spec_l14One_code (k m : Nat) (s1 : ByteArray) : evC G_spec_l14One fi_spec_l14One (evF G_spec_l14One (k + 1)) m fi_spec_l14One.code none (retK G_spec_l14One fi_spec_l14One) (enter fi_spec_l14One [.one (Cell.str s1)] []) = spec_l14One (k + 1) m s1 := by
  kernel_rfl
theorem spec_l14One_eq (k : Nat) (s1 : ByteArray) : evF G_spec_l14One (k + 2) fid_spec_l14One [.one (Cell.str s1)] [] = spec_l14One (k + 1) (k + 1) s1 :=
  Eq.trans (by kernel_rfl) (spec_l14One_code k (k + 1) s1)
theorem run_spec_l14One_of {s1 : ByteArray} {r : Res} (k : Nat) (h : spec_l14One (k + 1) (k + 1) s1 = some r) : run_spec_l14One [.one (Cell.str s1)] [] = some r := lim_of ((spec_l14One_eq k s1).trans h)
noncomputable def pl_spec_FilterOk : List (Nat × Run) := [(fid_spec_Split, run_spec_Split), (fid_spec_l14One, run_spec_l14One)]
noncomputable def G_spec_FilterOk : Ctx := ctx tyTab fiTab pl_spec_FilterOk
noncomputable def run_spec_FilterOk : Run := lim G_spec_FilterOk fid_spec_FilterOk
theorem ok_spec_FilterOk : FnOk Tryd.prog OkT fid_spec_FilterOk run_spec_FilterOk := lim_ok (l := pl_spec_FilterOk) Tryd_mix tyTab_ok fiTab_ok okT (.cons ok_spec_Split (.cons ok_spec_l14One .nil)) fid_spec_FilterOk
noncomputable def spec_FilterOk_l0 (k m : Nat) : Nat → Cell → Int → List Entry → Option Res
  | 0, _, _, _ => none
  | n + 1, c4, i5, H6 =>
    (lenC c4).bind fun n7 =>
    cond (decide (i5 < (n7 : Int)))
    ((idxA 1 (c4) i5).bind fun c8 =>
    (deref H6 (c8)).bind fun p9 =>
    (cS p9.1 p9.2).bind fun s10 =>
    (callS run_spec_l14One [.one (Cell.str s10)] H6).bind fun r11 =>
    cond (shapeOk rk_spec_l14One r11)
    ((cB (cellsAt r11 0) 0).bind fun b12 =>
    cond (!b12)
    (some ([.one (Cell.bool false)], H6))
    (spec_FilterOk_l0 k m n (c4) (IntKind.i64.wrap (i5 + 1)) H6))
    none)
    ((lenC c4).bind fun n13 =>
    some ([.one (Cell.bool (decide ((n13 : Int) ≤ 4)))], H6))
noncomputable def spec_FilterOk (k m : Nat) (s1 : ByteArray) : Option Res :=
  (callL run_spec_Split [.one (Cell.str s1), .one (.sc (.int .u8 32))] []).bind fun r2 =>
  cond (shapeOk rk_spec_Split r2.1)
  ((cC (cellsAt r2.1 0) 0).bind fun c3 =>
  spec_FilterOk_l0 k m m (c3) 0 r2.2)
  none
noncomputable abbrev spec_FilterOk_l0_B (k m : Nat) : (Ex → Fr → Option Res) → Fr → Option Res := evC G_spec_FilterOk fi_spec_FilterOk (evF G_spec_FilterOk (k + 1)) m (sub [1, 1, 0, 1, 2, 3] fi_spec_FilterOk.code) none
noncomputable abbrev spec_FilterOk_l0_K (k m : Nat) : Ex → Fr → Option Res := blockK 0 (seqK (evC G_spec_FilterOk fi_spec_FilterOk (evF G_spec_FilterOk (k + 1)) m (sub [1, 1, 1] fi_spec_FilterOk.code) none) (retK G_spec_FilterOk fi_spec_FilterOk))
theorem spec_FilterOk_l0_eq (k m : Nat) : ∀ (n : Nat) (c4 : Cell) (i5 : Int) (H6 : List Entry), loopK (some [3, 4]) (spec_FilterOk_l0_B k m) (spec_FilterOk_l0_K k m) n ⟨fT 22 0 [(3, .av (.one (c4))), (4, .av (.one (Cell.int i5)))], fX 22 0 [], H6⟩ = spec_FilterOk_l0 (k + 1) m n c4 i5 H6 := by
  intro n
  induction n with
  | zero => intros; rfl
  | succ n ih =>
    intros
    simp only [spec_FilterOk_l0, ← ih]
    kernel_rfl
theorem spec_FilterOk_code (k m : Nat) (s1 : ByteArray) : evC G_spec_FilterOk fi_spec_FilterOk (evF G_spec_FilterOk (k + 1)) m fi_spec_FilterOk.code none (retK G_spec_FilterOk fi_spec_FilterOk) (enter fi_spec_FilterOk [.one (Cell.str s1)] []) = spec_FilterOk (k + 1) m s1 := by
  simp only [spec_FilterOk, ← spec_FilterOk_l0_eq k m]
  kernel_rfl
theorem spec_FilterOk_eq (k : Nat) (s1 : ByteArray) : evF G_spec_FilterOk (k + 2) fid_spec_FilterOk [.one (Cell.str s1)] [] = spec_FilterOk (k + 1) (k + 1) s1 :=
  Eq.trans (by kernel_rfl) (spec_FilterOk_code k (k + 1) s1)
theorem run_spec_FilterOk_of {s1 : ByteArray} {r : Res} (k : Nat) (h : spec_FilterOk (k + 1) (k + 1) s1 = some r) : run_spec_FilterOk [.one (Cell.str s1)] [] = some r := lim_of ((spec_FilterOk_eq k s1).trans h)
noncomputable def pl_unicode_utf8_RuneCountInString : List (Nat × Run) := []
noncomputable def G_unicode_utf8_RuneCountInString : Ctx := ctx tyTab fiTab pl_unicode_utf8_RuneCountInString
noncomputable def run_unicode_utf8_RuneCountInString : Run := lim G_unicode_utf8_RuneCountInString fid_unicode_utf8_RuneCountInString
theorem ok_unicode_utf8_RuneCountInString : FnOk Tryd.prog OkT fid_unicode_utf8_RuneCountInString run_unicode_utf8_RuneCountInString := lim_ok (l := pl_unicode_utf8_RuneCountInString) Tryd_mix tyTab_ok fiTab_ok okT .nil fid_unicode_utf8_RuneCountInString
noncomputable def unicode_utf8_RuneCountInString (k m : Nat) (s1 : ByteArray) : Option Res :=
  none
theorem unicode_utf8_RuneCountInString_code (k m : Nat) (s1 : ByteArray) : evC G_unicode_utf8_RuneCountInString fi_unicode_utf8_RuneCountInString (evF G_unicode_utf8_RuneCountInString (k + 1)) m fi_unicode_utf8_RuneCountInString.code none (retK G_unicode_utf8_RuneCountInString fi_unicode_utf8_RuneCountInString) (enter fi_unicode_utf8_RuneCountInString [.one (Cell.str s1)] []) = unicode_utf8_RuneCountInString (k + 1) m s1 := by
  kernel_rfl
theorem unicode_utf8_RuneCountInString_eq (k : Nat) (s1 : ByteArray) : evF G_unicode_utf8_RuneCountInString (k + 2) fid_unicode_utf8_RuneCountInString [.one (Cell.str s1)] [] = unicode_utf8_RuneCountInString (k + 1) (k + 1) s1 :=
  Eq.trans (by kernel_rfl) (unicode_utf8_RuneCountInString_code k (k + 1) s1)
theorem run_unicode_utf8_RuneCountInString_of {s1 : ByteArray} {r : Res} (k : Nat) (h : unicode_utf8_RuneCountInString (k + 1) (k + 1) s1 = some r) : run_unicode_utf8_RuneCountInString [.one (Cell.str s1)] [] = some r := lim_of ((unicode_utf8_RuneCountInString_eq k s1).trans h)
noncomputable def pl_unicode_utf8_decodeRuneInStringSlow : List (Nat × Run) := []
noncomputable def G_unicode_utf8_decodeRuneInStringSlow : Ctx := ctx tyTab fiTab pl_unicode_utf8_decodeRuneInStringSlow
noncomputable def run_unicode_utf8_decodeRuneInStringSlow : Run := lim G_unicode_utf8_decodeRuneInStringSlow fid_unicode_utf8_decodeRuneInStringSlow
theorem ok_unicode_utf8_decodeRuneInStringSlow : FnOk Tryd.prog OkT fid_unicode_utf8_decodeRuneInStringSlow run_unicode_utf8_decodeRuneInStringSlow := lim_ok (l := pl_unicode_utf8_decodeRuneInStringSlow) Tryd_mix tyTab_ok fiTab_ok okT .nil fid_unicode_utf8_decodeRuneInStringSlow
noncomputable def unicode_utf8_decodeRuneInStringSlow (k m : Nat) (s1 : ByteArray) : Option Res :=
  cond (decide ((s1.size : Int) < 1))
  (some ([.one (.sc (.int .i32 65533)), .one (Cell.int 0)], []))
  ((bytS s1 0).bind fun i2 =>
  none)
theorem unicode_utf8_decodeRuneInStringSlow_code (k m : Nat) (s1 : ByteArray) : evC G_unicode_utf8_decodeRuneInStringSlow fi_unicode_utf8_decodeRuneInStringSlow (evF G_unicode_utf8_decodeRuneInStringSlow (k + 1)) m fi_unicode_utf8_decodeRuneInStringSlow.code none (retK G_unicode_utf8_decodeRuneInStringSlow fi_unicode_utf8_decodeRuneInStringSlow) (enter fi_unicode_utf8_decodeRuneInStringSlow [.one (Cell.str s1)] []) = unicode_utf8_decodeRuneInStringSlow (k + 1) m s1 := by
  kernel_rfl
theorem unicode_utf8_decodeRuneInStringSlow_eq (k : Nat) (s1 : ByteArray) : evF G_unicode_utf8_decodeRuneInStringSlow (k + 2) fid_unicode_utf8_decodeRuneInStringSlow [.one (Cell.str s1)] [] = unicode_utf8_decodeRuneInStringSlow (k + 1) (k + 1) s1 :=
  Eq.trans (by kernel_rfl) (unicode_utf8_decodeRuneInStringSlow_code k (k + 1) s1)
theorem run_unicode_utf8_decodeRuneInStringSlow_of {s1 : ByteArray} {r : Res} (k : Nat) (h : unicode_utf8_decodeRuneInStringSlow (k + 1) (k + 1) s1 = some r) : run_unicode_utf8_decodeRuneInStringSlow [.one (Cell.str s1)] [] = some r := lim_of ((unicode_utf8_decodeRuneInStringSlow_eq k s1).trans h)
noncomputable def pl_unicode_utf8_DecodeRuneInString : List (Nat × Run) := [(fid_unicode_utf8_decodeRuneInStringSlow, run_unicode_utf8_decodeRuneInStringSlow)]
noncomputable def G_unicode_utf8_DecodeRuneInString : Ctx := ctx tyTab fiTab pl_unicode_utf8_DecodeRuneInString
noncomputable def run_unicode_utf8_DecodeRuneInString : Run := lim G_unicode_utf8_DecodeRuneInString fid_unicode_utf8_DecodeRuneInString
theorem ok_unicode_utf8_DecodeRuneInString : FnOk Tryd.prog OkT fid_unicode_utf8_DecodeRuneInString run_unicode_utf8_DecodeRuneInString := lim_ok (l := pl_unicode_utf8_DecodeRuneInString) Tryd_mix tyTab_ok fiTab_ok okT (.cons ok_unicode_utf8_decodeRuneInStringSlow .nil) fid_unicode_utf8_DecodeRuneInString
noncomputable def unicode_utf8_DecodeRuneInString (k m : Nat) (s1 : ByteArray) : Option Res :=
  cond (!(s1.toList == (bs []).toList))
  ((bytS s1 0).bind fun i2 =>
  cond (decide (i2 < 128))
  ((bytS s1 0).bind fun i3 =>
  some ([.one (.sc (.int .i32 (IntKind.i32.wrap i3))), .one (Cell.int 1)], []))
  ((callS run_unicode_utf8_decodeRuneInStringSlow [.one (Cell.str s1)] []).bind fun r4 =>
  cond (shapeOk rk_unicode_utf8_decodeRuneInStringSlow r4)
  ((cI .i32 (cellsAt r4 0) 0).bind fun i5 =>
  (cI .i64 (cellsAt r4 1) 0).bind fun i6 =>
  some ([.one (.sc (.int .i32 i5)), .one (Cell.int i6)], []))
  none))
  ((callS run_unicode_utf8_decodeRuneInStringSlow [.one (Cell.str s1)] []).bind fun r7 =>
  cond (shapeOk rk_unicode_utf8_decodeRuneInStringSlow r7)
  ((cI .i32 (cellsAt r7 0) 0).bind fun i8 =>
  (cI .i64 (cellsAt r7 1) 0).bind fun i9 =>
  some ([.one (.sc (.int .i32 i8)), .one (Cell.int i9)], []))
  none)
theorem unicode_utf8_DecodeRuneInString_code (k m : Nat) (s1 : ByteArray) : evC G_unicode_utf8_DecodeRuneInString fi_unicode_utf8_DecodeRuneInString (evF G_unicode_utf8_DecodeRuneInString (k + 1)) m fi_unicode_utf8_DecodeRuneInString.code none (retK G_unicode_utf8_DecodeRuneInString fi_unicode_utf8_DecodeRuneInString) (enter fi_unicode_utf8_DecodeRuneInString [.one (Cell.str s1)] []) = unicode_utf8_DecodeRuneInString (k + 1) m s1 := by
  kernel_rfl
theorem unicode_utf8_DecodeRuneInString_eq (k : Nat) (s1 : ByteArray) : evF G_unicode_utf8_DecodeRuneInString (k + 2) fid_unicode_utf8_DecodeRuneInString [.one (Cell.str s1)] [] = unicode_utf8_DecodeRuneInString (k + 1) (k + 1) s1 :=
  Eq.trans (by kernel_rfl) (unicode_utf8_DecodeRuneInString_code k (k + 1) s1)
theorem run_unicode_utf8_DecodeRuneInString_of {s1 : ByteArray} {r : Res} (k : Nat) (h : unicode_utf8_DecodeRuneInString (k + 1) (k + 1) s1 = some r) : run_unicode_utf8_DecodeRuneInString [.one (Cell.str s1)] [] = some r := lim_of ((unicode_utf8_DecodeRuneInString_eq k s1).trans h)
noncomputable def pl_strings_explode : List (Nat × Run) := [(fid_unicode_utf8_RuneCountInString, run_unicode_utf8_RuneCountInString), (fid_unicode_utf8_DecodeRuneInString, run_unicode_utf8_DecodeRuneInString)]
noncomputable def G_strings_explode : Ctx := ctx tyTab fiTab pl_strings_explode
noncomputable def run_strings_explode : Run := lim G_strings_explode fid_strings_explode
theorem ok_strings_explode : FnOk Tryd.prog OkT fid_strings_explode run_strings_explode := lim_ok (l := pl_strings_explode) Tryd_mix tyTab_ok fiTab_ok okT (.cons ok_unicode_utf8_RuneCountInString (.cons ok_unicode_utf8_DecodeRuneInString .nil)) fid_strings_explode
noncomputable def strings_explode_l0 (k m : Nat) : Nat → ByteArray → Int → Cell → Int → List Entry → Option Res
  | 0, _, _, _, _, _ => none
  | n + 1, s5, i6, c7, i8, H9 =>
    cond (decide (i8 < (IntKind.i64.wrap (i6 - 1))))
    ((callS run_unicode_utf8_DecodeRuneInString [.one (Cell.str s5)] H9).bind fun r10 =>
    cond (shapeOk rk_unicode_utf8_DecodeRuneInString r10)
    ((cI .i32 (cellsAt r10 0) 0).bind fun i11 =>
    (cI .i64 (cellsAt r10 1) 0).bind fun i12 =>
    (subS s5 0 i12).bind fun s13 =>
    (idxA 1 (c7) i8).bind fun c14 =>
    (hStore H9 (c14) [Cell.str s13]).bind fun h15 =>
    (subS s5 i12 (s5.size : Int)).bind fun s16 =>
    strings_explode_l0 k m n s16 i6 (c7) (IntKind.i64.wrap (i8 + 1)) h15)
    none)
    (cond (decide (i6 > 0))
    ((idxA 1 (c7) (IntKind.i64.wrap (i6 - 1))).bind fun c17 =>
    (hStore H9 (c17) [Cell.str s5]).bind fun h18 =>
    some ([.one (c7)], h18))
    (some ([.one (c7)], H9)))
noncomputable def strings_explode (k m : Nat) (s1 : ByteArray) (i2 : Int) : Option Res :=
  (callS run_unicode_utf8_RuneCountInString [.one (Cell.str s1)] []).bind fun r3 =>
  cond (shapeOk rk_unicode_utf8_RuneCountInString r3)
  ((cI .i64 (cellsAt r3 0) 0).bind fun i4 =>
  cond (decide (i2 < 0))
  (if 0 ≤ i4 ∧ i4 ≤ i4 ∧ i4 * 16 ≤ bound ∧ i4 ≤ bound then
  (strings_explode_l0 k m m s1 i4 ((.vs 0 1 0 i4.toNat 0)) 0 [Entry.mk 1 (mkRows i4.toNat [Cell.str (bs [])]) 0 false]) else none)
  (cond (decide (i2 > i4))
  (if 0 ≤ i4 ∧ i4 ≤ i4 ∧ i4 * 16 ≤ bound ∧ i4 ≤ bound then
  (strings_explode_l0 k m m s1 i4 ((.vs 0 1 0 i4.toNat 0)) 0 [Entry.mk 1 (mkRows i4.toNat [Cell.str (bs [])]) 0 false]) else none)
  (if 0 ≤ i2 ∧ i2 ≤ i2 ∧ i2 * 16 ≤ bound ∧ i2 ≤ bound then
  (strings_explode_l0 k m m s1 i2 ((.vs 0 1 0 i2.toNat 0)) 0 [Entry.mk 1 (mkRows i2.toNat [Cell.str (bs [])]) 0 false]) else none)))
  none
noncomputable abbrev strings_explode_l0_B (k m : Nat) : (Ex → Fr → Option Res) → Fr → Option Res := evC G_strings_explode fi_strings_explode (evF G_strings_explode (k + 1)) m (sub [1, 1, 1, 1, 0, 1, 2, 3] fi_strings_explode.code) none
noncomputable abbrev strings_explode_l0_K (k m : Nat) : Ex → Fr → Option Res := blockK 0 (seqK (evC G_strings_explode fi_strings_explode (evF G_strings_explode (k + 1)) m (sub [1, 1, 1, 1, 1] fi_strings_explode.code) none) (retK G_strings_explode fi_strings_explode))
theorem strings_explode_l0_eq (k m : Nat) : ∀ (n : Nat) (s5 : ByteArray) (i6 : Int) (c7 : Cell) (i8 : Int) (H9 : List Entry), loopK (some [0, 1, 6, 7]) (strings_explode_l0_B k m) (strings_explode_l0_K k m) n ⟨fT 50 0 [(0, .av (.one (Cell.str s5))), (1, .av (.one (Cell.int i6))), (6, .av (.one (c7))), (7, .av (.one (Cell.int i8)))], fX 50 0 [], H9⟩ = strings_explode_l0 (k + 1) m n s5 i6 c7 i8 H9 := by
  intro n
  induction n with
  | zero => intros; rfl
  | succ n ih =>
    intros
    simp only [strings_explode_l0, ← ih]
    kernel_rfl
theorem strings_explode_code (k m : Nat) (s1 : ByteArray) (i2 : Int) : evC G_strings_explode fi_strings_explode (evF G_strings_explode (k + 1)) m fi_strings_explode.code none (retK G_strings_explode fi_strings_explode) (enter fi_strings_explode [.one (Cell.str s1), .one (Cell.int i2)] []) = strings_explode (k + 1) m s1 i2 := by
  simp only [strings_explode, ← strings_explode_l0_eq k m]
  kernel_rfl
theorem strings_explode_eq (k : Nat) (s1 : ByteArray) (i2 : Int) : evF G_strings_explode (k + 2) fid_strings_explode [.one (Cell.str s1), .one (Cell.int i2)] [] = strings_explode (k + 1) (k + 1) s1 i2 :=
  Eq.trans (by kernel_rfl) (strings_explode_code k (k + 1) s1 i2)
theorem run_strings_explode_of {s1 : ByteArray} {i2 : Int} {r : Res} (k : Nat) (h : strings_explode (k + 1) (k + 1) s1 i2 = some r) : run_strings_explode [.one (Cell.str s1), .one (Cell.int i2)] [] = some r := lim_of ((strings_explode_eq k s1 i2).trans h)
noncomputable def pl_internal_bytealg_Cutover : List (Nat × Run) := []
noncomputable def G_internal_bytealg_Cutover : Ctx := ctx tyTab fiTab pl_internal_bytealg_Cutover
noncomputable def run_internal_bytealg_Cutover : Run := lim G_internal_bytealg_Cutover fid_internal_bytealg_Cutover
theorem ok_internal_bytealg_Cutover : FnOk Tryd.prog OkT fid_internal_bytealg_Cutover run_internal_bytealg_Cutover := lim_ok (l := pl_internal_bytealg_Cutover) Tryd_mix tyTab_ok fiTab_ok okT .nil fid_internal_bytealg_Cutover
noncomputable def internal_bytealg_Cutover (k m : Nat) (i1 : Int) : Option Res :=
  some ([.one (Cell.int (IntKind.i64.wrap ((IntKind.i64.wrap (i1 + 16)).tdiv 8)))], [])
theorem internal_bytealg_Cutover_code (k m : Nat) (i1 : Int) : evC G_internal_bytealg_Cutover fi_internal_bytealg_Cutover (evF G_internal_bytealg_Cutover (k + 1)) m fi_internal_bytealg_Cutover.code none (retK G_internal_bytealg_Cutover fi_internal_bytealg_Cutover) (enter fi_internal_bytealg_Cutover [.one (Cell.int i1)] []) = internal_bytealg_Cutover (k + 1) m i1 := by
  kernel_rfl
theorem internal_bytealg_Cutover_eq (k : Nat) (i1 : Int) : evF G_internal_bytealg_Cutover (k + 2) fid_internal_bytealg_Cutover [.one (Cell.int i1)] [] = internal_bytealg_Cutover (k + 1) (k + 1) i1 :=
  Eq.trans (by kernel_rfl) (internal_bytealg_Cutover_code k (k + 1) i1)
theorem run_internal_bytealg_Cutover_of {i1 : Int} {r : Res} (k : Nat) (h : internal_bytealg_Cutover (k + 1) (k + 1) i1 = some r) : run_internal_bytealg_Cutover [.one (Cell.int i1)] [] = some r := lim_of ((internal_bytealg_Cutover_eq k i1).trans h)
noncomputable def pl_internal_bytealg_hashStr_string : List (Nat × Run) := []
noncomputable def G_internal_bytealg_hashStr_string : Ctx := ctx tyTab fiTab pl_internal_bytealg_hashStr_string
noncomputable def run_internal_bytealg_hashStr_string : Run := lim G_internal_bytealg_hashStr_string fid_internal_bytealg_hashStr_string
theorem ok_internal_bytealg_hashStr_string : FnOk Tryd.prog OkT fid_internal_bytealg_hashStr_string run_internal_bytealg_hashStr_string := lim_ok (l := pl_internal_bytealg_hashStr_string) Tryd_mix tyTab_ok fiTab_ok okT .nil fid_internal_bytealg_hashStr_string
noncomputable def internal_bytealg_hashStr_string_l1 (k m : Nat) : Nat → Int → Int → Int → Int → Option Res
  | 0, _, _, _, _ => none
  | n + 1, i6, i7, i8, i9 =>
    cond (decide (i9 > 0))
    (cond ((andI .i64 i9 1) != 0)
    (internal_bytealg_hashStr_string_l1 k m n i6 (IntKind.u32.wrap (i7 * i8)) (IntKind.u32.wrap (i8 * i8)) (shrI .i64 i9 1))
    (internal_bytealg_hashStr_string_l1 k m n i6 i7 (IntKind.u32.wrap (i8 * i8)) (shrI .i64 i9 1)))
    (some ([.one (.sc (.int .u32 i6)), .one (.sc (.int .u32 i7))], []))
noncomputable def internal_bytealg_hashStr_string_l0 (k m : Nat) : Nat → ByteArray → Int → Int → Option Res
  | 0, _, _, _ => none
  | n + 1, s2, i3, i4 =>
    cond (decide (i4 < (s2.size : Int)))
    ((bytS s2 i4).bind fun i5 =>
    internal_bytealg_hashStr_string_l0 k m n s2 (IntKind.u32.wrap ((IntKind.u32.wrap (i3 * 16777619)) + (IntKind.u32.wrap i5))) (IntKind.i64.wrap (i4 + 1)))
    (internal_bytealg_hashStr_string_l1 k m m i3 1 16777619 (s2.size : Int))
noncomputable def internal_bytealg_hashStr_string (k m : Nat) (s1 : ByteArray) : Option Res :=
  internal_bytealg_hashStr_string_l0 k m m s1 0 0
noncomputable abbrev internal_bytealg_hashStr_string_l0_B (k m : Nat) : (Ex → Fr → Option Res) → Fr → Option Res := evC G_internal_bytealg_hashStr_string fi_internal_bytealg_hashStr_string (evF G_internal_bytealg_hashStr_string (k + 1)) m (sub [1, 1, 0, 1, 2, 3] fi_internal_bytealg_hashStr_string.code) none
noncomputable abbrev internal_bytealg_hashStr_string_l0_K (k m : Nat) : Ex → Fr → Option Res := blockK 0 (seqK (evC G_internal_bytealg_hashStr_string fi_internal_bytealg_hashStr_string (evF G_internal_bytealg_hashStr_string (k + 1)) m (sub [1, 1, 1] fi_internal_bytealg_hashStr_string.code) none) (retK G_internal_bytealg_hashStr_string fi_internal_bytealg_hashStr_string))
noncomputable abbrev internal_bytealg_hashStr_string_l1_B (k m : Nat) : (Ex → Fr → Option Res) → Fr → Option Res := evC G_internal_bytealg_hashStr_string fi_internal_bytealg_hashStr_string (evF G_internal_bytealg_hashStr_string (k + 1)) m (sub [1, 1, 1, 1, 0, 1, 2, 3] fi_internal_bytealg_hashStr_string.code) none
noncomputable abbrev internal_bytealg_hashStr_string_l1_K (k m : Nat) : Ex → Fr → Option Res := blockK 2 (seqK (evC G_internal_bytealg_hashStr_string fi_internal_bytealg_hashStr_string (evF G_internal_bytealg_hashStr_string (k + 1)) m (sub [1, 1, 1, 1, 1] fi_internal_bytealg_hashStr_string.code) none) (retK G_internal_bytealg_hashStr_string fi_internal_bytealg_hashStr_string))
theorem internal_bytealg_hashStr_string_l1_eq (k m : Nat) : ∀ (n : Nat) (i6 : Int) (i7 : Int) (i8 : Int) (i9 : Int), loopK (some [4, 6, 7, 8]) (internal_bytealg_hashStr_string_l1_B k m) (internal_bytealg_hashStr_string_l1_K k m) n ⟨fT 39 0 [(4, .av (.one (.sc (.int .u32 i6)))), (6, .av (.one (.sc (.int .u32 i7)))), (7, .av (.one (.sc (.int .u32 i8)))), (8, .av (.one (Cell.int i9)))], fX 39 0 [], []⟩ = internal_bytealg_hashStr_string_l1 (k + 1) m n i6 i7 i8 i9 := by
  intro n
  induction n with
  | zero => intros; rfl
  | succ n ih =>
    intros
    simp only [internal_bytealg_hashStr_string_l1, ← ih]
    kernel_rfl
theorem internal_bytealg_hashStr_string_l0_eq (k m : Nat) : ∀ (n : Nat) (s2 : ByteArray) (i3 : Int) (i4 : Int), loopK (some [0, 4, 5]) (internal_bytealg_hashStr_string_l0_B k m) (internal_bytealg_hashStr_string_l0_K k m) n ⟨fT 39 0 [(0, .av (.one (Cell.str s2))), (4, .av (.one (.sc (.int .u32 i3)))), (5, .av (.one (Cell.int i4)))], fX 39 0 [], []⟩ = internal_bytealg_hashStr_string_l0 (k + 1) m n s2 i3 i4 := by
  intro n
  induction n with
  | zero => intros; rfl
  | succ n ih =>
    intros
    simp only [internal_bytealg_hashStr_string_l0, ← internal_bytealg_hashStr_string_l1_eq k m, ← ih]
    kernel_rfl
theorem internal_bytealg_hashStr_string_code (k m : Nat) (s1 : ByteArray) : evC G_internal_bytealg_hashStr_string fi_internal_bytealg_hashStr_string (evF G_internal_bytealg_hashStr_string (k + 1)) m fi_internal_bytealg_hashStr_string.code none (retK G_internal_bytealg_hashStr_string fi_internal_bytealg_hashStr_string) (enter fi_internal_bytealg_hashStr_string [.one (Cell.str s1)] []) = internal_bytealg_hashStr_string (k + 1) m s1 := by
  simp only [internal_bytealg_hashStr_string, ← internal_bytealg_hashStr_string_l0_eq k m]
  kernel_rfl
theorem internal_bytealg_hashStr_string_eq (k : Nat) (s1 : ByteArray) : evF G_internal_bytealg_hashStr_string (k + 2) fid_internal_bytealg_hashStr_string [.one (Cell.str s1)] [] = internal_bytealg_hashStr_string (k + 1) (k + 1) s1 :=
  Eq.trans (by kernel_rfl) (internal_bytealg_hashStr_string_code k (k + 1) s1)
theorem run_internal_bytealg_hashStr_string_of {s1 : ByteArray} {r : Res} (k : Nat) (h : internal_bytealg_hashStr_string (k + 1) (k + 1) s1 = some r) : run_internal_bytealg_hashStr_string [.one (Cell.str s1)] [] = some r := lim_of ((internal_bytealg_hashStr_string_eq k s1).trans h)
noncomputable def pl_internal_bytealg_IndexRabinKarp_string : List (Nat × Run) := [(fid_internal_bytealg_hashStr_string, run_internal_bytealg_hashStr_string)]
noncomputable def G_internal_bytealg_IndexRabinKarp_string : Ctx := ctx tyTab fiTab pl_internal_bytealg_IndexRabinKarp_string
noncomputable def run_internal_bytealg_IndexRabinKarp_string : Run := lim G_internal_bytealg_IndexRabinKarp_string fid_internal_bytealg_IndexRabinKarp_string
theorem ok_internal_bytealg_IndexRabinKarp_string : FnOk Tryd.prog OkT fid_internal_bytealg_IndexRabinKarp_string run_internal_bytealg_IndexRabinKarp_string := lim_ok (l := pl_internal_bytealg_IndexRabinKarp_string) Tryd_mix tyTab_ok fiTab_ok okT (.cons ok_internal_bytealg_hashStr_string .nil) fid_internal_bytealg_IndexRabinKarp_string
noncomputable def internal_bytealg_IndexRabinKarp_string_l1 (k m : Nat) : Nat → ByteArray → ByteArray → Int → Int → Int → Int → Int → Option Res
  | 0, _, _, _, _, _, _, _ => none
  | n + 1, s15, s16, i17, i18, i19, i20, i21 =>
    cond (decide (i21 < (s15.size : Int)))
    ((bytS s15 i21).bind fun i22 =>
    (bytS s15 (IntKind.i64.wrap (i21 - i19))).bind fun i23 =>
    cond ((IntKind.u32.wrap ((IntKind.u32.wrap ((IntKind.u32.wrap (i20 * 16777619)) + (IntKind.u32.wrap i22))) - (IntKind.u32.wrap (i18 * (IntKind.u32.wrap i23))))) == i17)
    ((subS s15 (IntKind.i64.wrap ((IntKind.i64.wrap (i21 + 1)) - i19)) (IntKind.i64.wrap (i21 + 1))).bind fun s24 =>
    cond (s24.toList == s16.toList)
    (some ([.one (Cell.int (IntKind.i64.wrap ((IntKind.i64.wrap (i21 + 1)) - i19)))], []))
    (internal_bytealg_IndexRabinKarp_string_l1 k m n s15 s16 i17 i18 i19 (IntKind.u32.wrap ((IntKind.u32.wrap ((IntKind.u32.wrap (i20 * 16777619)) + (IntKind.u32.wrap i22))) - (IntKind.u32.wrap (i18 * (IntKind.u32.wrap i23))))) (IntKind.i64.wrap (i21 + 1))))
    (internal_bytealg_IndexRabinKarp_string_l1 k m n s15 s16 i17 i18 i19 (IntKind.u32.wrap ((IntKind.u32.wrap ((IntKind.u32.wrap (i20 * 16777619)) + (IntKind.u32.wrap i22))) - (IntKind.u32.wrap (i18 * (IntKind.u32.wrap i23))))) (IntKind.i64.wrap (i21 + 1))))
    (some ([.one (Cell.int (-1))], []))
noncomputable def internal_bytealg_IndexRabinKarp_string_l0 (k m : Nat) : Nat → ByteArray → ByteArray → Int → Int → Int → Int → Int → Option Res
  | 0, _, _, _, _, _, _, _ => none
  | n + 1, s6, s7, i8, i9, i10, i11, i12 =>
    cond (decide (i12 < i10))
    ((bytS s6 i12).bind fun i13 =>
    internal_bytealg_IndexRabinKarp_string_l0 k m n s6 s7 i8 i9 i10 (IntKind.u32.wrap ((IntKind.u32.wrap (i11 * 16777619)) + (IntKind.u32.wrap i13))) (IntKind.i64.wrap (i12 + 1)))
    (cond (i11 == i8)
    ((subS s6 0 i10).bind fun s14 =>
    cond (s14.toList == s7.toList)
    (some ([.one (Cell.int 0)], []))
    (internal_bytealg_IndexRabinKarp_string_l1 k m m s6 s7 i8 i9 i10 i11 i10))
    (internal_bytealg_IndexRabinKarp_string_l1 k m m s6 s7 i8 i9 i10 i11 i10))
noncomputable def internal_bytealg_IndexRabinKarp_string (k m : Nat) (s1 : ByteArray) (s2 : ByteArray) : Option Res :=
  (callS run_internal_bytealg_hashStr_string [.one (Cell.str s2)] []).bind fun r3 =>
  cond (shapeOk rk_internal_bytealg_hashStr_string r3)
  ((cI .u32 (cellsAt r3 0) 0).bind fun i4 =>
  (cI .u32 (cellsAt r3 1) 0).bind fun i5 =>
  internal_bytealg_IndexRabinKarp_string_l0 k m m s1 s2 i4 i5 (s2.size : Int) 0 0)
  none
noncomputable abbrev internal_bytealg_IndexRabinKarp_string_l0_B (k m : Nat) : (Ex → Fr → Option Res) → Fr → Option Res := evC G_internal_bytealg_IndexRabinKarp_string fi_internal_bytealg_IndexRabinKarp_string (evF G_internal_bytealg_IndexRabinKarp_string (k + 1)) m (sub [1, 1, 1, 1, 0, 1, 2, 3] fi_internal_bytealg_IndexRabinKarp_string.code) none
noncomputable abbrev internal_bytealg_IndexRabinKarp_string_l0_K (k m : Nat) : Ex → Fr → Option Res := blockK 0 (seqK (evC G_internal_bytealg_IndexRabinKarp_string fi_internal_bytealg_IndexRabinKarp_string (evF G_internal_bytealg_IndexRabinKarp_string (k + 1)) m (sub [1, 1, 1, 1, 1] fi_internal_bytealg_IndexRabinKarp_string.code) none) (retK G_internal_bytealg_IndexRabinKarp_string fi_internal_bytealg_IndexRabinKarp_string))
noncomputable abbrev internal_bytealg_IndexRabinKarp_string_l1_B (k m : Nat) : (Ex → Fr → Option Res) → Fr → Option Res := evC G_internal_bytealg_IndexRabinKarp_string fi_internal_bytealg_IndexRabinKarp_string (evF G_internal_bytealg_IndexRabinKarp_string (k + 1)) m (sub [1, 1, 1, 1, 1, 1, 0, 1, 2, 3] fi_internal_bytealg_IndexRabinKarp_string.code) none
noncomputable abbrev internal_bytealg_IndexRabinKarp_string_l1_K (k m : Nat) : Ex → Fr → Option Res := blockK 2 (seqK (evC G_internal_bytealg_IndexRabinKarp_string fi_internal_bytealg_IndexRabinKarp_string (evF G_internal_bytealg_IndexRabinKarp_string (k + 1)) m (sub [1, 1, 1, 1, 1, 1, 1] fi_internal_bytealg_IndexRabinKarp_string.code) none) (retK G_internal_bytealg_IndexRabinKarp_string fi_internal_bytealg_IndexRabinKarp_string))
theorem internal_bytealg_IndexRabinKarp_string_l1_eq (k m : Nat) : ∀ (n : Nat) (s15 : ByteArray) (s16 : ByteArray) (i17 : Int) (i18 : Int) (i19 : Int) (i20 : Int) (i21 : Int), loopK (some [0, 1, 5, 6, 7, 8, 10]) (internal_bytealg_IndexRabinKarp_string_l1_B k m) (internal_bytealg_IndexRabinKarp_string_l1_K k m) n ⟨fT 81 0 [(0, .av (.one (Cell.str s15))), (1, .av (.one (Cell.str s16))), (5, .av (.one (.sc (.int .u32 i17)))), (6, .av (.one (.sc (.int .u32 i18)))), (7, .av (.one (Cell.int i19))), (8, .av (.one (.sc (.int .u32 i20)))), (10, .av (.one (Cell.int i21)))], fX 81 0 [], []⟩ = internal_bytealg_IndexRabinKarp_string_l1 (k + 1) m n s15 s16 i17 i18 i19 i20 i21 := by
  intro n
  induction n with
  | zero => intros; rfl
  | succ n ih =>
    intros
    simp only [internal_bytealg_IndexRabinKarp_string_l1, ← ih]
    kernel_rfl
theorem internal_bytealg_IndexRabinKarp_string_l0_eq (k m : Nat) : ∀ (n : Nat) (s6 : ByteArray) (s7 : ByteArray) (i8 : Int) (i9 : Int) (i10 : Int) (i11 : Int) (i12 : Int), loopK (some [0, 1, 5, 6, 7, 8, 9]) (internal_bytealg_IndexRabinKarp_string_l0_B k m) (internal_bytealg_IndexRabinKarp_string_l0_K k m) n ⟨fT 81 0 [(0, .av (.one (Cell.str s6))), (1, .av (.one (Cell.str s7))), (5, .av (.one (.sc (.int .u32 i8)))), (6, .av (.one (.sc (.int .u32 i9)))), (7, .av (.one (Cell.int i10))), (8, .av (.one (.sc (.int .u32 i11)))), (9, .av (.one (Cell.int i12)))], fX 81 0 [], []⟩ = internal_bytealg_IndexRabinKarp_string_l0 (k + 1) m n s6 s7 i8 i9 i10 i11 i12 := by
  intro n
  induction n with
  | zero => intros; rfl
  | succ n ih =>
    intros
    simp only [internal_bytealg_IndexRabinKarp_string_l0, ← internal_bytealg_IndexRabinKarp_string_l1_eq k m, ← ih]
    kernel_rfl
theorem internal_bytealg_IndexRabinKarp_string_code (k m : Nat) (s1 : ByteArray) (s2 : ByteArray) : evC G_internal_bytealg_IndexRabinKarp_string fi_internal_bytealg_IndexRabinKarp_string (evF G_internal_bytealg_IndexRabinKarp_string (k + 1)) m fi_internal_bytealg_IndexRabinKarp_string.code none (retK G_internal_bytealg_IndexRabinKarp_string fi_internal_bytealg_IndexRabinKarp_string) (enter fi_internal_bytealg_IndexRabinKarp_string [.one (Cell.str s1), .one (Cell.str s2)] []) = internal_bytealg_IndexRabinKarp_string (k + 1) m s1 s2 := by
  simp only [internal_bytealg_IndexRabinKarp_string, ← internal_bytealg_IndexRabinKarp_string_l0_eq k m]
  kernel_rfl
theorem internal_bytealg_IndexRabinKarp_string_eq (k : Nat) (s1 : ByteArray) (s2 : ByteArray) : evF G_internal_bytealg_IndexRabinKarp_string (k + 2) fid_internal_bytealg_IndexRabinKarp_string [.one (Cell.str s1), .one (Cell.str s2)] [] = internal_bytealg_IndexRabinKarp_string (k + 1) (k + 1) s1 s2 :=
  Eq.trans (by kernel_rfl) (internal_bytealg_IndexRabinKarp_string_code k (k + 1) s1 s2)
theorem run_internal_bytealg_IndexRabinKarp_string_of {s1 : ByteArray} {s2 : ByteArray} {r : Res} (k : Nat) (h : internal_bytealg_IndexRabinKarp_string (k + 1) (k + 1) s1 s2 = some r) : run_internal_bytealg_IndexRabinKarp_string [.one (Cell.str s1), .one (Cell.str s2)] [] = some r := lim_of ((internal_bytealg_IndexRabinKarp_string_eq k s1 s2).trans h)
noncomputable def pl_internal_stringslite_Index : List (Nat × Run) := [(fid_internal_stringslite_IndexByte, run_internal_stringslite_IndexByte), (fid_internal_bytealg_Cutover, run_internal_bytealg_Cutover), (fid_internal_bytealg_IndexRabinKarp_string, run_internal_bytealg_IndexRabinKarp_string)]
noncomputable def G_internal_stringslite_Index : Ctx := ctx tyTab fiTab pl_internal_stringslite_Index
noncomputable def run_internal_stringslite_Index : Run := lim G_internal_stringslite_Index fid_internal_stringslite_Index
theorem ok_internal_stringslite_Index : FnOk Tryd.prog OkT fid_internal_stringslite_Index run_internal_stringslite_Index := lim_ok (l := pl_internal_stringslite_Index) Tryd_mix tyTab_ok fiTab_ok okT (.cons ok_internal_stringslite_IndexByte (.cons ok_internal_bytealg_Cutover (.cons ok_internal_bytealg_IndexRabinKarp_string .nil))) fid_internal_stringslite_Index
noncomputable def internal_stringslite_Index (k m : Nat) (s1 : ByteArray) (s2 : ByteArray) : Option Res :=
  cond ((s2.size : Int) == 0)
  (some ([.one (Cell.int 0)], []))
  (cond (s2.toList == s1.toList)
  (some ([.one (Cell.int 0)], []))
  (cond ((s2.size : Int) == 1)
  ((bytS s2 0).bind fun i3 =>
  (callS run_internal_stringslite_IndexByte [.one (Cell.str s1), .one (.sc (.int .u8 i3))] []).bind fun r4 =>
  cond (shapeOk rk_internal_stringslite_IndexByte r4)
  ((cI .i64 (cellsAt r4 0) 0).bind fun i5 =>
  some ([.one (Cell.int i5)], []))
  none)
  (cond (decide ((s2.size : Int) ≥ (s1.size : Int)))
  (some ([.one (Cell.int (-1))], []))
  (none))))
theorem internal_stringslite_Index_code (k m : Nat) (s1 : ByteArray) (s2 : ByteArray) : evC G_internal_stringslite_Index fi_internal_stringslite_Index (evF G_internal_stringslite_Index (k + 1)) m fi_internal_stringslite_Index.code none (retK G_internal_stringslite_Index fi_internal_stringslite_Index) (enter fi_internal_stringslite_Index [.one (Cell.str s1), .one (Cell.str s2)] []) = internal_stringslite_Index (k + 1) m s1 s2 := by
  kernel_rfl
theorem internal_stringslite_Index_eq (k : Nat) (s1 : ByteArray) (s2 : ByteArray) : evF G_internal_stringslite_Index (k + 2) fid_internal_stringslite_Index [.one (Cell.str s1), .one (Cell.str s2)] [] = internal_stringslite_Index (k + 1) (k + 1) s1 s2 :=
  Eq.trans (by kernel_rfl) (internal_stringslite_Index_code k (k + 1) s1 s2)
theorem run_internal_stringslite_Index_of {s1 : ByteArray} {s2 : ByteArray} {r : Res} (k : Nat) (h : internal_stringslite_Index (k + 1) (k + 1) s1 s2 = some r) : run_internal_stringslite_Index [.one (Cell.str s1), .one (Cell.str s2)] [] = some r := lim_of ((internal_stringslite_Index_eq k s1 s2).trans h)
noncomputable def pl_strings_Index : List (Nat × Run) := [(fid_internal_stringslite_Index, run_internal_stringslite_Index)]
noncomputable def G_strings_Index : Ctx := ctx tyTab fiTab pl_strings_Index
noncomputable def run_strings_Index : Run := lim G_strings_Index fid_strings_Index
theorem ok_strings_Index : FnOk Tryd.prog OkT fid_strings_Index run_strings_Index := lim_ok (l := pl_strings_Index) Tryd_mix tyTab_ok fiTab_ok okT (.cons ok_internal_stringslite_Index .nil) fid_strings_Index
noncomputable def strings_Index (k m : Nat) (s1 : ByteArray) (s2 : ByteArray) : Option Res :=
  (callS run_internal_stringslite_Index [.one (Cell.str s1), .one (Cell.str s2)] []).bind fun r3 =>
  cond (shapeOk rk_internal_stringslite_Index r3)
  ((cI .i64 (cellsAt r3 0) 0).bind fun i4 =>
  some ([.one (Cell.int i4)], []))
  none
theorem strings_Index_code (k m : Nat) (s1 : ByteArray) (s2 : ByteArray) : evC G_strings_Index fi_strings_Index (evF G_strings_Index (k + 1)) m fi_strings_Index.code none (retK G_strings_Index fi_strings_Index) (enter fi_strings_Index [.one (Cell.str s1), .one (Cell.str s2)] []) = strings_Index (k + 1) m s1 s2 := by
  kernel_rfl
theorem strings_Index_eq (k : Nat) (s1 : ByteArray) (s2 : ByteArray) : evF G_strings_Index (k + 2) fid_strings_Index [.one (Cell.str s1), .one (Cell.str s2)] [] = strings_Index (k + 1) (k + 1) s1 s2 :=
  Eq.trans (by kernel_rfl) (strings_Index_code k (k + 1) s1 s2)
theorem run_strings_Index_of {s1 : ByteArray} {s2 : ByteArray} {r : Res} (k : Nat) (h : strings_Index (k + 1) (k + 1) s1 s2 = some r) : run_strings_Index [.one (Cell.str s1), .one (Cell.str s2)] [] = some r := lim_of ((strings_Index_eq k s1 s2).trans h)
end Go.Ev
