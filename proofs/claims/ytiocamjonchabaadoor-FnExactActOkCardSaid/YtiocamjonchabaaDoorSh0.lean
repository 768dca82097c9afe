/- What the evaluator says of the functions, each as a Lean function over cells. Printed by a program of this claim. Conditions: none. -/
import Derived.Test.YtiocamjonchabaaDoorEvPr
import Derived.KernelRfl
namespace Go.Ev
open Go Go.Proofs
set_option maxRecDepth 100000
set_option linter.unusedVariables false
set_option linter.unusedSimpArgs false
noncomputable def pl_spec_Split : List (Nat × Run) := []
noncomputable def G_spec_Split : Ctx := ctx tyTab fiTab pl_spec_Split
noncomputable def run_spec_Split : Run := lim G_spec_Split fid_spec_Split
theorem ok_spec_Split : FnOk Tryd.prog OkT fid_spec_Split run_spec_Split := lim_ok (l := pl_spec_Split) Tryd_mix tyTab_ok fiTab_ok okT .nil fid_spec_Split
noncomputable def spec_Split_l0 (k m : Nat) : Nat → ByteArray → Int → Cell → Int → Int → List Entry → Option Res
  | 0, _, _, _, _, _, _ => none
  | n + 1, s3, i4, c5, i6, i7, H8 =>
    cond (decide (i7 ≤ (s3.size : Int)))
    (cond (i7 == (s3.size : Int))
    ((subS s3 i6 i7).bind fun s9 =>
    (app H8 1 16 (c5) [[Cell.str s9]]).bind fun p10 =>
    spec_Split_l0 k m n s3 i4 (p10.1) (IntKind.i64.wrap (i7 + 1)) (IntKind.i64.wrap (i7 + 1)) p10.2)
    ((bytS s3 i7).bind fun i11 =>
    cond (i11 == i4)
    ((subS s3 i6 i7).bind fun s12 =>
    (app H8 1 16 (c5) [[Cell.str s12]]).bind fun p13 =>
    spec_Split_l0 k m n s3 i4 (p13.1) (IntKind.i64.wrap (i7 + 1)) (IntKind.i64.wrap (i7 + 1)) p13.2)
    (spec_Split_l0 k m n s3 i4 (c5) i6 (IntKind.i64.wrap (i7 + 1)) H8)))
    (some ([.one (c5)], H8))
noncomputable def spec_Split (k m : Nat) (s1 : ByteArray) (i2 : Int) : Option Res :=
  spec_Split_l0 k m m s1 i2 (.lst true 1 []) 0 0 []
noncomputable abbrev spec_Split_l0_B (k m : Nat) : (Ex → Fr → Option Res) → Fr → Option Res := evC G_spec_Split fi_spec_Split (evF G_spec_Split (k + 1)) m (sub [1, 1, 1, 0, 1, 2, 3] fi_spec_Split.code) none
noncomputable abbrev spec_Split_l0_K (k m : Nat) : Ex → Fr → Option Res := blockK 0 (seqK (evC G_spec_Split fi_spec_Split (evF G_spec_Split (k + 1)) m (sub [1, 1, 1, 1] fi_spec_Split.code) none) (retK G_spec_Split fi_spec_Split))
theorem spec_Split_l0_eq (k m : Nat) : ∀ (n : Nat) (s3 : ByteArray) (i4 : Int) (c5 : Cell) (i6 : Int) (i7 : Int) (H8 : List Entry), loopK (some [0, 1, 5, 6, 7]) (spec_Split_l0_B k m) (spec_Split_l0_K k m) n ⟨fT 36 0 [(0, .av (.one (Cell.str s3))), (1, .av (.one (.sc (.int .u8 i4)))), (5, .av (.one (c5))), (6, .av (.one (Cell.int i6))), (7, .av (.one (Cell.int i7)))], fX 36 0 [], H8⟩ = spec_Split_l0 (k + 1) m n s3 i4 c5 i6 i7 H8 := by
  intro n
  induction n with
  | zero => intros; rfl
  | succ n ih =>
    intros
    simp only [spec_Split_l0, ← ih]
    kernel_rfl
theorem spec_Split_code (k m : Nat) (s1 : ByteArray) (i2 : Int) : evC G_spec_Split fi_spec_Split (evF G_spec_Split (k + 1)) m fi_spec_Split.code none (retK G_spec_Split fi_spec_Split) (enter fi_spec_Split [.one (Cell.str s1), .one (.sc (.int .u8 i2))] []) = spec_Split (k + 1) m s1 i2 := by
  simp only [spec_Split, ← spec_Split_l0_eq k m]
  kernel_rfl
theorem spec_Split_eq (k : Nat) (s1 : ByteArray) (i2 : Int) : evF G_spec_Split (k + 2) fid_spec_Split [.one (Cell.str s1), .one (.sc (.int .u8 i2))] [] = spec_Split (k + 1) (k + 1) s1 i2 :=
  Eq.trans (by kernel_rfl) (spec_Split_code k (k + 1) s1 i2)
theorem run_spec_Split_of {s1 : ByteArray} {i2 : Int} {r : Res} (k : Nat) (h : spec_Split (k + 1) (k + 1) s1 i2 = some r) : run_spec_Split [.one (Cell.str s1), .one (.sc (.int .u8 i2))] [] = some r := lim_of ((spec_Split_eq k s1 i2).trans h)
noncomputable def pl_spec_l15Words : List (Nat × Run) := [(fid_spec_Split, run_spec_Split)]
noncomputable def G_spec_l15Words : Ctx := ctx tyTab fiTab pl_spec_l15Words
noncomputable def run_spec_l15Words : Run := lim G_spec_l15Words fid_spec_l15Words
theorem ok_spec_l15Words : FnOk Tryd.prog OkT fid_spec_l15Words run_spec_l15Words := lim_ok (l := pl_spec_l15Words) Tryd_mix tyTab_ok fiTab_ok okT (.cons ok_spec_Split .nil) fid_spec_l15Words
noncomputable def spec_l15Words (k m : Nat) (s1 : ByteArray) : Option Res :=
  (callL run_spec_Split [.one (Cell.str s1), .one (.sc (.int .u8 32))] []).bind fun r2 =>
  cond (shapeOk rk_spec_Split r2.1)
  ((cC (cellsAt r2.1 0) 0).bind fun c3 =>
  (lenC c3).bind fun n4 =>
  cond (decide ((n4 : Int) ≥ 2))
  ((idxA 1 (c3) (IntKind.i64.wrap ((n4 : Int) - 2))).bind fun c5 =>
  (deref r2.2 (c5)).bind fun p6 =>
  (cS p6.1 p6.2).bind fun s7 =>
  cond (s7.toList == (bs [62]).toList)
  ((slcC 1 (c3) 0 (some (IntKind.i64.wrap ((n4 : Int) - 2))) none).bind fun c8 =>
  (idxA 1 (c3) (IntKind.i64.wrap ((n4 : Int) - 1))).bind fun c9 =>
  (deref r2.2 (c9)).bind fun p10 =>
  (cS p10.1 p10.2).bind fun s11 =>
  some ([.one (c8), .one (Cell.str s11)], r2.2))
  (some ([.one (c3), .one (Cell.str (bs []))], r2.2)))
  (some ([.one (c3), .one (Cell.str (bs []))], r2.2)))
  none
theorem spec_l15Words_code (k m : Nat) (s1 : ByteArray) : evC G_spec_l15Words fi_spec_l15Words (evF G_spec_l15Words (k + 1)) m fi_spec_l15Words.code none (retK G_spec_l15Words fi_spec_l15Words) (enter fi_spec_l15Words [.one (Cell.str s1)] []) = spec_l15Words (k + 1) m s1 := by
  kernel_rfl
theorem spec_l15Words_eq (k : Nat) (s1 : ByteArray) : evF G_spec_l15Words (k + 2) fid_spec_l15Words [.one (Cell.str s1)] [] = spec_l15Words (k + 1) (k + 1) s1 :=
  Eq.trans (by kernel_rfl) (spec_l15Words_code k (k + 1) s1)
theorem run_spec_l15Words_of {s1 : ByteArray} {r : Res} (k : Nat) (h : spec_l15Words (k + 1) (k + 1) s1 = some r) : run_spec_l15Words [.one (Cell.str s1)] [] = some r := lim_of ((spec_l15Words_eq k s1).trans h)
noncomputable def pl_spec_l15Full : List (Nat × Run) := []
noncomputable def G_spec_l15Full : Ctx := ctx tyTab fiTab pl_spec_l15Full
noncomputable def run_spec_l15Full : Run := lim G_spec_l15Full fid_spec_l15Full
theorem ok_spec_l15Full : FnOk Tryd.prog OkT fid_spec_l15Full run_spec_l15Full := lim_ok (l := pl_spec_l15Full) Tryd_mix tyTab_ok fiTab_ok okT .nil fid_spec_l15Full
noncomputable def spec_l15Full_l0 (k m : Nat) : Nat → Cell → Int → Option Res
  | 0, _, _ => none
  | n + 1, c2, i3 =>
    (lenC c2).bind fun n4 =>
    cond (decide (i3 < (n4 : Int)))
    ((idxA 1 (c2) i3).bind fun c5 =>
    (deref [] (c5)).bind fun p6 =>
    (cS p6.1 p6.2).bind fun s7 =>
    cond (s7.toList == (bs []).toList)
    (some ([.one (Cell.bool false)], []))
    (spec_l15Full_l0 k m n (c2) (IntKind.i64.wrap (i3 + 1))))
    (some ([.one (Cell.bool true)], []))
noncomputable def spec_l15Full (k m : Nat) (c1 : Cell) : Option Res :=
  spec_l15Full_l0 k m m (c1) 0
noncomputable abbrev spec_l15Full_l0_B (k m : Nat) : (Ex → Fr → Option Res) → Fr → Option Res := evC G_spec_l15Full fi_spec_l15Full (evF G_spec_l15Full (k + 1)) m (sub [1, 0, 1, 2, 3] fi_spec_l15Full.code) none
noncomputable abbrev spec_l15Full_l0_K (k m : Nat) : Ex → Fr → Option Res := blockK 0 (seqK (evC G_spec_l15Full fi_spec_l15Full (evF G_spec_l15Full (k + 1)) m (sub [1, 1] fi_spec_l15Full.code) none) (retK G_spec_l15Full fi_spec_l15Full))
theorem spec_l15Full_l0_eq (k m : Nat) : ∀ (n : Nat) (c2 : Cell) (i3 : Int), loopK (some [0, 3]) (spec_l15Full_l0_B k m) (spec_l15Full_l0_K k m) n ⟨fT 15 0 [(0, .av (.one (c2))), (3, .av (.one (Cell.int i3)))], fX 15 0 [], []⟩ = spec_l15Full_l0 (k + 1) m n c2 i3 := by
  intro n
  induction n with
  | zero => intros; rfl
  | succ n ih =>
    intros
    simp only [spec_l15Full_l0, ← ih]
    kernel_rfl
theorem spec_l15Full_code (k m : Nat) (c1 : Cell) : evC G_spec_l15Full fi_spec_l15Full (evF G_spec_l15Full (k + 1)) m fi_spec_l15Full.code none (retK G_spec_l15Full fi_spec_l15Full) (enter fi_spec_l15Full [.one (c1)] []) = spec_l15Full (k + 1) m c1 := by
  simp only [spec_l15Full, ← spec_l15Full_l0_eq k m]
  kernel_rfl
theorem spec_l15Full_eq (k : Nat) (c1 : Cell) : evF G_spec_l15Full (k + 2) fid_spec_l15Full [.one (c1)] [] = spec_l15Full (k + 1) (k + 1) c1 :=
  Eq.trans (by kernel_rfl) (spec_l15Full_code k (k + 1) c1)
theorem run_spec_l15Full_of {c1 : Cell} {r : Res} (k : Nat) (h : spec_l15Full (k + 1) (k + 1) c1 = some r) : run_spec_l15Full [.one (c1)] [] = some r := lim_of ((spec_l15Full_eq k c1).trans h)
noncomputable def pl_spec_l1In : List (Nat × Run) := []
noncomputable def G_spec_l1In : Ctx := ctx tyTab fiTab pl_spec_l1In
noncomputable def run_spec_l1In : Run := lim G_spec_l1In fid_spec_l1In
theorem ok_spec_l1In : FnOk Tryd.prog OkT fid_spec_l1In run_spec_l1In := lim_ok (l := pl_spec_l1In) Tryd_mix tyTab_ok fiTab_ok okT .nil fid_spec_l1In
noncomputable def spec_l1In (k m : Nat) (i1 : Int) (i2 : Int) (i3 : Int) : Option Res :=
  cond (decide (i1 ≥ i2))
  (some ([.one (Cell.bool (decide (i1 ≤ i3)))], []))
  (some ([.one (Cell.bool false)], []))
theorem spec_l1In_code (k m : Nat) (i1 : Int) (i2 : Int) (i3 : Int) : evC G_spec_l1In fi_spec_l1In (evF G_spec_l1In (k + 1)) m fi_spec_l1In.code none (retK G_spec_l1In fi_spec_l1In) (enter fi_spec_l1In [.one (Cell.int i1), .one (Cell.int i2), .one (Cell.int i3)] []) = spec_l1In (k + 1) m i1 i2 i3 := by
  kernel_rfl
theorem spec_l1In_eq (k : Nat) (i1 : Int) (i2 : Int) (i3 : Int) : evF G_spec_l1In (k + 2) fid_spec_l1In [.one (Cell.int i1), .one (Cell.int i2), .one (Cell.int i3)] [] = spec_l1In (k + 1) (k + 1) i1 i2 i3 :=
  Eq.trans (by kernel_rfl) (spec_l1In_code k (k + 1) i1 i2 i3)
theorem run_spec_l1In_of {i1 : Int} {i2 : Int} {i3 : Int} {r : Res} (k : Nat) (h : spec_l1In (k + 1) (k + 1) i1 i2 i3 = some r) : run_spec_l1In [.one (Cell.int i1), .one (Cell.int i2), .one (Cell.int i3)] [] = some r := lim_of ((spec_l1In_eq k i1 i2 i3).trans h)
noncomputable def pl_spec_l1Digit : List (Nat × Run) := [(fid_spec_l1In, run_spec_l1In)]
noncomputable def G_spec_l1Digit : Ctx := ctx tyTab fiTab pl_spec_l1Digit
noncomputable def run_spec_l1Digit : Run := lim G_spec_l1Digit fid_spec_l1Digit
theorem ok_spec_l1Digit : FnOk Tryd.prog OkT fid_spec_l1Digit run_spec_l1Digit := lim_ok (l := pl_spec_l1Digit) Tryd_mix tyTab_ok fiTab_ok okT (.cons ok_spec_l1In .nil) fid_spec_l1Digit
noncomputable def spec_l1Digit (k m : Nat) (i1 : Int) : Option Res :=
  (callS run_spec_l1In [.one (Cell.int (IntKind.i64.wrap i1)), .one (Cell.int 48), .one (Cell.int 57)] []).bind fun r2 =>
  cond (shapeOk rk_spec_l1In r2)
  ((cB (cellsAt r2 0) 0).bind fun b3 =>
  some ([.one (Cell.bool b3)], []))
  none
theorem spec_l1Digit_code (k m : Nat) (i1 : Int) : evC G_spec_l1Digit fi_spec_l1Digit (evF G_spec_l1Digit (k + 1)) m fi_spec_l1Digit.code none (retK G_spec_l1Digit fi_spec_l1Digit) (enter fi_spec_l1Digit [.one (.sc (.int .u8 i1))] []) = spec_l1Digit (k + 1) m i1 := by
  kernel_rfl
theorem spec_l1Digit_eq (k : Nat) (i1 : Int) : evF G_spec_l1Digit (k + 2) fid_spec_l1Digit [.one (.sc (.int .u8 i1))] [] = spec_l1Digit (k + 1) (k + 1) i1 :=
  Eq.trans (by kernel_rfl) (spec_l1Digit_code k (k + 1) i1)
theorem run_spec_l1Digit_of {i1 : Int} {r : Res} (k : Nat) (h : spec_l1Digit (k + 1) (k + 1) i1 = some r) : run_spec_l1Digit [.one (.sc (.int .u8 i1))] [] = some r := lim_of ((spec_l1Digit_eq k i1).trans h)
noncomputable def pl_spec_l1Small : List (Nat × Run) := [(fid_spec_l1In, run_spec_l1In)]
noncomputable def G_spec_l1Small : Ctx := ctx tyTab fiTab pl_spec_l1Small
noncomputable def run_spec_l1Small : Run := lim G_spec_l1Small fid_spec_l1Small
theorem ok_spec_l1Small : FnOk Tryd.prog OkT fid_spec_l1Small run_spec_l1Small := lim_ok (l := pl_spec_l1Small) Tryd_mix tyTab_ok fiTab_ok okT (.cons ok_spec_l1In .nil) fid_spec_l1Small
noncomputable def spec_l1Small (k m : Nat) (i1 : Int) : Option Res :=
  (callS run_spec_l1In [.one (Cell.int (IntKind.i64.wrap i1)), .one (Cell.int 97), .one (Cell.int 122)] []).bind fun r2 =>
  cond (shapeOk rk_spec_l1In r2)
  ((cB (cellsAt r2 0) 0).bind fun b3 =>
  some ([.one (Cell.bool b3)], []))
  none
theorem spec_l1Small_code (k m : Nat) (i1 : Int) : evC G_spec_l1Small fi_spec_l1Small (evF G_spec_l1Small (k + 1)) m fi_spec_l1Small.code none (retK G_spec_l1Small fi_spec_l1Small) (enter fi_spec_l1Small [.one (.sc (.int .u8 i1))] []) = spec_l1Small (k + 1) m i1 := by
  kernel_rfl
theorem spec_l1Small_eq (k : Nat) (i1 : Int) : evF G_spec_l1Small (k + 2) fid_spec_l1Small [.one (.sc (.int .u8 i1))] [] = spec_l1Small (k + 1) (k + 1) i1 :=
  Eq.trans (by kernel_rfl) (spec_l1Small_code k (k + 1) i1)
theorem run_spec_l1Small_of {i1 : Int} {r : Res} (k : Nat) (h : spec_l1Small (k + 1) (k + 1) i1 = some r) : run_spec_l1Small [.one (.sc (.int .u8 i1))] [] = some r := lim_of ((spec_l1Small_eq k i1).trans h)
noncomputable def pl_spec_l5Letter : List (Nat × Run) := [(fid_spec_l1Digit, run_spec_l1Digit), (fid_spec_l1Small, run_spec_l1Small)]
noncomputable def G_spec_l5Letter : Ctx := ctx tyTab fiTab pl_spec_l5Letter
noncomputable def run_spec_l5Letter : Run := lim G_spec_l5Letter fid_spec_l5Letter
theorem ok_spec_l5Letter : FnOk Tryd.prog OkT fid_spec_l5Letter run_spec_l5Letter := lim_ok (l := pl_spec_l5Letter) Tryd_mix tyTab_ok fiTab_ok okT (.cons ok_spec_l1Digit (.cons ok_spec_l1Small .nil)) fid_spec_l5Letter
noncomputable def spec_l5Letter (k m : Nat) (i1 : Int) : Option Res :=
  (callS run_spec_l1Small [.one (.sc (.int .u8 i1))] []).bind fun r2 =>
  cond (shapeOk rk_spec_l1Small r2)
  ((cB (cellsAt r2 0) 0).bind fun b3 =>
  cond b3
  (some ([.one (Cell.bool true)], []))
  ((callS run_spec_l1Digit [.one (.sc (.int .u8 i1))] []).bind fun r4 =>
  cond (shapeOk rk_spec_l1Digit r4)
  ((cB (cellsAt r4 0) 0).bind fun b5 =>
  cond b5
  (some ([.one (Cell.bool true)], []))
  (cond (i1 == 46)
  (some ([.one (Cell.bool true)], []))
  (cond (i1 == 45)
  (some ([.one (Cell.bool true)], []))
  (some ([.one (Cell.bool (i1 == 95))], [])))))
  none))
  none
theorem spec_l5Letter_code (k m : Nat) (i1 : Int) : evC G_spec_l5Letter fi_spec_l5Letter (evF G_spec_l5Letter (k + 1)) m fi_spec_l5Letter.code none (retK G_spec_l5Letter fi_spec_l5Letter) (enter fi_spec_l5Letter [.one (.sc (.int .u8 i1))] []) = spec_l5Letter (k + 1) m i1 := by
  kernel_rfl
theorem spec_l5Letter_eq (k : Nat) (i1 : Int) : evF G_spec_l5Letter (k + 2) fid_spec_l5Letter [.one (.sc (.int .u8 i1))] [] = spec_l5Letter (k + 1) (k + 1) i1 :=
  Eq.trans (by kernel_rfl) (spec_l5Letter_code k (k + 1) i1)
theorem run_spec_l5Letter_of {i1 : Int} {r : Res} (k : Nat) (h : spec_l5Letter (k + 1) (k + 1) i1 = some r) : run_spec_l5Letter [.one (.sc (.int .u8 i1))] [] = some r := lim_of ((spec_l5Letter_eq k i1).trans h)
noncomputable def pl_spec_l5Name : List (Nat × Run) := [(fid_spec_l1In, run_spec_l1In), (fid_spec_l5Letter, run_spec_l5Letter)]
noncomputable def G_spec_l5Name : Ctx := ctx tyTab fiTab pl_spec_l5Name
noncomputable def run_spec_l5Name : Run := lim G_spec_l5Name fid_spec_l5Name
theorem ok_spec_l5Name : FnOk Tryd.prog OkT fid_spec_l5Name run_spec_l5Name := lim_ok (l := pl_spec_l5Name) Tryd_mix tyTab_ok fiTab_ok okT (.cons ok_spec_l1In (.cons ok_spec_l5Letter .nil)) fid_spec_l5Name
noncomputable def spec_l5Name_l0 (k m : Nat) : Nat → ByteArray → Int → Option Res
  | 0, _, _ => none
  | n + 1, s2, i3 =>
    cond (decide (i3 < (s2.size : Int)))
    ((bytS s2 i3).bind fun i4 =>
    (callS run_spec_l5Letter [.one (.sc (.int .u8 i4))] []).bind fun r5 =>
    cond (shapeOk rk_spec_l5Letter r5)
    ((cB (cellsAt r5 0) 0).bind fun b6 =>
    cond (!b6)
    (some ([.one (Cell.bool false)], []))
    (spec_l5Name_l0 k m n s2 (IntKind.i64.wrap (i3 + 1))))
    none)
    ((callS run_spec_l1In [.one (Cell.int (s2.size : Int)), .one (Cell.int 1), .one (Cell.int 12)] []).bind fun r7 =>
    cond (shapeOk rk_spec_l1In r7)
    ((cB (cellsAt r7 0) 0).bind fun b8 =>
    cond b8
    (cond (!(s2.toList == (bs [46]).toList))
    (some ([.one (Cell.bool (!(s2.toList == (bs [46, 46]).toList)))], []))
    (some ([.one (Cell.bool false)], [])))
    (some ([.one (Cell.bool false)], [])))
    none)
noncomputable def spec_l5Name (k m : Nat) (s1 : ByteArray) : Option Res :=
  spec_l5Name_l0 k m m s1 0
noncomputable abbrev spec_l5Name_l0_B (k m : Nat) : (Ex → Fr → Option Res) → Fr → Option Res := evC G_spec_l5Name fi_spec_l5Name (evF G_spec_l5Name (k + 1)) m (sub [1, 0, 1, 2, 3] fi_spec_l5Name.code) none
noncomputable abbrev spec_l5Name_l0_K (k m : Nat) : Ex → Fr → Option Res := blockK 0 (seqK (evC G_spec_l5Name fi_spec_l5Name (evF G_spec_l5Name (k + 1)) m (sub [1, 1] fi_spec_l5Name.code) none) (retK G_spec_l5Name fi_spec_l5Name))
theorem spec_l5Name_l0_eq (k m : Nat) : ∀ (n : Nat) (s2 : ByteArray) (i3 : Int), loopK (some [0, 3]) (spec_l5Name_l0_B k m) (spec_l5Name_l0_K k m) n ⟨fT 26 0 [(0, .av (.one (Cell.str s2))), (3, .av (.one (Cell.int i3)))], fX 26 0 [], []⟩ = spec_l5Name_l0 (k + 1) m n s2 i3 := by
  intro n
  induction n with
  | zero => intros; rfl
  | succ n ih =>
    intros
    simp only [spec_l5Name_l0, ← ih]
    kernel_rfl
theorem spec_l5Name_code (k m : Nat) (s1 : ByteArray) : evC G_spec_l5Name fi_spec_l5Name (evF G_spec_l5Name (k + 1)) m fi_spec_l5Name.code none (retK G_spec_l5Name fi_spec_l5Name) (enter fi_spec_l5Name [.one (Cell.str s1)] []) = spec_l5Name (k + 1) m s1 := by
  simp only [spec_l5Name, ← spec_l5Name_l0_eq k m]
  kernel_rfl
theorem spec_l5Name_eq (k : Nat) (s1 : ByteArray) : evF G_spec_l5Name (k + 2) fid_spec_l5Name [.one (Cell.str s1)] [] = spec_l5Name (k + 1) (k + 1) s1 :=
  Eq.trans (by kernel_rfl) (spec_l5Name_code k (k + 1) s1)
theorem run_spec_l5Name_of {s1 : ByteArray} {r : Res} (k : Nat) (h : spec_l5Name (k + 1) (k + 1) s1 = some r) : run_spec_l5Name [.one (Cell.str s1)] [] = some r := lim_of ((spec_l5Name_eq k s1).trans h)
noncomputable def pl_spec_l15Into : List (Nat × Run) := [(fid_spec_Split, run_spec_Split)]
noncomputable def G_spec_l15Into : Ctx := ctx tyTab fiTab pl_spec_l15Into
noncomputable def run_spec_l15Into : Run := lim G_spec_l15Into fid_spec_l15Into
theorem ok_spec_l15Into : FnOk Tryd.prog OkT fid_spec_l15Into run_spec_l15Into := lim_ok (l := pl_spec_l15Into) Tryd_mix tyTab_ok fiTab_ok okT (.cons ok_spec_Split .nil) fid_spec_l15Into
noncomputable def spec_l15Into (k m : Nat) (s1 : ByteArray) : Option Res :=
  (callL run_spec_Split [.one (Cell.str s1), .one (.sc (.int .u8 32))] []).bind fun r2 =>
  cond (shapeOk rk_spec_Split r2.1)
  ((cC (cellsAt r2.1 0) 0).bind fun c3 =>
  (lenC c3).bind fun n4 =>
  cond (decide ((n4 : Int) ≥ 2))
  ((lenC c3).bind fun n5 =>
  (idxA 1 (c3) (IntKind.i64.wrap ((n5 : Int) - 2))).bind fun c6 =>
  (deref r2.2 (c6)).bind fun p7 =>
  (cS p7.1 p7.2).bind fun s8 =>
  some ([.one (Cell.bool (s8.toList == (bs [62]).toList))], r2.2))
  (some ([.one (Cell.bool false)], r2.2)))
  none
theorem spec_l15Into_code (k m : Nat) (s1 : ByteArray) : evC G_spec_l15Into fi_spec_l15Into (evF G_spec_l15Into (k + 1)) m fi_spec_l15Into.code none (retK G_spec_l15Into fi_spec_l15Into) (enter fi_spec_l15Into [.one (Cell.str s1)] []) = spec_l15Into (k + 1) m s1 := by
  kernel_rfl
theorem spec_l15Into_eq (k : Nat) (s1 : ByteArray) : evF G_spec_l15Into (k + 2) fid_spec_l15Into [.one (Cell.str s1)] [] = spec_l15Into (k + 1) (k + 1) s1 :=
  Eq.trans (by kernel_rfl) (spec_l15Into_code k (k + 1) s1)
theorem run_spec_l15Into_of {s1 : ByteArray} {r : Res} (k : Nat) (h : spec_l15Into (k + 1) (k + 1) s1 = some r) : run_spec_l15Into [.one (Cell.str s1)] [] = some r := lim_of ((spec_l15Into_eq k s1).trans h)
noncomputable def pl_spec_ActOk : List (Nat × Run) := [(fid_spec_l15Words, run_spec_l15Words), (fid_spec_l15Full, run_spec_l15Full), (fid_spec_l5Name, run_spec_l5Name), (fid_spec_l1In, run_spec_l1In), (fid_spec_l15Into, run_spec_l15Into)]
noncomputable def G_spec_ActOk : Ctx := ctx tyTab fiTab pl_spec_ActOk
noncomputable def run_spec_ActOk : Run := lim G_spec_ActOk fid_spec_ActOk
theorem ok_spec_ActOk : FnOk Tryd.prog OkT fid_spec_ActOk run_spec_ActOk := lim_ok (l := pl_spec_ActOk) Tryd_mix tyTab_ok fiTab_ok okT (.cons ok_spec_l15Words (.cons ok_spec_l15Full (.cons ok_spec_l5Name (.cons ok_spec_l1In (.cons ok_spec_l15Into .nil))))) fid_spec_ActOk
noncomputable def spec_ActOk (k m : Nat) (s1 : ByteArray) : Option Res :=
  (callL run_spec_l15Words [.one (Cell.str s1)] []).bind fun r2 =>
  cond (shapeOk rk_spec_l15Words r2.1)
  ((cC (cellsAt r2.1 0) 0).bind fun c3 =>
  (cS (cellsAt r2.1 1) 0).bind fun s4 =>
  (lenC c3).bind fun n5 =>
  (callS run_spec_l15Full [.one (c3)] r2.2).bind fun r6 =>
  cond (shapeOk rk_spec_l15Full r6)
  ((cB (cellsAt r6 0) 0).bind fun b7 =>
  cond (!b7)
  (some ([.one (Cell.bool false)], r2.2))
  (cond ((n5 : Int) == 0)
  (some ([.one (Cell.bool false)], r2.2))
  ((callS run_spec_l5Name [.one (Cell.str s4)] r2.2).bind fun r8 =>
  cond (shapeOk rk_spec_l5Name r8)
  ((cB (cellsAt r8 0) 0).bind fun b9 =>
  (idxA 1 (c3) 0).bind fun c10 =>
  (deref r2.2 (c10)).bind fun p11 =>
  (cS p11.1 p11.2).bind fun s12 =>
  cond (s12.toList == (bs [112, 117, 116]).toList)
  (cond (decide ((n5 : Int) ≥ 2))
  (some ([.one (Cell.bool b9)], r2.2))
  (some ([.one (Cell.bool false)], r2.2)))
  (cond (s12.toList == (bs [99, 97, 116]).toList)
  ((callS run_spec_l1In [.one (Cell.int (n5 : Int)), .one (Cell.int 2), .one (Cell.int 4)] r2.2).bind fun r13 =>
  cond (shapeOk rk_spec_l1In r13)
  ((cB (cellsAt r13 0) 0).bind fun b14 =>
  cond b14
  (some ([.one (Cell.bool b9)], r2.2))
  (some ([.one (Cell.bool false)], r2.2)))
  none)
  (cond (s12.toList == (bs [101, 110, 118]).toList)
  (cond ((n5 : Int) == 2)
  (some ([.one (Cell.bool b9)], r2.2))
  (some ([.one (Cell.bool false)], r2.2)))
  (cond (s12.toList == (bs [117, 115, 101]).toList)
  (cond ((n5 : Int) == 3)
  (some ([.one (Cell.bool b9)], r2.2))
  (some ([.one (Cell.bool false)], r2.2)))
  (cond (s12.toList == (bs [108, 111, 103]).toList)
  (cond (decide ((n5 : Int) ≥ 2))
  (cond (s4.toList == (bs []).toList)
  ((callS run_spec_l15Into [.one (Cell.str s1)] r2.2).bind fun r15 =>
  cond (shapeOk rk_spec_l15Into r15)
  ((cB (cellsAt r15 0) 0).bind fun b16 =>
  some ([.one (Cell.bool (!b16))], r2.2))
  none)
  (some ([.one (Cell.bool false)], r2.2)))
  (some ([.one (Cell.bool false)], r2.2)))
  (cond (s12.toList == (bs [102, 97, 105, 108]).toList)
  (cond ((n5 : Int) == 1)
  (cond (s4.toList == (bs []).toList)
  ((callS run_spec_l15Into [.one (Cell.str s1)] r2.2).bind fun r17 =>
  cond (shapeOk rk_spec_l15Into r17)
  ((cB (cellsAt r17 0) 0).bind fun b18 =>
  some ([.one (Cell.bool (!b18))], r2.2))
  none)
  (some ([.one (Cell.bool false)], r2.2)))
  (some ([.one (Cell.bool false)], r2.2)))
  (some ([.one (Cell.bool false)], r2.2))))))))
  none)))
  none)
  none
theorem spec_ActOk_code (k m : Nat) (s1 : ByteArray) : evC G_spec_ActOk fi_spec_ActOk (evF G_spec_ActOk (k + 1)) m fi_spec_ActOk.code none (retK G_spec_ActOk fi_spec_ActOk) (enter fi_spec_ActOk [.one (Cell.str s1)] []) = spec_ActOk (k + 1) m s1 := by
  kernel_rfl
theorem spec_ActOk_eq (k : Nat) (s1 : ByteArray) : evF G_spec_ActOk (k + 2) fid_spec_ActOk [.one (Cell.str s1)] [] = spec_ActOk (k + 1) (k + 1) s1 :=
  Eq.trans (by kernel_rfl) (spec_ActOk_code k (k + 1) s1)
theorem run_spec_ActOk_of {s1 : ByteArray} {r : Res} (k : Nat) (h : spec_ActOk (k + 1) (k + 1) s1 = some r) : run_spec_ActOk [.one (Cell.str s1)] [] = some r := lim_of ((spec_ActOk_eq k s1).trans h)
noncomputable def pl_unicode_utf8_RuneCountInString : List (Nat × Run) := []
noncomputable def G_unicode_utf8_RuneCountInString : Ctx := ctx tyTab fiTab pl_unicode_utf8_RuneCountInString
noncomputable def run_unicode_utf8_RuneCountInString : Run := lim G_unicode_utf8_RuneCountInString fid_unicode_utf8_RuneCountInString
theorem ok_unicode_utf8_RuneCountInString : FnOk Tryd.prog OkT fid_unicode_utf8_RuneCountInString run_unicode_utf8_RuneCountInString := lim_ok (l := pl_unicode_utf8_RuneCountInString) Tryd_mix tyTab_ok fiTab_ok okT .nil fid_unicode_utf8_RuneCountInString
noncomputable def unicode_utf8_RuneCountInString (k m : Nat) (s1 : ByteArray) : Option Res :=
  none
theorem unicode_utf8_RuneCountInString_code (k m : Nat) (s1 : ByteArray) : evC G_unicode_utf8_RuneCountInString fi_unicode_utf8_RuneCountInString (evF G_unicode_utf8_RuneCountInString (k + 1)) m fi_unicode_utf8_RuneCountInString.code none (retK G_unicode_utf8_RuneCountInString fi_unicode_utf8_RuneCountInString) (enter fi_unicode_utf8_RuneCountInString [.one (Cell.str s1)] []) = unicode_utf8_RuneCountInString (k + 1) m s1 := by
  kernel_rfl
theorem unicode_utf8_RuneCountInString_eq (k : Nat) (s1 : ByteArray) : evF G_unicode_utf8_RuneCountInString (k + 2) fid_unicode_utf8_RuneCountInString [.one (Cell.str s1)] [] = unicode_utf8_RuneCountInString (k + 1) (k + 1) s1 :=
  Eq.trans (by kernel_rfl) (unicode_utf8_RuneCountInString_code k (k + 1) s1)
theorem run_unicode_utf8_RuneCountInString_of {s1 : ByteArray} {r : Res} (k : Nat) (h : unicode_utf8_RuneCountInString (k + 1) (k + 1) s1 = some r) : run_unicode_utf8_RuneCountInString [.one (Cell.str s1)] [] = some r := lim_of ((unicode_utf8_RuneCountInString_eq k s1).trans h)
noncomputable def pl_unicode_utf8_decodeRuneInStringSlow : List (Nat × Run) := []
noncomputable def G_unicode_utf8_decodeRuneInStringSlow : Ctx := ctx tyTab fiTab pl_unicode_utf8_decodeRuneInStringSlow
noncomputable def run_unicode_utf8_decodeRuneInStringSlow : Run := lim G_unicode_utf8_decodeRuneInStringSlow fid_unicode_utf8_decodeRuneInStringSlow
theorem ok_unicode_utf8_decodeRuneInStringSlow : FnOk Tryd.prog OkT fid_unicode_utf8_decodeRuneInStringSlow run_unicode_utf8_decodeRuneInStringSlow := lim_ok (l := pl_unicode_utf8_decodeRuneInStringSlow) Tryd_mix tyTab_ok fiTab_ok okT .nil fid_unicode_utf8_decodeRuneInStringSlow
noncomputable def unicode_utf8_decodeRuneInStringSlow (k m : Nat) (s1 : ByteArray) : Option Res :=
  cond (decide ((s1.size : Int) < 1))
  (some ([.one (.sc (.int .i32 65533)), .one (Cell.int 0)], []))
  ((bytS s1 0).bind fun i2 =>
  none)
theorem unicode_utf8_decodeRuneInStringSlow_code (k m : Nat) (s1 : ByteArray) : evC G_unicode_utf8_decodeRuneInStringSlow fi_unicode_utf8_decodeRuneInStringSlow (evF G_unicode_utf8_decodeRuneInStringSlow (k + 1)) m fi_unicode_utf8_decodeRuneInStringSlow.code none (retK G_unicode_utf8_decodeRuneInStringSlow fi_unicode_utf8_decodeRuneInStringSlow) (enter fi_unicode_utf8_decodeRuneInStringSlow [.one (Cell.str s1)] []) = unicode_utf8_decodeRuneInStringSlow (k + 1) m s1 := by
  kernel_rfl
theorem unicode_utf8_decodeRuneInStringSlow_eq (k : Nat) (s1 : ByteArray) : evF G_unicode_utf8_decodeRuneInStringSlow (k + 2) fid_unicode_utf8_decodeRuneInStringSlow [.one (Cell.str s1)] [] = unicode_utf8_decodeRuneInStringSlow (k + 1) (k + 1) s1 :=
  Eq.trans (by kernel_rfl) (unicode_utf8_decodeRuneInStringSlow_code k (k + 1) s1)
theorem run_unicode_utf8_decodeRuneInStringSlow_of {s1 : ByteArray} {r : Res} (k : Nat) (h : unicode_utf8_decodeRuneInStringSlow (k + 1) (k + 1) s1 = some r) : run_unicode_utf8_decodeRuneInStringSlow [.one (Cell.str s1)] [] = some r := lim_of ((unicode_utf8_decodeRuneInStringSlow_eq k s1).trans h)
noncomputable def pl_unicode_utf8_DecodeRuneInString : List (Nat × Run) := [(fid_unicode_utf8_decodeRuneInStringSlow, run_unicode_utf8_decodeRuneInStringSlow)]
noncomputable def G_unicode_utf8_DecodeRuneInString : Ctx := ctx tyTab fiTab pl_unicode_utf8_DecodeRuneInString
noncomputable def run_unicode_utf8_DecodeRuneInString : Run := lim G_unicode_utf8_DecodeRuneInString fid_unicode_utf8_DecodeRuneInString
theorem ok_unicode_utf8_DecodeRuneInString : FnOk Tryd.prog OkT fid_unicode_utf8_DecodeRuneInString run_unicode_utf8_DecodeRuneInString := lim_ok (l := pl_unicode_utf8_DecodeRuneInString) Tryd_mix tyTab_ok fiTab_ok okT (.cons ok_unicode_utf8_decodeRuneInStringSlow .nil) fid_unicode_utf8_DecodeRuneInString
noncomputable def unicode_utf8_DecodeRuneInString (k m : Nat) (s1 : ByteArray) : Option Res :=
  cond (!(s1.toList == (bs []).toList))
  ((bytS s1 0).bind fun i2 =>
  cond (decide (i2 < 128))
  ((bytS s1 0).bind fun i3 =>
  some ([.one (.sc (.int .i32 (IntKind.i32.wrap i3))), .one (Cell.int 1)], []))
  ((callS run_unicode_utf8_decodeRuneInStringSlow [.one (Cell.str s1)] []).bind fun r4 =>
  cond (shapeOk rk_unicode_utf8_decodeRuneInStringSlow r4)
  ((cI .i32 (cellsAt r4 0) 0).bind fun i5 =>
  (cI .i64 (cellsAt r4 1) 0).bind fun i6 =>
  some ([.one (.sc (.int .i32 i5)), .one (Cell.int i6)], []))
  none))
  ((callS run_unicode_utf8_decodeRuneInStringSlow [.one (Cell.str s1)] []).bind fun r7 =>
  cond (shapeOk rk_unicode_utf8_decodeRuneInStringSlow r7)
  ((cI .i32 (cellsAt r7 0) 0).bind fun i8 =>
  (cI .i64 (cellsAt r7 1) 0).bind fun i9 =>
  some ([.one (.sc (.int .i32 i8)), .one (Cell.int i9)], []))
  none)
theorem unicode_utf8_DecodeRuneInString_code (k m : Nat) (s1 : ByteArray) : evC G_unicode_utf8_DecodeRuneInString fi_unicode_utf8_DecodeRuneInString (evF G_unicode_utf8_DecodeRuneInString (k + 1)) m fi_unicode_utf8_DecodeRuneInString.code none (retK G_unicode_utf8_DecodeRuneInString fi_unicode_utf8_DecodeRuneInString) (enter fi_unicode_utf8_DecodeRuneInString [.one (Cell.str s1)] []) = unicode_utf8_DecodeRuneInString (k + 1) m s1 := by
  kernel_rfl
theorem unicode_utf8_DecodeRuneInString_eq (k : Nat) (s1 : ByteArray) : evF G_unicode_utf8_DecodeRuneInString (k + 2) fid_unicode_utf8_DecodeRuneInString [.one (Cell.str s1)] [] = unicode_utf8_DecodeRuneInString (k + 1) (k + 1) s1 :=
  Eq.trans (by kernel_rfl) (unicode_utf8_DecodeRuneInString_code k (k + 1) s1)
theorem run_unicode_utf8_DecodeRuneInString_of {s1 : ByteArray} {r : Res} (k : Nat) (h : unicode_utf8_DecodeRuneInString (k + 1) (k + 1) s1 = some r) : run_unicode_utf8_DecodeRuneInString [.one (Cell.str s1)] [] = some r := lim_of ((unicode_utf8_DecodeRuneInString_eq k s1).trans h)
noncomputable def pl_strings_explode : List (Nat × Run) := [(fid_unicode_utf8_RuneCountInString, run_unicode_utf8_RuneCountInString), (fid_unicode_utf8_DecodeRuneInString, run_unicode_utf8_DecodeRuneInString)]
noncomputable def G_strings_explode : Ctx := ctx tyTab fiTab pl_strings_explode
noncomputable def run_strings_explode : Run := lim G_strings_explode fid_strings_explode
theorem ok_strings_explode : FnOk Tryd.prog OkT fid_strings_explode run_strings_explode := lim_ok (l := pl_strings_explode) Tryd_mix tyTab_ok fiTab_ok okT (.cons ok_unicode_utf8_RuneCountInString (.cons ok_unicode_utf8_DecodeRuneInString .nil)) fid_strings_explode
noncomputable def strings_explode_l0 (k m : Nat) : Nat → ByteArray → Int → Cell → Int → List Entry → Option Res
  | 0, _, _, _, _, _ => none
  | n + 1, s5, i6, c7, i8, H9 =>
    cond (decide (i8 < (IntKind.i64.wrap (i6 - 1))))
    ((callS run_unicode_utf8_DecodeRuneInString [.one (Cell.str s5)] H9).bind fun r10 =>
    cond (shapeOk rk_unicode_utf8_DecodeRuneInString r10)
    ((cI .i32 (cellsAt r10 0) 0).bind fun i11 =>
    (cI .i64 (cellsAt r10 1) 0).bind fun i12 =>
    (subS s5 0 i12).bind fun s13 =>
    (idxA 1 (c7) i8).bind fun c14 =>
    (hStore H9 (c14) [Cell.str s13]).bind fun h15 =>
    (subS s5 i12 (s5.size : Int)).bind fun s16 =>
    strings_explode_l0 k m n s16 i6 (c7) (IntKind.i64.wrap (i8 + 1)) h15)
    none)
    (cond (decide (i6 > 0))
    ((idxA 1 (c7) (IntKind.i64.wrap (i6 - 1))).bind fun c17 =>
    (hStore H9 (c17) [Cell.str s5]).bind fun h18 =>
    some ([.one (c7)], h18))
    (some ([.one (c7)], H9)))
noncomputable def strings_explode (k m : Nat) (s1 : ByteArray) (i2 : Int) : Option Res :=
  (callS run_unicode_utf8_RuneCountInString [.one (Cell.str s1)] []).bind fun r3 =>
  cond (shapeOk rk_unicode_utf8_RuneCountInString r3)
  ((cI .i64 (cellsAt r3 0) 0).bind fun i4 =>
  cond (decide (i2 < 0))
  (if 0 ≤ i4 ∧ i4 ≤ i4 ∧ i4 * 16 ≤ bound ∧ i4 ≤ bound then
  (strings_explode_l0 k m m s1 i4 ((.vs 0 1 0 i4.toNat 0)) 0 [Entry.mk 1 (mkRows i4.toNat [Cell.str (bs [])]) 0 false]) else none)
  (cond (decide (i2 > i4))
  (if 0 ≤ i4 ∧ i4 ≤ i4 ∧ i4 * 16 ≤ bound ∧ i4 ≤ bound then
  (strings_explode_l0 k m m s1 i4 ((.vs 0 1 0 i4.toNat 0)) 0 [Entry.mk 1 (mkRows i4.toNat [Cell.str (bs [])]) 0 false]) else none)
  (if 0 ≤ i2 ∧ i2 ≤ i2 ∧ i2 * 16 ≤ bound ∧ i2 ≤ bound then
  (strings_explode_l0 k m m s1 i2 ((.vs 0 1 0 i2.toNat 0)) 0 [Entry.mk 1 (mkRows i2.toNat [Cell.str (bs [])]) 0 false]) else none)))
  none
noncomputable abbrev strings_explode_l0_B (k m : Nat) : (Ex → Fr → Option Res) → Fr → Option Res := evC G_strings_explode fi_strings_explode (evF G_strings_explode (k + 1)) m (sub [1, 1, 1, 1, 0, 1, 2, 3] fi_strings_explode.code) none
noncomputable abbrev strings_explode_l0_K (k m : Nat) : Ex → Fr → Option Res := blockK 0 (seqK (evC G_strings_explode fi_strings_explode (evF G_strings_explode (k + 1)) m (sub [1, 1, 1, 1, 1] fi_strings_explode.code) none) (retK G_strings_explode fi_strings_explode))
theorem strings_explode_l0_eq (k m : Nat) : ∀ (n : Nat) (s5 : ByteArray) (i6 : Int) (c7 : Cell) (i8 : Int) (H9 : List Entry), loopK (some [0, 1, 6, 7]) (strings_explode_l0_B k m) (strings_explode_l0_K k m) n ⟨fT 50 0 [(0, .av (.one (Cell.str s5))), (1, .av (.one (Cell.int i6))), (6, .av (.one (c7))), (7, .av (.one (Cell.int i8)))], fX 50 0 [], H9⟩ = strings_explode_l0 (k + 1) m n s5 i6 c7 i8 H9 := by
  intro n
  induction n with
  | zero => intros; rfl
  | succ n ih =>
    intros
    simp only [strings_explode_l0, ← ih]
    kernel_rfl
theorem strings_explode_code (k m : Nat) (s1 : ByteArray) (i2 : Int) : evC G_strings_explode fi_strings_explode (evF G_strings_explode (k + 1)) m fi_strings_explode.code none (retK G_strings_explode fi_strings_explode) (enter fi_strings_explode [.one (Cell.str s1), .one (Cell.int i2)] []) = strings_explode (k + 1) m s1 i2 := by
  simp only [strings_explode, ← strings_explode_l0_eq k m]
  kernel_rfl
theorem strings_explode_eq (k : Nat) (s1 : ByteArray) (i2 : Int) : evF G_strings_explode (k + 2) fid_strings_explode [.one (Cell.str s1), .one (Cell.int i2)] [] = strings_explode (k + 1) (k + 1) s1 i2 :=
  Eq.trans (by kernel_rfl) (strings_explode_code k (k + 1) s1 i2)
theorem run_strings_explode_of {s1 : ByteArray} {i2 : Int} {r : Res} (k : Nat) (h : strings_explode (k + 1) (k + 1) s1 i2 = some r) : run_strings_explode [.one (Cell.str s1), .one (Cell.int i2)] [] = some r := lim_of ((strings_explode_eq k s1 i2).trans h)
noncomputable def pl_internal_bytealg_Cutover : List (Nat × Run) := []
noncomputable def G_internal_bytealg_Cutover : Ctx := ctx tyTab fiTab pl_internal_bytealg_Cutover
noncomputable def run_internal_bytealg_Cutover : Run := lim G_internal_bytealg_Cutover fid_internal_bytealg_Cutover
theorem ok_internal_bytealg_Cutover : FnOk Tryd.prog OkT fid_internal_bytealg_Cutover run_internal_bytealg_Cutover := lim_ok (l := pl_internal_bytealg_Cutover) Tryd_mix tyTab_ok fiTab_ok okT .nil fid_internal_bytealg_Cutover
noncomputable def internal_bytealg_Cutover (k m : Nat) (i1 : Int) : Option Res :=
  some ([.one (Cell.int (IntKind.i64.wrap ((IntKind.i64.wrap (i1 + 16)).tdiv 8)))], [])
theorem internal_bytealg_Cutover_code (k m : Nat) (i1 : Int) : evC G_internal_bytealg_Cutover fi_internal_bytealg_Cutover (evF G_internal_bytealg_Cutover (k + 1)) m fi_internal_bytealg_Cutover.code none (retK G_internal_bytealg_Cutover fi_internal_bytealg_Cutover) (enter fi_internal_bytealg_Cutover [.one (Cell.int i1)] []) = internal_bytealg_Cutover (k + 1) m i1 := by
  kernel_rfl
theorem internal_bytealg_Cutover_eq (k : Nat) (i1 : Int) : evF G_internal_bytealg_Cutover (k + 2) fid_internal_bytealg_Cutover [.one (Cell.int i1)] [] = internal_bytealg_Cutover (k + 1) (k + 1) i1 :=
  Eq.trans (by kernel_rfl) (internal_bytealg_Cutover_code k (k + 1) i1)
theorem run_internal_bytealg_Cutover_of {i1 : Int} {r : Res} (k : Nat) (h : internal_bytealg_Cutover (k + 1) (k + 1) i1 = some r) : run_internal_bytealg_Cutover [.one (Cell.int i1)] [] = some r := lim_of ((internal_bytealg_Cutover_eq k i1).trans h)
noncomputable def pl_internal_bytealg_hashStr_string : List (Nat × Run) := []
noncomputable def G_internal_bytealg_hashStr_string : Ctx := ctx tyTab fiTab pl_internal_bytealg_hashStr_string
noncomputable def run_internal_bytealg_hashStr_string : Run := lim G_internal_bytealg_hashStr_string fid_internal_bytealg_hashStr_string
theorem ok_internal_bytealg_hashStr_string : FnOk Tryd.prog OkT fid_internal_bytealg_hashStr_string run_internal_bytealg_hashStr_string := lim_ok (l := pl_internal_bytealg_hashStr_string) Tryd_mix tyTab_ok fiTab_ok okT .nil fid_internal_bytealg_hashStr_string
noncomputable def internal_bytealg_hashStr_string_l1 (k m : Nat) : Nat → Int → Int → Int → Int → Option Res
  | 0, _, _, _, _ => none
  | n + 1, i6, i7, i8, i9 =>
    cond (decide (i9 > 0))
    (cond ((andI .i64 i9 1) != 0)
    (internal_bytealg_hashStr_string_l1 k m n i6 (IntKind.u32.wrap (i7 * i8)) (IntKind.u32.wrap (i8 * i8)) (shrI .i64 i9 1))
    (internal_bytealg_hashStr_string_l1 k m n i6 i7 (IntKind.u32.wrap (i8 * i8)) (shrI .i64 i9 1)))
    (some ([.one (.sc (.int .u32 i6)), .one (.sc (.int .u32 i7))], []))
noncomputable def internal_bytealg_hashStr_string_l0 (k m : Nat) : Nat → ByteArray → Int → Int → Option Res
  | 0, _, _, _ => none
  | n + 1, s2, i3, i4 =>
    cond (decide (i4 < (s2.size : Int)))
    ((bytS s2 i4).bind fun i5 =>
    internal_bytealg_hashStr_string_l0 k m n s2 (IntKind.u32.wrap ((IntKind.u32.wrap (i3 * 16777619)) + (IntKind.u32.wrap i5))) (IntKind.i64.wrap (i4 + 1)))
    (internal_bytealg_hashStr_string_l1 k m m i3 1 16777619 (s2.size : Int))
noncomputable def internal_bytealg_hashStr_string (k m : Nat) (s1 : ByteArray) : Option Res :=
  internal_bytealg_hashStr_string_l0 k m m s1 0 0
noncomputable abbrev internal_bytealg_hashStr_string_l0_B (k m : Nat) : (Ex → Fr → Option Res) → Fr → Option Res := evC G_internal_bytealg_hashStr_string fi_internal_bytealg_hashStr_string (evF G_internal_bytealg_hashStr_string (k + 1)) m (sub [1, 1, 0, 1, 2, 3] fi_internal_bytealg_hashStr_string.code) none
noncomputable abbrev internal_bytealg_hashStr_string_l0_K (k m : Nat) : Ex → Fr → Option Res := blockK 0 (seqK (evC G_internal_bytealg_hashStr_string fi_internal_bytealg_hashStr_string (evF G_internal_bytealg_hashStr_string (k + 1)) m (sub [1, 1, 1] fi_internal_bytealg_hashStr_string.code) none) (retK G_internal_bytealg_hashStr_string fi_internal_bytealg_hashStr_string))
noncomputable abbrev internal_bytealg_hashStr_string_l1_B (k m : Nat) : (Ex → Fr → Option Res) → Fr → Option Res := evC G_internal_bytealg_hashStr_string fi_internal_bytealg_hashStr_string (evF G_internal_bytealg_hashStr_string (k + 1)) m (sub [1, 1, 1, 1, 0, 1, 2, 3] fi_internal_bytealg_hashStr_string.code) none
noncomputable abbrev internal_bytealg_hashStr_string_l1_K (k m : Nat) : Ex → Fr → Option Res := blockK 2 (seqK (evC G_internal_bytealg_hashStr_string fi_internal_bytealg_hashStr_string (evF G_internal_bytealg_hashStr_string (k + 1)) m (sub [1, 1, 1, 1, 1] fi_internal_bytealg_hashStr_string.code) none) (retK G_internal_bytealg_hashStr_string fi_internal_bytealg_hashStr_string))
theorem internal_bytealg_hashStr_string_l1_eq (k m : Nat) : ∀ (n : Nat) (i6 : Int) (i7 : Int) (i8 : Int) (i9 : Int), loopK (some [4, 6, 7, 8]) (internal_bytealg_hashStr_string_l1_B k m) (internal_bytealg_hashStr_string_l1_K k m) n ⟨fT 39 0 [(4, .av (.one (.sc (.int .u32 i6)))), (6, .av (.one (.sc (.int .u32 i7)))), (7, .av (.one (.sc (.int .u32 i8)))), (8, .av (.one (Cell.int i9)))], fX 39 0 [], []⟩ = internal_bytealg_hashStr_string_l1 (k + 1) m n i6 i7 i8 i9 := by
  intro n
  induction n with
  | zero => intros; rfl
  | succ n ih =>
    intros
    simp only [internal_bytealg_hashStr_string_l1, ← ih]
    kernel_rfl
theorem internal_bytealg_hashStr_string_l0_eq (k m : Nat) : ∀ (n : Nat) (s2 : ByteArray) (i3 : Int) (i4 : Int), loopK (some [0, 4, 5]) (internal_bytealg_hashStr_string_l0_B k m) (internal_bytealg_hashStr_string_l0_K k m) n ⟨fT 39 0 [(0, .av (.one (Cell.str s2))), (4, .av (.one (.sc (.int .u32 i3)))), (5, .av (.one (Cell.int i4)))], fX 39 0 [], []⟩ = internal_bytealg_hashStr_string_l0 (k + 1) m n s2 i3 i4 := by
  intro n
  induction n with
  | zero => intros; rfl
  | succ n ih =>
    intros
    simp only [internal_bytealg_hashStr_string_l0, ← internal_bytealg_hashStr_string_l1_eq k m, ← ih]
    kernel_rfl
theorem internal_bytealg_hashStr_string_code (k m : Nat) (s1 : ByteArray) : evC G_internal_bytealg_hashStr_string fi_internal_bytealg_hashStr_string (evF G_internal_bytealg_hashStr_string (k + 1)) m fi_internal_bytealg_hashStr_string.code none (retK G_internal_bytealg_hashStr_string fi_internal_bytealg_hashStr_string) (enter fi_internal_bytealg_hashStr_string [.one (Cell.str s1)] []) = internal_bytealg_hashStr_string (k + 1) m s1 := by
  simp only [internal_bytealg_hashStr_string, ← internal_bytealg_hashStr_string_l0_eq k m]
  kernel_rfl
theorem internal_bytealg_hashStr_string_eq (k : Nat) (s1 : ByteArray) : evF G_internal_bytealg_hashStr_string (k + 2) fid_internal_bytealg_hashStr_string [.one (Cell.str s1)] [] = internal_bytealg_hashStr_string (k + 1) (k + 1) s1 :=
  Eq.trans (by kernel_rfl) (internal_bytealg_hashStr_string_code k (k + 1) s1)
theorem run_internal_bytealg_hashStr_string_of {s1 : ByteArray} {r : Res} (k : Nat) (h : internal_bytealg_hashStr_string (k + 1) (k + 1) s1 = some r) : run_internal_bytealg_hashStr_string [.one (Cell.str s1)] [] = some r := lim_of ((internal_bytealg_hashStr_string_eq k s1).trans h)
noncomputable def pl_internal_bytealg_IndexRabinKarp_string : List (Nat × Run) := [(fid_internal_bytealg_hashStr_string, run_internal_bytealg_hashStr_string)]
noncomputable def G_internal_bytealg_IndexRabinKarp_string : Ctx := ctx tyTab fiTab pl_internal_bytealg_IndexRabinKarp_string
noncomputable def run_internal_bytealg_IndexRabinKarp_string : Run := lim G_internal_bytealg_IndexRabinKarp_string fid_internal_bytealg_IndexRabinKarp_string
theorem ok_internal_bytealg_IndexRabinKarp_string : FnOk Tryd.prog OkT fid_internal_bytealg_IndexRabinKarp_string run_internal_bytealg_IndexRabinKarp_string := lim_ok (l := pl_internal_bytealg_IndexRabinKarp_string) Tryd_mix tyTab_ok fiTab_ok okT (.cons ok_internal_bytealg_hashStr_string .nil) fid_internal_bytealg_IndexRabinKarp_string
noncomputable def internal_bytealg_IndexRabinKarp_string_l1 (k m : Nat) : Nat → ByteArray → ByteArray → Int → Int → Int → Int → Int → Option Res
  | 0, _, _, _, _, _, _, _ => none
  | n + 1, s15, s16, i17, i18, i19, i20, i21 =>
    cond (decide (i21 < (s15.size : Int)))
    ((bytS s15 i21).bind fun i22 =>
    (bytS s15 (IntKind.i64.wrap (i21 - i19))).bind fun i23 =>
    cond ((IntKind.u32.wrap ((IntKind.u32.wrap ((IntKind.u32.wrap (i20 * 16777619)) + (IntKind.u32.wrap i22))) - (IntKind.u32.wrap (i18 * (IntKind.u32.wrap i23))))) == i17)
    ((subS s15 (IntKind.i64.wrap ((IntKind.i64.wrap (i21 + 1)) - i19)) (IntKind.i64.wrap (i21 + 1))).bind fun s24 =>
    cond (s24.toList == s16.toList)
    (some ([.one (Cell.int (IntKind.i64.wrap ((IntKind.i64.wrap (i21 + 1)) - i19)))], []))
    (internal_bytealg_IndexRabinKarp_string_l1 k m n s15 s16 i17 i18 i19 (IntKind.u32.wrap ((IntKind.u32.wrap ((IntKind.u32.wrap (i20 * 16777619)) + (IntKind.u32.wrap i22))) - (IntKind.u32.wrap (i18 * (IntKind.u32.wrap i23))))) (IntKind.i64.wrap (i21 + 1))))
    (internal_bytealg_IndexRabinKarp_string_l1 k m n s15 s16 i17 i18 i19 (IntKind.u32.wrap ((IntKind.u32.wrap ((IntKind.u32.wrap (i20 * 16777619)) + (IntKind.u32.wrap i22))) - (IntKind.u32.wrap (i18 * (IntKind.u32.wrap i23))))) (IntKind.i64.wrap (i21 + 1))))
    (some ([.one (Cell.int (-1))], []))
noncomputable def internal_bytealg_IndexRabinKarp_string_l0 (k m : Nat) : Nat → ByteArray → ByteArray → Int → Int → Int → Int → Int → Option Res
  | 0, _, _, _, _, _, _, _ => none
  | n + 1, s6, s7, i8, i9, i10, i11, i12 =>
    cond (decide (i12 < i10))
    ((bytS s6 i12).bind fun i13 =>
    internal_bytealg_IndexRabinKarp_string_l0 k m n s6 s7 i8 i9 i10 (IntKind.u32.wrap ((IntKind.u32.wrap (i11 * 16777619)) + (IntKind.u32.wrap i13))) (IntKind.i64.wrap (i12 + 1)))
    (cond (i11 == i8)
    ((subS s6 0 i10).bind fun s14 =>
    cond (s14.toList == s7.toList)
    (some ([.one (Cell.int 0)], []))
    (internal_bytealg_IndexRabinKarp_string_l1 k m m s6 s7 i8 i9 i10 i11 i10))
    (internal_bytealg_IndexRabinKarp_string_l1 k m m s6 s7 i8 i9 i10 i11 i10))
noncomputable def internal_bytealg_IndexRabinKarp_string (k m : Nat) (s1 : ByteArray) (s2 : ByteArray) : Option Res :=
  (callS run_internal_bytealg_hashStr_string [.one (Cell.str s2)] []).bind fun r3 =>
  cond (shapeOk rk_internal_bytealg_hashStr_string r3)
  ((cI .u32 (cellsAt r3 0) 0).bind fun i4 =>
  (cI .u32 (cellsAt r3 1) 0).bind fun i5 =>
  internal_bytealg_IndexRabinKarp_string_l0 k m m s1 s2 i4 i5 (s2.size : Int) 0 0)
  none
noncomputable abbrev internal_bytealg_IndexRabinKarp_string_l0_B (k m : Nat) : (Ex → Fr → Option Res) → Fr → Option Res := evC G_internal_bytealg_IndexRabinKarp_string fi_internal_bytealg_IndexRabinKarp_string (evF G_internal_bytealg_IndexRabinKarp_string (k + 1)) m (sub [1, 1, 1, 1, 0, 1, 2, 3] fi_internal_bytealg_IndexRabinKarp_string.code) none
noncomputable abbrev internal_bytealg_IndexRabinKarp_string_l0_K (k m : Nat) : Ex → Fr → Option Res := blockK 0 (seqK (evC G_internal_bytealg_IndexRabinKarp_string fi_internal_bytealg_IndexRabinKarp_string (evF G_internal_bytealg_IndexRabinKarp_string (k + 1)) m (sub [1, 1, 1, 1, 1] fi_internal_bytealg_IndexRabinKarp_string.code) none) (retK G_internal_bytealg_IndexRabinKarp_string fi_internal_bytealg_IndexRabinKarp_string))
noncomputable abbrev internal_bytealg_IndexRabinKarp_string_l1_B (k m : Nat) : (Ex → Fr → Option Res) → Fr → Option Res := evC G_internal_bytealg_IndexRabinKarp_string fi_internal_bytealg_IndexRabinKarp_string (evF G_internal_bytealg_IndexRabinKarp_string (k + 1)) m (sub [1, 1, 1, 1, 1, 1, 0, 1, 2, 3] fi_internal_bytealg_IndexRabinKarp_string.code) none
noncomputable abbrev internal_bytealg_IndexRabinKarp_string_l1_K (k m : Nat) : Ex → Fr → Option Res := blockK 2 (seqK (evC G_internal_bytealg_IndexRabinKarp_string fi_internal_bytealg_IndexRabinKarp_string (evF G_internal_bytealg_IndexRabinKarp_string (k + 1)) m (sub [1, 1, 1, 1, 1, 1, 1] fi_internal_bytealg_IndexRabinKarp_string.code) none) (retK G_internal_bytealg_IndexRabinKarp_string fi_internal_bytealg_IndexRabinKarp_string))
theorem internal_bytealg_IndexRabinKarp_string_l1_eq (k m : Nat) : ∀ (n : Nat) (s15 : ByteArray) (s16 : ByteArray) (i17 : Int) (i18 : Int) (i19 : Int) (i20 : Int) (i21 : Int), loopK (some [0, 1, 5, 6, 7, 8, 10]) (internal_bytealg_IndexRabinKarp_string_l1_B k m) (internal_bytealg_IndexRabinKarp_string_l1_K k m) n ⟨fT 81 0 [(0, .av (.one (Cell.str s15))), (1, .av (.one (Cell.str s16))), (5, .av (.one (.sc (.int .u32 i17)))), (6, .av (.one (.sc (.int .u32 i18)))), (7, .av (.one (Cell.int i19))), (8, .av (.one (.sc (.int .u32 i20)))), (10, .av (.one (Cell.int i21)))], fX 81 0 [], []⟩ = internal_bytealg_IndexRabinKarp_string_l1 (k + 1) m n s15 s16 i17 i18 i19 i20 i21 := by
  intro n
  induction n with
  | zero => intros; rfl
  | succ n ih =>
    intros
    simp only [internal_bytealg_IndexRabinKarp_string_l1, ← ih]
    kernel_rfl
theorem internal_bytealg_IndexRabinKarp_string_l0_eq (k m : Nat) : ∀ (n : Nat) (s6 : ByteArray) (s7 : ByteArray) (i8 : Int) (i9 : Int) (i10 : Int) (i11 : Int) (i12 : Int), loopK (some [0, 1, 5, 6, 7, 8, 9]) (internal_bytealg_IndexRabinKarp_string_l0_B k m) (internal_bytealg_IndexRabinKarp_string_l0_K k m) n ⟨fT 81 0 [(0, .av (.one (Cell.str s6))), (1, .av (.one (Cell.str s7))), (5, .av (.one (.sc (.int .u32 i8)))), (6, .av (.one (.sc (.int .u32 i9)))), (7, .av (.one (Cell.int i10))), (8, .av (.one (.sc (.int .u32 i11)))), (9, .av (.one (Cell.int i12)))], fX 81 0 [], []⟩ = internal_bytealg_IndexRabinKarp_string_l0 (k + 1) m n s6 s7 i8 i9 i10 i11 i12 := by
  intro n
  induction n with
  | zero => intros; rfl
  | succ n ih =>
    intros
    simp only [internal_bytealg_IndexRabinKarp_string_l0, ← internal_bytealg_IndexRabinKarp_string_l1_eq k m, ← ih]
    kernel_rfl
theorem internal_bytealg_IndexRabinKarp_string_code (k m : Nat) (s1 : ByteArray) (s2 : ByteArray) : evC G_internal_bytealg_IndexRabinKarp_string fi_internal_bytealg_IndexRabinKarp_string (evF G_internal_bytealg_IndexRabinKarp_string (k + 1)) m fi_internal_bytealg_IndexRabinKarp_string.code none (retK G_internal_bytealg_IndexRabinKarp_string fi_internal_bytealg_IndexRabinKarp_string) (enter fi_internal_bytealg_IndexRabinKarp_string [.one (Cell.str s1), .one (Cell.str s2)] []) = internal_bytealg_IndexRabinKarp_string (k + 1) m s1 s2 := by
  simp only [internal_bytealg_IndexRabinKarp_string, ← internal_bytealg_IndexRabinKarp_string_l0_eq k m]
  kernel_rfl
theorem internal_bytealg_IndexRabinKarp_string_eq (k : Nat) (s1 : ByteArray) (s2 : ByteArray) : evF G_internal_bytealg_IndexRabinKarp_string (k + 2) fid_internal_bytealg_IndexRabinKarp_string [.one (Cell.str s1), .one (Cell.str s2)] [] = internal_bytealg_IndexRabinKarp_string (k + 1) (k + 1) s1 s2 :=
  Eq.trans (by kernel_rfl) (internal_bytealg_IndexRabinKarp_string_code k (k + 1) s1 s2)
theorem run_internal_bytealg_IndexRabinKarp_string_of {s1 : ByteArray} {s2 : ByteArray} {r : Res} (k : Nat) (h : internal_bytealg_IndexRabinKarp_string (k + 1) (k + 1) s1 s2 = some r) : run_internal_bytealg_IndexRabinKarp_string [.one (Cell.str s1), .one (Cell.str s2)] [] = some r := lim_of ((internal_bytealg_IndexRabinKarp_string_eq k s1 s2).trans h)
noncomputable def pl_internal_stringslite_Index : List (Nat × Run) := [(fid_internal_stringslite_IndexByte, run_internal_stringslite_IndexByte), (fid_internal_bytealg_Cutover, run_internal_bytealg_Cutover), (fid_internal_bytealg_IndexRabinKarp_string, run_internal_bytealg_IndexRabinKarp_string)]
noncomputable def G_internal_stringslite_Index : Ctx := ctx tyTab fiTab pl_internal_stringslite_Index
noncomputable def run_internal_stringslite_Index : Run := lim G_internal_stringslite_Index fid_internal_stringslite_Index
theorem ok_internal_stringslite_Index : FnOk Tryd.prog OkT fid_internal_stringslite_Index run_internal_stringslite_Index := lim_ok (l := pl_internal_stringslite_Index) Tryd_mix tyTab_ok fiTab_ok okT (.cons ok_internal_stringslite_IndexByte (.cons ok_internal_bytealg_Cutover (.cons ok_internal_bytealg_IndexRabinKarp_string .nil))) fid_internal_stringslite_Index
noncomputable def internal_stringslite_Index (k m : Nat) (s1 : ByteArray) (s2 : ByteArray) : Option Res :=
  cond ((s2.size : Int) == 0)
  (some ([.one (Cell.int 0)], []))
  (cond (s2.toList == s1.toList)
  (some ([.one (Cell.int 0)], []))
  (cond ((s2.size : Int) == 1)
  ((bytS s2 0).bind fun i3 =>
  (callS run_internal_stringslite_IndexByte [.one (Cell.str s1), .one (.sc (.int .u8 i3))] []).bind fun r4 =>
  cond (shapeOk rk_internal_stringslite_IndexByte r4)
  ((cI .i64 (cellsAt r4 0) 0).bind fun i5 =>
  some ([.one (Cell.int i5)], []))
  none)
  (cond (decide ((s2.size : Int) ≥ (s1.size : Int)))
  (some ([.one (Cell.int (-1))], []))
  (none))))
theorem internal_stringslite_Index_code (k m : Nat) (s1 : ByteArray) (s2 : ByteArray) : evC G_internal_stringslite_Index fi_internal_stringslite_Index (evF G_internal_stringslite_Index (k + 1)) m fi_internal_stringslite_Index.code none (retK G_internal_stringslite_Index fi_internal_stringslite_Index) (enter fi_internal_stringslite_Index [.one (Cell.str s1), .one (Cell.str s2)] []) = internal_stringslite_Index (k + 1) m s1 s2 := by
  kernel_rfl
theorem internal_stringslite_Index_eq (k : Nat) (s1 : ByteArray) (s2 : ByteArray) : evF G_internal_stringslite_Index (k + 2) fid_internal_stringslite_Index [.one (Cell.str s1), .one (Cell.str s2)] [] = internal_stringslite_Index (k + 1) (k + 1) s1 s2 :=
  Eq.trans (by kernel_rfl) (internal_stringslite_Index_code k (k + 1) s1 s2)
theorem run_internal_stringslite_Index_of {s1 : ByteArray} {s2 : ByteArray} {r : Res} (k : Nat) (h : internal_stringslite_Index (k + 1) (k + 1) s1 s2 = some r) : run_internal_stringslite_Index [.one (Cell.str s1), .one (Cell.str s2)] [] = some r := lim_of ((internal_stringslite_Index_eq k s1 s2).trans h)
noncomputable def pl_strings_Index : List (Nat × Run) := [(fid_internal_stringslite_Index, run_internal_stringslite_Index)]
noncomputable def G_strings_Index : Ctx := ctx tyTab fiTab pl_strings_Index
noncomputable def run_strings_Index : Run := lim G_strings_Index fid_strings_Index
theorem ok_strings_Index : FnOk Tryd.prog OkT fid_strings_Index run_strings_Index := lim_ok (l := pl_strings_Index) Tryd_mix tyTab_ok fiTab_ok okT (.cons ok_internal_stringslite_Index .nil) fid_strings_Index
noncomputable def strings_Index (k m : Nat) (s1 : ByteArray) (s2 : ByteArray) : Option Res :=
  (callS run_internal_stringslite_Index [.one (Cell.str s1), .one (Cell.str s2)] []).bind fun r3 =>
  cond (shapeOk rk_internal_stringslite_Index r3)
  ((cI .i64 (cellsAt r3 0) 0).bind fun i4 =>
  some ([.one (Cell.int i4)], []))
  none
theorem strings_Index_code (k m : Nat) (s1 : ByteArray) (s2 : ByteArray) : evC G_strings_Index fi_strings_Index (evF G_strings_Index (k + 1)) m fi_strings_Index.code none (retK G_strings_Index fi_strings_Index) (enter fi_strings_Index [.one (Cell.str s1), .one (Cell.str s2)] []) = strings_Index (k + 1) m s1 s2 := by
  kernel_rfl
theorem strings_Index_eq (k : Nat) (s1 : ByteArray) (s2 : ByteArray) : evF G_strings_Index (k + 2) fid_strings_Index [.one (Cell.str s1), .one (Cell.str s2)] [] = strings_Index (k + 1) (k + 1) s1 s2 :=
  Eq.trans (by kernel_rfl) (strings_Index_code k (k + 1) s1 s2)
theorem run_strings_Index_of {s1 : ByteArray} {s2 : ByteArray} {r : Res} (k : Nat) (h : strings_Index (k + 1) (k + 1) s1 s2 = some r) : run_strings_Index [.one (Cell.str s1), .one (Cell.str s2)] [] = some r := lim_of ((strings_Index_eq k s1 s2).trans h)
end Go.Ev
