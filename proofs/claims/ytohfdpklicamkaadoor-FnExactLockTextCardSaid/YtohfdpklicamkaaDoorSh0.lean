/- What the evaluator says of the functions, each as a Lean function over cells. Printed by a program of this claim. Conditions: none. -/
import Derived.Test.YtohfdpklicamkaaDoorEvPr
import Derived.KernelRfl
namespace Go.Ev
open Go Go.Proofs
set_option maxRecDepth 100000
set_option linter.unusedVariables false
set_option linter.unusedSimpArgs false
noncomputable def pl_laws_szStringS : List (Nat × Run) := []
noncomputable def G_laws_szStringS : Ctx := ctx tyTab fiTab pl_laws_szStringS
noncomputable def run_laws_szStringS : Run := lim G_laws_szStringS fid_laws_szStringS
theorem ok_laws_szStringS : FnOk Tryd.prog OkT fid_laws_szStringS run_laws_szStringS := lim_ok (l := pl_laws_szStringS) Tryd_mix tyTab_ok fiTab_ok okT .nil fid_laws_szStringS
noncomputable def laws_szStringS_l0 (k m : Nat) : Nat → Cell → Int → Int → Option Res
  | 0, _, _, _ => none
  | n + 1, c4, i5, i6 =>
    (lenC c4).bind fun n7 =>
    cond (decide (i6 < (n7 : Int)))
    ((idxA 1 (c4) i6).bind fun c8 =>
    (deref [] (c8)).bind fun p9 =>
    (cS p9.1 p9.2).bind fun s10 =>
    cond (decide ((IntKind.i64.wrap (i5 - (s10.size : Int))) < 0))
    (some ([.one (Cell.int (-1))], []))
    (laws_szStringS_l0 k m n (c4) (IntKind.i64.wrap (i5 - (s10.size : Int))) (IntKind.i64.wrap (i6 + 1))))
    (some ([.one (Cell.int i5)], []))
noncomputable def laws_szStringS (k m : Nat) (c1 : Cell) (i2 : Int) : Option Res :=
  (lenC c1).bind fun n3 =>
  cond (decide ((IntKind.i64.wrap (i2 - (n3 : Int))) < 0))
  (some ([.one (Cell.int (-1))], []))
  (laws_szStringS_l0 k m m (c1) (IntKind.i64.wrap (i2 - (n3 : Int))) 0)
noncomputable abbrev laws_szStringS_l0_B (k m : Nat) : (Ex → Fr → Option Res) → Fr → Option Res := evC G_laws_szStringS fi_laws_szStringS (evF G_laws_szStringS (k + 1)) m (sub [1, 1, 1, 0, 1, 2, 3] fi_laws_szStringS.code) none
noncomputable abbrev laws_szStringS_l0_K (k m : Nat) : Ex → Fr → Option Res := blockK 0 (seqK (evC G_laws_szStringS fi_laws_szStringS (evF G_laws_szStringS (k + 1)) m (sub [1, 1, 1, 1] fi_laws_szStringS.code) none) (retK G_laws_szStringS fi_laws_szStringS))
theorem laws_szStringS_l0_eq (k m : Nat) : ∀ (n : Nat) (c4 : Cell) (i5 : Int) (i6 : Int), loopK (some [0, 1, 5]) (laws_szStringS_l0_B k m) (laws_szStringS_l0_K k m) n ⟨fT 28 0 [(0, .av (.one (c4))), (1, .av (.one (Cell.int i5))), (5, .av (.one (Cell.int i6)))], fX 28 0 [], []⟩ = laws_szStringS_l0 (k + 1) m n c4 i5 i6 := by
  intro n
  induction n with
  | zero => intros; rfl
  | succ n ih =>
    intros
    simp only [laws_szStringS_l0, ← ih]
    kernel_rfl
theorem laws_szStringS_code (k m : Nat) (c1 : Cell) (i2 : Int) : evC G_laws_szStringS fi_laws_szStringS (evF G_laws_szStringS (k + 1)) m fi_laws_szStringS.code none (retK G_laws_szStringS fi_laws_szStringS) (enter fi_laws_szStringS [.one (c1), .one (Cell.int i2)] []) = laws_szStringS (k + 1) m c1 i2 := by
  simp only [laws_szStringS, ← laws_szStringS_l0_eq k m]
  kernel_rfl
theorem laws_szStringS_eq (k : Nat) (c1 : Cell) (i2 : Int) : evF G_laws_szStringS (k + 2) fid_laws_szStringS [.one (c1), .one (Cell.int i2)] [] = laws_szStringS (k + 1) (k + 1) c1 i2 :=
  Eq.trans (by kernel_rfl) (laws_szStringS_code k (k + 1) c1 i2)
theorem run_laws_szStringS_of {c1 : Cell} {i2 : Int} {r : Res} (k : Nat) (h : laws_szStringS (k + 1) (k + 1) c1 i2 = some r) : run_laws_szStringS [.one (c1), .one (Cell.int i2)] [] = some r := lim_of ((laws_szStringS_eq k c1 i2).trans h)
noncomputable def pl_laws_szVer : List (Nat × Run) := [(fid_laws_szStringS, run_laws_szStringS)]
noncomputable def G_laws_szVer : Ctx := ctx tyTab fiTab pl_laws_szVer
noncomputable def run_laws_szVer : Run := lim G_laws_szVer fid_laws_szVer
theorem ok_laws_szVer : FnOk Tryd.prog OkT fid_laws_szVer run_laws_szVer := lim_ok (l := pl_laws_szVer) Tryd_mix tyTab_ok fiTab_ok okT (.cons ok_laws_szStringS .nil) fid_laws_szVer
noncomputable def laws_szVer (k m : Nat) (i1 : Int) (i2 : Int) (i3 : Int) (c4 : Cell) (i5 : Int) : Option Res :=
  (callS run_laws_szStringS [.one (c4), .one (Cell.int i5)] []).bind fun r6 =>
  cond (shapeOk rk_laws_szStringS r6)
  ((cI .i64 (cellsAt r6 0) 0).bind fun i7 =>
  cond (decide (i7 < 0))
  (some ([.one (Cell.int (-1))], []))
  (some ([.one (Cell.int i7)], [])))
  none
theorem laws_szVer_code (k m : Nat) (i1 : Int) (i2 : Int) (i3 : Int) (c4 : Cell) (i5 : Int) : evC G_laws_szVer fi_laws_szVer (evF G_laws_szVer (k + 1)) m fi_laws_szVer.code none (retK G_laws_szVer fi_laws_szVer) (enter fi_laws_szVer [.agg [Cell.int i1, Cell.int i2, Cell.int i3, c4], .one (Cell.int i5)] []) = laws_szVer (k + 1) m i1 i2 i3 c4 i5 := by
  kernel_rfl
theorem laws_szVer_eq (k : Nat) (i1 : Int) (i2 : Int) (i3 : Int) (c4 : Cell) (i5 : Int) : evF G_laws_szVer (k + 2) fid_laws_szVer [.agg [Cell.int i1, Cell.int i2, Cell.int i3, c4], .one (Cell.int i5)] [] = laws_szVer (k + 1) (k + 1) i1 i2 i3 c4 i5 :=
  Eq.trans (by kernel_rfl) (laws_szVer_code k (k + 1) i1 i2 i3 c4 i5)
theorem run_laws_szVer_of {i1 : Int} {i2 : Int} {i3 : Int} {c4 : Cell} {i5 : Int} {r : Res} (k : Nat) (h : laws_szVer (k + 1) (k + 1) i1 i2 i3 c4 i5 = some r) : run_laws_szVer [.agg [Cell.int i1, Cell.int i2, Cell.int i3, c4], .one (Cell.int i5)] [] = some r := lim_of ((laws_szVer_eq k i1 i2 i3 c4 i5).trans h)
noncomputable def pl_laws_szPick : List (Nat × Run) := [(fid_laws_szVer, run_laws_szVer)]
noncomputable def G_laws_szPick : Ctx := ctx tyTab fiTab pl_laws_szPick
noncomputable def run_laws_szPick : Run := lim G_laws_szPick fid_laws_szPick
theorem ok_laws_szPick : FnOk Tryd.prog OkT fid_laws_szPick run_laws_szPick := lim_ok (l := pl_laws_szPick) Tryd_mix tyTab_ok fiTab_ok okT (.cons ok_laws_szVer .nil) fid_laws_szPick
noncomputable def laws_szPick (k m : Nat) (s1 : ByteArray) (i2 : Int) (i3 : Int) (i4 : Int) (c5 : Cell) (i6 : Int) : Option Res :=
  cond (decide ((IntKind.i64.wrap (i6 - (s1.size : Int))) < 0))
  (some ([.one (Cell.int (-1))], []))
  ((callS run_laws_szVer [.agg [Cell.int i2, Cell.int i3, Cell.int i4, c5], .one (Cell.int (IntKind.i64.wrap (i6 - (s1.size : Int))))] []).bind fun r7 =>
  cond (shapeOk rk_laws_szVer r7)
  ((cI .i64 (cellsAt r7 0) 0).bind fun i8 =>
  cond (decide (i8 < 0))
  (some ([.one (Cell.int (-1))], []))
  (some ([.one (Cell.int i8)], [])))
  none)
theorem laws_szPick_code (k m : Nat) (s1 : ByteArray) (i2 : Int) (i3 : Int) (i4 : Int) (c5 : Cell) (i6 : Int) : evC G_laws_szPick fi_laws_szPick (evF G_laws_szPick (k + 1)) m fi_laws_szPick.code none (retK G_laws_szPick fi_laws_szPick) (enter fi_laws_szPick [.agg [Cell.str s1, Cell.int i2, Cell.int i3, Cell.int i4, c5], .one (Cell.int i6)] []) = laws_szPick (k + 1) m s1 i2 i3 i4 c5 i6 := by
  kernel_rfl
theorem laws_szPick_eq (k : Nat) (s1 : ByteArray) (i2 : Int) (i3 : Int) (i4 : Int) (c5 : Cell) (i6 : Int) : evF G_laws_szPick (k + 2) fid_laws_szPick [.agg [Cell.str s1, Cell.int i2, Cell.int i3, Cell.int i4, c5], .one (Cell.int i6)] [] = laws_szPick (k + 1) (k + 1) s1 i2 i3 i4 c5 i6 :=
  Eq.trans (by kernel_rfl) (laws_szPick_code k (k + 1) s1 i2 i3 i4 c5 i6)
theorem run_laws_szPick_of {s1 : ByteArray} {i2 : Int} {i3 : Int} {i4 : Int} {c5 : Cell} {i6 : Int} {r : Res} (k : Nat) (h : laws_szPick (k + 1) (k + 1) s1 i2 i3 i4 c5 i6 = some r) : run_laws_szPick [.agg [Cell.str s1, Cell.int i2, Cell.int i3, Cell.int i4, c5], .one (Cell.int i6)] [] = some r := lim_of ((laws_szPick_eq k s1 i2 i3 i4 c5 i6).trans h)
noncomputable def pl_laws_szPickS : List (Nat × Run) := [(fid_laws_szPick, run_laws_szPick)]
noncomputable def G_laws_szPickS : Ctx := ctx tyTab fiTab pl_laws_szPickS
noncomputable def run_laws_szPickS : Run := lim G_laws_szPickS fid_laws_szPickS
theorem ok_laws_szPickS : FnOk Tryd.prog OkT fid_laws_szPickS run_laws_szPickS := lim_ok (l := pl_laws_szPickS) Tryd_mix tyTab_ok fiTab_ok okT (.cons ok_laws_szPick .nil) fid_laws_szPickS
noncomputable def laws_szPickS_l0 (k m : Nat) : Nat → Cell → Int → Int → Option Res
  | 0, _, _, _ => none
  | n + 1, c4, i5, i6 =>
    (lenC c4).bind fun n7 =>
    cond (decide (i6 < (n7 : Int)))
    ((idxA 5 (c4) i6).bind fun c8 =>
    (deref [] (c8)).bind fun p9 =>
    (cS p9.1 p9.2).bind fun s10 =>
    (cI .i64 p9.1 (p9.2 + 1)).bind fun i11 =>
    (cI .i64 p9.1 ((p9.2 + 1) + 1)).bind fun i12 =>
    (cI .i64 p9.1 (((p9.2 + 1) + 1) + 1)).bind fun i13 =>
    (cC p9.1 ((((p9.2 + 1) + 1) + 1) + 1)).bind fun c14 =>
    (callS run_laws_szPick [.agg [Cell.str s10, Cell.int i11, Cell.int i12, Cell.int i13, c14], .one (Cell.int i5)] []).bind fun r15 =>
    cond (shapeOk rk_laws_szPick r15)
    ((cI .i64 (cellsAt r15 0) 0).bind fun i16 =>
    cond (decide (i16 < 0))
    (some ([.one (Cell.int (-1))], []))
    (laws_szPickS_l0 k m n (c4) i16 (IntKind.i64.wrap (i6 + 1))))
    none)
    (some ([.one (Cell.int i5)], []))
noncomputable def laws_szPickS (k m : Nat) (c1 : Cell) (i2 : Int) : Option Res :=
  (lenC c1).bind fun n3 =>
  cond (decide ((IntKind.i64.wrap (i2 - (n3 : Int))) < 0))
  (some ([.one (Cell.int (-1))], []))
  (laws_szPickS_l0 k m m (c1) (IntKind.i64.wrap (i2 - (n3 : Int))) 0)
noncomputable abbrev laws_szPickS_l0_B (k m : Nat) : (Ex → Fr → Option Res) → Fr → Option Res := evC G_laws_szPickS fi_laws_szPickS (evF G_laws_szPickS (k + 1)) m (sub [1, 1, 1, 0, 1, 2, 3] fi_laws_szPickS.code) none
noncomputable abbrev laws_szPickS_l0_K (k m : Nat) : Ex → Fr → Option Res := blockK 0 (seqK (evC G_laws_szPickS fi_laws_szPickS (evF G_laws_szPickS (k + 1)) m (sub [1, 1, 1, 1] fi_laws_szPickS.code) none) (retK G_laws_szPickS fi_laws_szPickS))
theorem laws_szPickS_l0_eq (k m : Nat) : ∀ (n : Nat) (c4 : Cell) (i5 : Int) (i6 : Int), loopK (some [0, 1, 5]) (laws_szPickS_l0_B k m) (laws_szPickS_l0_K k m) n ⟨fT 27 0 [(0, .av (.one (c4))), (1, .av (.one (Cell.int i5))), (5, .av (.one (Cell.int i6)))], fX 27 0 [], []⟩ = laws_szPickS_l0 (k + 1) m n c4 i5 i6 := by
  intro n
  induction n with
  | zero => intros; rfl
  | succ n ih =>
    intros
    simp only [laws_szPickS_l0, ← ih]
    kernel_rfl
theorem laws_szPickS_code (k m : Nat) (c1 : Cell) (i2 : Int) : evC G_laws_szPickS fi_laws_szPickS (evF G_laws_szPickS (k + 1)) m fi_laws_szPickS.code none (retK G_laws_szPickS fi_laws_szPickS) (enter fi_laws_szPickS [.one (c1), .one (Cell.int i2)] []) = laws_szPickS (k + 1) m c1 i2 := by
  simp only [laws_szPickS, ← laws_szPickS_l0_eq k m]
  kernel_rfl
theorem laws_szPickS_eq (k : Nat) (c1 : Cell) (i2 : Int) : evF G_laws_szPickS (k + 2) fid_laws_szPickS [.one (c1), .one (Cell.int i2)] [] = laws_szPickS (k + 1) (k + 1) c1 i2 :=
  Eq.trans (by kernel_rfl) (laws_szPickS_code k (k + 1) c1 i2)
theorem run_laws_szPickS_of {c1 : Cell} {i2 : Int} {r : Res} (k : Nat) (h : laws_szPickS (k + 1) (k + 1) c1 i2 = some r) : run_laws_szPickS [.one (c1), .one (Cell.int i2)] [] = some r := lim_of ((laws_szPickS_eq k c1 i2).trans h)
noncomputable def pl_spec_l1In : List (Nat × Run) := []
noncomputable def G_spec_l1In : Ctx := ctx tyTab fiTab pl_spec_l1In
noncomputable def run_spec_l1In : Run := lim G_spec_l1In fid_spec_l1In
theorem ok_spec_l1In : FnOk Tryd.prog OkT fid_spec_l1In run_spec_l1In := lim_ok (l := pl_spec_l1In) Tryd_mix tyTab_ok fiTab_ok okT .nil fid_spec_l1In
noncomputable def spec_l1In (k m : Nat) (i1 : Int) (i2 : Int) (i3 : Int) : Option Res :=
  cond (decide (i1 ≥ i2))
  (some ([.one (Cell.bool (decide (i1 ≤ i3)))], []))
  (some ([.one (Cell.bool false)], []))
theorem spec_l1In_code (k m : Nat) (i1 : Int) (i2 : Int) (i3 : Int) : evC G_spec_l1In fi_spec_l1In (evF G_spec_l1In (k + 1)) m fi_spec_l1In.code none (retK G_spec_l1In fi_spec_l1In) (enter fi_spec_l1In [.one (Cell.int i1), .one (Cell.int i2), .one (Cell.int i3)] []) = spec_l1In (k + 1) m i1 i2 i3 := by
  kernel_rfl
theorem spec_l1In_eq (k : Nat) (i1 : Int) (i2 : Int) (i3 : Int) : evF G_spec_l1In (k + 2) fid_spec_l1In [.one (Cell.int i1), .one (Cell.int i2), .one (Cell.int i3)] [] = spec_l1In (k + 1) (k + 1) i1 i2 i3 :=
  Eq.trans (by kernel_rfl) (spec_l1In_code k (k + 1) i1 i2 i3)
theorem run_spec_l1In_of {i1 : Int} {i2 : Int} {i3 : Int} {r : Res} (k : Nat) (h : spec_l1In (k + 1) (k + 1) i1 i2 i3 = some r) : run_spec_l1In [.one (Cell.int i1), .one (Cell.int i2), .one (Cell.int i3)] [] = some r := lim_of ((spec_l1In_eq k i1 i2 i3).trans h)
noncomputable def pl_spec_l1Digit : List (Nat × Run) := [(fid_spec_l1In, run_spec_l1In)]
noncomputable def G_spec_l1Digit : Ctx := ctx tyTab fiTab pl_spec_l1Digit
noncomputable def run_spec_l1Digit : Run := lim G_spec_l1Digit fid_spec_l1Digit
theorem ok_spec_l1Digit : FnOk Tryd.prog OkT fid_spec_l1Digit run_spec_l1Digit := lim_ok (l := pl_spec_l1Digit) Tryd_mix tyTab_ok fiTab_ok okT (.cons ok_spec_l1In .nil) fid_spec_l1Digit
noncomputable def spec_l1Digit (k m : Nat) (i1 : Int) : Option Res :=
  (callS run_spec_l1In [.one (Cell.int (IntKind.i64.wrap i1)), .one (Cell.int 48), .one (Cell.int 57)] []).bind fun r2 =>
  cond (shapeOk rk_spec_l1In r2)
  ((cB (cellsAt r2 0) 0).bind fun b3 =>
  some ([.one (Cell.bool b3)], []))
  none
theorem spec_l1Digit_code (k m : Nat) (i1 : Int) : evC G_spec_l1Digit fi_spec_l1Digit (evF G_spec_l1Digit (k + 1)) m fi_spec_l1Digit.code none (retK G_spec_l1Digit fi_spec_l1Digit) (enter fi_spec_l1Digit [.one (.sc (.int .u8 i1))] []) = spec_l1Digit (k + 1) m i1 := by
  kernel_rfl
theorem spec_l1Digit_eq (k : Nat) (i1 : Int) : evF G_spec_l1Digit (k + 2) fid_spec_l1Digit [.one (.sc (.int .u8 i1))] [] = spec_l1Digit (k + 1) (k + 1) i1 :=
  Eq.trans (by kernel_rfl) (spec_l1Digit_code k (k + 1) i1)
theorem run_spec_l1Digit_of {i1 : Int} {r : Res} (k : Nat) (h : spec_l1Digit (k + 1) (k + 1) i1 = some r) : run_spec_l1Digit [.one (.sc (.int .u8 i1))] [] = some r := lim_of ((spec_l1Digit_eq k i1).trans h)
noncomputable def pl_spec_l1Small : List (Nat × Run) := [(fid_spec_l1In, run_spec_l1In)]
noncomputable def G_spec_l1Small : Ctx := ctx tyTab fiTab pl_spec_l1Small
noncomputable def run_spec_l1Small : Run := lim G_spec_l1Small fid_spec_l1Small
theorem ok_spec_l1Small : FnOk Tryd.prog OkT fid_spec_l1Small run_spec_l1Small := lim_ok (l := pl_spec_l1Small) Tryd_mix tyTab_ok fiTab_ok okT (.cons ok_spec_l1In .nil) fid_spec_l1Small
noncomputable def spec_l1Small (k m : Nat) (i1 : Int) : Option Res :=
  (callS run_spec_l1In [.one (Cell.int (IntKind.i64.wrap i1)), .one (Cell.int 97), .one (Cell.int 122)] []).bind fun r2 =>
  cond (shapeOk rk_spec_l1In r2)
  ((cB (cellsAt r2 0) 0).bind fun b3 =>
  some ([.one (Cell.bool b3)], []))
  none
theorem spec_l1Small_code (k m : Nat) (i1 : Int) : evC G_spec_l1Small fi_spec_l1Small (evF G_spec_l1Small (k + 1)) m fi_spec_l1Small.code none (retK G_spec_l1Small fi_spec_l1Small) (enter fi_spec_l1Small [.one (.sc (.int .u8 i1))] []) = spec_l1Small (k + 1) m i1 := by
  kernel_rfl
theorem spec_l1Small_eq (k : Nat) (i1 : Int) : evF G_spec_l1Small (k + 2) fid_spec_l1Small [.one (.sc (.int .u8 i1))] [] = spec_l1Small (k + 1) (k + 1) i1 :=
  Eq.trans (by kernel_rfl) (spec_l1Small_code k (k + 1) i1)
theorem run_spec_l1Small_of {i1 : Int} {r : Res} (k : Nat) (h : spec_l1Small (k + 1) (k + 1) i1 = some r) : run_spec_l1Small [.one (.sc (.int .u8 i1))] [] = some r := lim_of ((spec_l1Small_eq k i1).trans h)
noncomputable def pl_spec_NameOk : List (Nat × Run) := [(fid_spec_l1Digit, run_spec_l1Digit), (fid_spec_l1In, run_spec_l1In), (fid_spec_l1Small, run_spec_l1Small)]
noncomputable def G_spec_NameOk : Ctx := ctx tyTab fiTab pl_spec_NameOk
noncomputable def run_spec_NameOk : Run := lim G_spec_NameOk fid_spec_NameOk
theorem ok_spec_NameOk : FnOk Tryd.prog OkT fid_spec_NameOk run_spec_NameOk := lim_ok (l := pl_spec_NameOk) Tryd_mix tyTab_ok fiTab_ok okT (.cons ok_spec_l1Digit (.cons ok_spec_l1In (.cons ok_spec_l1Small .nil))) fid_spec_NameOk
noncomputable def spec_NameOk_l0 (k m : Nat) : Nat → ByteArray → Int → Option Res
  | 0, _, _ => none
  | n + 1, s2, i3 =>
    cond (decide (i3 < (s2.size : Int)))
    ((bytS s2 i3).bind fun i4 =>
    (callS run_spec_l1Small [.one (.sc (.int .u8 i4))] []).bind fun r5 =>
    cond (shapeOk rk_spec_l1Small r5)
    ((cB (cellsAt r5 0) 0).bind fun b6 =>
    cond (!b6)
    (cond (i3 == 0)
    (some ([.one (Cell.bool false)], []))
    ((bytS s2 i3).bind fun i7 =>
    (callS run_spec_l1Digit [.one (.sc (.int .u8 i7))] []).bind fun r8 =>
    cond (shapeOk rk_spec_l1Digit r8)
    ((cB (cellsAt r8 0) 0).bind fun b9 =>
    cond (!b9)
    ((bytS s2 i3).bind fun i10 =>
    cond (i10 != 45)
    (some ([.one (Cell.bool false)], []))
    (spec_NameOk_l0 k m n s2 (IntKind.i64.wrap (i3 + 1))))
    (spec_NameOk_l0 k m n s2 (IntKind.i64.wrap (i3 + 1))))
    none))
    (spec_NameOk_l0 k m n s2 (IntKind.i64.wrap (i3 + 1))))
    none)
    ((callS run_spec_l1In [.one (Cell.int (s2.size : Int)), .one (Cell.int 1), .one (Cell.int 10)] []).bind fun r11 =>
    cond (shapeOk rk_spec_l1In r11)
    ((cB (cellsAt r11 0) 0).bind fun b12 =>
    some ([.one (Cell.bool b12)], []))
    none)
noncomputable def spec_NameOk (k m : Nat) (s1 : ByteArray) : Option Res :=
  spec_NameOk_l0 k m m s1 0
noncomputable abbrev spec_NameOk_l0_B (k m : Nat) : (Ex → Fr → Option Res) → Fr → Option Res := evC G_spec_NameOk fi_spec_NameOk (evF G_spec_NameOk (k + 1)) m (sub [1, 0, 1, 2, 3] fi_spec_NameOk.code) none
noncomputable abbrev spec_NameOk_l0_K (k m : Nat) : Ex → Fr → Option Res := blockK 0 (seqK (evC G_spec_NameOk fi_spec_NameOk (evF G_spec_NameOk (k + 1)) m (sub [1, 1] fi_spec_NameOk.code) none) (retK G_spec_NameOk fi_spec_NameOk))
theorem spec_NameOk_l0_eq (k m : Nat) : ∀ (n : Nat) (s2 : ByteArray) (i3 : Int), loopK (some [0, 3]) (spec_NameOk_l0_B k m) (spec_NameOk_l0_K k m) n ⟨fT 35 0 [(0, .av (.one (Cell.str s2))), (3, .av (.one (Cell.int i3)))], fX 35 0 [], []⟩ = spec_NameOk_l0 (k + 1) m n s2 i3 := by
  intro n
  induction n with
  | zero => intros; rfl
  | succ n ih =>
    intros
    simp only [spec_NameOk_l0, ← ih]
    kernel_rfl
theorem spec_NameOk_code (k m : Nat) (s1 : ByteArray) : evC G_spec_NameOk fi_spec_NameOk (evF G_spec_NameOk (k + 1)) m fi_spec_NameOk.code none (retK G_spec_NameOk fi_spec_NameOk) (enter fi_spec_NameOk [.one (Cell.str s1)] []) = spec_NameOk (k + 1) m s1 := by
  simp only [spec_NameOk, ← spec_NameOk_l0_eq k m]
  kernel_rfl
theorem spec_NameOk_eq (k : Nat) (s1 : ByteArray) : evF G_spec_NameOk (k + 2) fid_spec_NameOk [.one (Cell.str s1)] [] = spec_NameOk (k + 1) (k + 1) s1 :=
  Eq.trans (by kernel_rfl) (spec_NameOk_code k (k + 1) s1)
theorem run_spec_NameOk_of {s1 : ByteArray} {r : Res} (k : Nat) (h : spec_NameOk (k + 1) (k + 1) s1 = some r) : run_spec_NameOk [.one (Cell.str s1)] [] = some r := lim_of ((spec_NameOk_eq k s1).trans h)
noncomputable def pl_spec_l3Digits : List (Nat × Run) := [(fid_spec_l1Digit, run_spec_l1Digit)]
noncomputable def G_spec_l3Digits : Ctx := ctx tyTab fiTab pl_spec_l3Digits
noncomputable def run_spec_l3Digits : Run := lim G_spec_l3Digits fid_spec_l3Digits
theorem ok_spec_l3Digits : FnOk Tryd.prog OkT fid_spec_l3Digits run_spec_l3Digits := lim_ok (l := pl_spec_l3Digits) Tryd_mix tyTab_ok fiTab_ok okT (.cons ok_spec_l1Digit .nil) fid_spec_l3Digits
noncomputable def spec_l3Digits_l0 (k m : Nat) : Nat → ByteArray → Int → Option Res
  | 0, _, _ => none
  | n + 1, s2, i3 =>
    cond (decide (i3 < (s2.size : Int)))
    ((bytS s2 i3).bind fun i4 =>
    (callS run_spec_l1Digit [.one (.sc (.int .u8 i4))] []).bind fun r5 =>
    cond (shapeOk rk_spec_l1Digit r5)
    ((cB (cellsAt r5 0) 0).bind fun b6 =>
    cond (!b6)
    (some ([.one (Cell.bool false)], []))
    (spec_l3Digits_l0 k m n s2 (IntKind.i64.wrap (i3 + 1))))
    none)
    (some ([.one (Cell.bool true)], []))
noncomputable def spec_l3Digits (k m : Nat) (s1 : ByteArray) : Option Res :=
  spec_l3Digits_l0 k m m s1 0
noncomputable abbrev spec_l3Digits_l0_B (k m : Nat) : (Ex → Fr → Option Res) → Fr → Option Res := evC G_spec_l3Digits fi_spec_l3Digits (evF G_spec_l3Digits (k + 1)) m (sub [1, 0, 1, 2, 3] fi_spec_l3Digits.code) none
noncomputable abbrev spec_l3Digits_l0_K (k m : Nat) : Ex → Fr → Option Res := blockK 0 (seqK (evC G_spec_l3Digits fi_spec_l3Digits (evF G_spec_l3Digits (k + 1)) m (sub [1, 1] fi_spec_l3Digits.code) none) (retK G_spec_l3Digits fi_spec_l3Digits))
theorem spec_l3Digits_l0_eq (k m : Nat) : ∀ (n : Nat) (s2 : ByteArray) (i3 : Int), loopK (some [0, 3]) (spec_l3Digits_l0_B k m) (spec_l3Digits_l0_K k m) n ⟨fT 15 0 [(0, .av (.one (Cell.str s2))), (3, .av (.one (Cell.int i3)))], fX 15 0 [], []⟩ = spec_l3Digits_l0 (k + 1) m n s2 i3 := by
  intro n
  induction n with
  | zero => intros; rfl
  | succ n ih =>
    intros
    simp only [spec_l3Digits_l0, ← ih]
    kernel_rfl
theorem spec_l3Digits_code (k m : Nat) (s1 : ByteArray) : evC G_spec_l3Digits fi_spec_l3Digits (evF G_spec_l3Digits (k + 1)) m fi_spec_l3Digits.code none (retK G_spec_l3Digits fi_spec_l3Digits) (enter fi_spec_l3Digits [.one (Cell.str s1)] []) = spec_l3Digits (k + 1) m s1 := by
  simp only [spec_l3Digits, ← spec_l3Digits_l0_eq k m]
  kernel_rfl
theorem spec_l3Digits_eq (k : Nat) (s1 : ByteArray) : evF G_spec_l3Digits (k + 2) fid_spec_l3Digits [.one (Cell.str s1)] [] = spec_l3Digits (k + 1) (k + 1) s1 :=
  Eq.trans (by kernel_rfl) (spec_l3Digits_code k (k + 1) s1)
theorem run_spec_l3Digits_of {s1 : ByteArray} {r : Res} (k : Nat) (h : spec_l3Digits (k + 1) (k + 1) s1 = some r) : run_spec_l3Digits [.one (Cell.str s1)] [] = some r := lim_of ((spec_l3Digits_eq k s1).trans h)
noncomputable def pl_spec_l3Part : List (Nat × Run) := [(fid_spec_l1Digit, run_spec_l1Digit), (fid_spec_l1In, run_spec_l1In), (fid_spec_l1Small, run_spec_l1Small), (fid_spec_l3Digits, run_spec_l3Digits)]
noncomputable def G_spec_l3Part : Ctx := ctx tyTab fiTab pl_spec_l3Part
noncomputable def run_spec_l3Part : Run := lim G_spec_l3Part fid_spec_l3Part
theorem ok_spec_l3Part : FnOk Tryd.prog OkT fid_spec_l3Part run_spec_l3Part := lim_ok (l := pl_spec_l3Part) Tryd_mix tyTab_ok fiTab_ok okT (.cons ok_spec_l1Digit (.cons ok_spec_l1In (.cons ok_spec_l1Small (.cons ok_spec_l3Digits .nil)))) fid_spec_l3Part
noncomputable def spec_l3Part_l0 (k m : Nat) : Nat → ByteArray → Int → Option Res
  | 0, _, _ => none
  | n + 1, s2, i3 =>
    cond (decide (i3 < (s2.size : Int)))
    ((bytS s2 i3).bind fun i4 =>
    (callS run_spec_l1Digit [.one (.sc (.int .u8 i4))] []).bind fun r5 =>
    cond (shapeOk rk_spec_l1Digit r5)
    ((cB (cellsAt r5 0) 0).bind fun b6 =>
    cond (!b6)
    ((bytS s2 i3).bind fun i7 =>
    (callS run_spec_l1Small [.one (.sc (.int .u8 i7))] []).bind fun r8 =>
    cond (shapeOk rk_spec_l1Small r8)
    ((cB (cellsAt r8 0) 0).bind fun b9 =>
    cond (!b9)
    ((bytS s2 i3).bind fun i10 =>
    (callS run_spec_l1In [.one (Cell.int (IntKind.i64.wrap i10)), .one (Cell.int 65), .one (Cell.int 90)] []).bind fun r11 =>
    cond (shapeOk rk_spec_l1In r11)
    ((cB (cellsAt r11 0) 0).bind fun b12 =>
    cond (!b12)
    ((bytS s2 i3).bind fun i13 =>
    cond (i13 != 45)
    (some ([.one (Cell.bool false)], []))
    (spec_l3Part_l0 k m n s2 (IntKind.i64.wrap (i3 + 1))))
    (spec_l3Part_l0 k m n s2 (IntKind.i64.wrap (i3 + 1))))
    none)
    (spec_l3Part_l0 k m n s2 (IntKind.i64.wrap (i3 + 1))))
    none)
    (spec_l3Part_l0 k m n s2 (IntKind.i64.wrap (i3 + 1))))
    none)
    ((callS run_spec_l1In [.one (Cell.int (s2.size : Int)), .one (Cell.int 1), .one (Cell.int 8)] []).bind fun r14 =>
    cond (shapeOk rk_spec_l1In r14)
    ((cB (cellsAt r14 0) 0).bind fun b15 =>
    cond b15
    ((callS run_spec_l3Digits [.one (Cell.str s2)] []).bind fun r16 =>
    cond (shapeOk rk_spec_l3Digits r16)
    ((cB (cellsAt r16 0) 0).bind fun b17 =>
    cond (!b17)
    (some ([.one (Cell.bool true)], []))
    (cond ((s2.size : Int) == 1)
    (some ([.one (Cell.bool true)], []))
    ((bytS s2 0).bind fun i18 =>
    some ([.one (Cell.bool (i18 != 48))], []))))
    none)
    (some ([.one (Cell.bool false)], [])))
    none)
noncomputable def spec_l3Part (k m : Nat) (s1 : ByteArray) : Option Res :=
  spec_l3Part_l0 k m m s1 0
noncomputable abbrev spec_l3Part_l0_B (k m : Nat) : (Ex → Fr → Option Res) → Fr → Option Res := evC G_spec_l3Part fi_spec_l3Part (evF G_spec_l3Part (k + 1)) m (sub [1, 0, 1, 2, 3] fi_spec_l3Part.code) none
noncomputable abbrev spec_l3Part_l0_K (k m : Nat) : Ex → Fr → Option Res := blockK 0 (seqK (evC G_spec_l3Part fi_spec_l3Part (evF G_spec_l3Part (k + 1)) m (sub [1, 1] fi_spec_l3Part.code) none) (retK G_spec_l3Part fi_spec_l3Part))
theorem spec_l3Part_l0_eq (k m : Nat) : ∀ (n : Nat) (s2 : ByteArray) (i3 : Int), loopK (some [0, 3]) (spec_l3Part_l0_B k m) (spec_l3Part_l0_K k m) n ⟨fT 54 0 [(0, .av (.one (Cell.str s2))), (3, .av (.one (Cell.int i3)))], fX 54 0 [], []⟩ = spec_l3Part_l0 (k + 1) m n s2 i3 := by
  intro n
  induction n with
  | zero => intros; rfl
  | succ n ih =>
    intros
    simp only [spec_l3Part_l0, ← ih]
    kernel_rfl
theorem spec_l3Part_code (k m : Nat) (s1 : ByteArray) : evC G_spec_l3Part fi_spec_l3Part (evF G_spec_l3Part (k + 1)) m fi_spec_l3Part.code none (retK G_spec_l3Part fi_spec_l3Part) (enter fi_spec_l3Part [.one (Cell.str s1)] []) = spec_l3Part (k + 1) m s1 := by
  simp only [spec_l3Part, ← spec_l3Part_l0_eq k m]
  kernel_rfl
theorem spec_l3Part_eq (k : Nat) (s1 : ByteArray) : evF G_spec_l3Part (k + 2) fid_spec_l3Part [.one (Cell.str s1)] [] = spec_l3Part (k + 1) (k + 1) s1 :=
  Eq.trans (by kernel_rfl) (spec_l3Part_code k (k + 1) s1)
theorem run_spec_l3Part_of {s1 : ByteArray} {r : Res} (k : Nat) (h : spec_l3Part (k + 1) (k + 1) s1 = some r) : run_spec_l3Part [.one (Cell.str s1)] [] = some r := lim_of ((spec_l3Part_eq k s1).trans h)
noncomputable def pl_spec_VerOk : List (Nat × Run) := [(fid_spec_l1In, run_spec_l1In), (fid_spec_l3Part, run_spec_l3Part)]
noncomputable def G_spec_VerOk : Ctx := ctx tyTab fiTab pl_spec_VerOk
noncomputable def run_spec_VerOk : Run := lim G_spec_VerOk fid_spec_VerOk
theorem ok_spec_VerOk : FnOk Tryd.prog OkT fid_spec_VerOk run_spec_VerOk := lim_ok (l := pl_spec_VerOk) Tryd_mix tyTab_ok fiTab_ok okT (.cons ok_spec_l1In (.cons ok_spec_l3Part .nil)) fid_spec_VerOk
noncomputable def spec_VerOk_l0 (k m : Nat) : Nat → Int → Int → Int → Int → Cell → Option Res
  | 0, _, _, _, _, _ => none
  | n + 1, i5, i6, i7, i8, c9 =>
    (lenC c9).bind fun n10 =>
    cond (decide (i5 < (n10 : Int)))
    ((idxA 1 (c9) i5).bind fun c11 =>
    (deref [] (c11)).bind fun p12 =>
    (cS p12.1 p12.2).bind fun s13 =>
    (callS run_spec_l3Part [.one (Cell.str s13)] []).bind fun r14 =>
    cond (shapeOk rk_spec_l3Part r14)
    ((cB (cellsAt r14 0) 0).bind fun b15 =>
    cond (!b15)
    (some ([.one (Cell.bool false)], []))
    (spec_VerOk_l0 k m n (IntKind.i64.wrap (i5 + 1)) i6 i7 i8 (c9)))
    none)
    ((callS run_spec_l1In [.one (Cell.int i6), .one (Cell.int 0), .one (Cell.int 9999)] []).bind fun r16 =>
    cond (shapeOk rk_spec_l1In r16)
    ((cB (cellsAt r16 0) 0).bind fun b17 =>
    cond b17
    ((callS run_spec_l1In [.one (Cell.int i7), .one (Cell.int 0), .one (Cell.int 9999)] []).bind fun r18 =>
    cond (shapeOk rk_spec_l1In r18)
    ((cB (cellsAt r18 0) 0).bind fun b19 =>
    cond b19
    ((callS run_spec_l1In [.one (Cell.int i8), .one (Cell.int 0), .one (Cell.int 9999)] []).bind fun r20 =>
    cond (shapeOk rk_spec_l1In r20)
    ((cB (cellsAt r20 0) 0).bind fun b21 =>
    cond b21
    ((lenC c9).bind fun n22 =>
    some ([.one (Cell.bool (decide ((n22 : Int) ≤ 3)))], []))
    (some ([.one (Cell.bool false)], [])))
    none)
    (some ([.one (Cell.bool false)], [])))
    none)
    (some ([.one (Cell.bool false)], [])))
    none)
noncomputable def spec_VerOk (k m : Nat) (i1 : Int) (i2 : Int) (i3 : Int) (c4 : Cell) : Option Res :=
  spec_VerOk_l0 k m m 0 i1 i2 i3 (c4)
noncomputable abbrev spec_VerOk_l0_B (k m : Nat) : (Ex → Fr → Option Res) → Fr → Option Res := evC G_spec_VerOk fi_spec_VerOk (evF G_spec_VerOk (k + 1)) m (sub [1, 0, 1, 2, 3] fi_spec_VerOk.code) none
noncomputable abbrev spec_VerOk_l0_K (k m : Nat) : Ex → Fr → Option Res := blockK 0 (seqK (evC G_spec_VerOk fi_spec_VerOk (evF G_spec_VerOk (k + 1)) m (sub [1, 1] fi_spec_VerOk.code) none) (retK G_spec_VerOk fi_spec_VerOk))
theorem spec_VerOk_l0_eq (k m : Nat) : ∀ (n : Nat) (i5 : Int) (i6 : Int) (i7 : Int) (i8 : Int) (c9 : Cell), loopK (some [1, 3]) (spec_VerOk_l0_B k m) (spec_VerOk_l0_K k m) n ⟨fT 37 0 [(1, .loc 1 0), (3, .av (.one (Cell.int i5)))], fX 37 0 [(1, [Cell.int i6, Cell.int i7, Cell.int i8, c9])], []⟩ = spec_VerOk_l0 (k + 1) m n i5 i6 i7 i8 c9 := by
  intro n
  induction n with
  | zero => intros; rfl
  | succ n ih =>
    intros
    simp only [spec_VerOk_l0, ← ih]
    kernel_rfl
theorem spec_VerOk_code (k m : Nat) (i1 : Int) (i2 : Int) (i3 : Int) (c4 : Cell) : evC G_spec_VerOk fi_spec_VerOk (evF G_spec_VerOk (k + 1)) m fi_spec_VerOk.code none (retK G_spec_VerOk fi_spec_VerOk) (enter fi_spec_VerOk [.agg [Cell.int i1, Cell.int i2, Cell.int i3, c4]] []) = spec_VerOk (k + 1) m i1 i2 i3 c4 := by
  simp only [spec_VerOk, ← spec_VerOk_l0_eq k m]
  kernel_rfl
theorem spec_VerOk_eq (k : Nat) (i1 : Int) (i2 : Int) (i3 : Int) (c4 : Cell) : evF G_spec_VerOk (k + 2) fid_spec_VerOk [.agg [Cell.int i1, Cell.int i2, Cell.int i3, c4]] [] = spec_VerOk (k + 1) (k + 1) i1 i2 i3 c4 :=
  Eq.trans (by kernel_rfl) (spec_VerOk_code k (k + 1) i1 i2 i3 c4)
theorem run_spec_VerOk_of {i1 : Int} {i2 : Int} {i3 : Int} {c4 : Cell} {r : Res} (k : Nat) (h : spec_VerOk (k + 1) (k + 1) i1 i2 i3 c4 = some r) : run_spec_VerOk [.agg [Cell.int i1, Cell.int i2, Cell.int i3, c4]] [] = some r := lim_of ((spec_VerOk_eq k i1 i2 i3 c4).trans h)
noncomputable def pl_spec_l10Ok : List (Nat × Run) := [(fid_spec_NameOk, run_spec_NameOk), (fid_spec_VerOk, run_spec_VerOk)]
noncomputable def G_spec_l10Ok : Ctx := ctx tyTab fiTab pl_spec_l10Ok
noncomputable def run_spec_l10Ok : Run := lim G_spec_l10Ok fid_spec_l10Ok
theorem ok_spec_l10Ok : FnOk Tryd.prog OkT fid_spec_l10Ok run_spec_l10Ok := lim_ok (l := pl_spec_l10Ok) Tryd_mix tyTab_ok fiTab_ok okT (.cons ok_spec_NameOk (.cons ok_spec_VerOk .nil)) fid_spec_l10Ok
noncomputable def spec_l10Ok_l0 (k m : Nat) : Nat → Cell → Int → Option Res
  | 0, _, _ => none
  | n + 1, c2, i3 =>
    (lenC c2).bind fun n4 =>
    cond (decide (i3 < (n4 : Int)))
    ((idxA 5 (c2) i3).bind fun c5 =>
    (fldA c5 0).bind fun c6 =>
    (deref [] (c6)).bind fun p7 =>
    (cS p7.1 p7.2).bind fun s8 =>
    (callS run_spec_NameOk [.one (Cell.str s8)] []).bind fun r9 =>
    cond (shapeOk rk_spec_NameOk r9)
    ((cB (cellsAt r9 0) 0).bind fun b10 =>
    cond (!b10)
    (some ([.one (Cell.bool false)], []))
    ((idxA 5 (c2) i3).bind fun c11 =>
    (fldA c11 1).bind fun c12 =>
    (deref [] (c12)).bind fun p13 =>
    (cI .i64 p13.1 p13.2).bind fun i14 =>
    (cI .i64 p13.1 (p13.2 + 1)).bind fun i15 =>
    (cI .i64 p13.1 ((p13.2 + 1) + 1)).bind fun i16 =>
    (cC p13.1 (((p13.2 + 1) + 1) + 1)).bind fun c17 =>
    (callS run_spec_VerOk [.agg [Cell.int i14, Cell.int i15, Cell.int i16, c17]] []).bind fun r18 =>
    cond (shapeOk rk_spec_VerOk r18)
    ((cB (cellsAt r18 0) 0).bind fun b19 =>
    cond (!b19)
    (some ([.one (Cell.bool false)], []))
    (cond (decide (i3 > 0))
    ((idxA 5 (c2) (IntKind.i64.wrap (i3 - 1))).bind fun c20 =>
    (fldA c20 0).bind fun c21 =>
    (deref [] (c21)).bind fun p22 =>
    (cS p22.1 p22.2).bind fun s23 =>
    (idxA 5 (c2) i3).bind fun c24 =>
    (fldA c24 0).bind fun c25 =>
    (deref [] (c25)).bind fun p26 =>
    (cS p26.1 p26.2).bind fun s27 =>
    cond (!Op.bytesLess s23.toList s27.toList)
    (some ([.one (Cell.bool false)], []))
    (spec_l10Ok_l0 k m n (c2) (IntKind.i64.wrap (i3 + 1))))
    (spec_l10Ok_l0 k m n (c2) (IntKind.i64.wrap (i3 + 1)))))
    none))
    none)
    ((lenC c2).bind fun n28 =>
    some ([.one (Cell.bool (decide ((n28 : Int) ≤ 12)))], []))
noncomputable def spec_l10Ok (k m : Nat) (c1 : Cell) : Option Res :=
  spec_l10Ok_l0 k m m (c1) 0
noncomputable abbrev spec_l10Ok_l0_B (k m : Nat) : (Ex → Fr → Option Res) → Fr → Option Res := evC G_spec_l10Ok fi_spec_l10Ok (evF G_spec_l10Ok (k + 1)) m (sub [1, 0, 1, 2, 3] fi_spec_l10Ok.code) none
noncomputable abbrev spec_l10Ok_l0_K (k m : Nat) : Ex → Fr → Option Res := blockK 0 (seqK (evC G_spec_l10Ok fi_spec_l10Ok (evF G_spec_l10Ok (k + 1)) m (sub [1, 1] fi_spec_l10Ok.code) none) (retK G_spec_l10Ok fi_spec_l10Ok))
theorem spec_l10Ok_l0_eq (k m : Nat) : ∀ (n : Nat) (c2 : Cell) (i3 : Int), loopK (some [0, 3]) (spec_l10Ok_l0_B k m) (spec_l10Ok_l0_K k m) n ⟨fT 47 0 [(0, .av (.one (c2))), (3, .av (.one (Cell.int i3)))], fX 47 0 [], []⟩ = spec_l10Ok_l0 (k + 1) m n c2 i3 := by
  intro n
  induction n with
  | zero => intros; rfl
  | succ n ih =>
    intros
    simp only [spec_l10Ok_l0, ← ih]
    kernel_rfl
theorem spec_l10Ok_code (k m : Nat) (c1 : Cell) : evC G_spec_l10Ok fi_spec_l10Ok (evF G_spec_l10Ok (k + 1)) m fi_spec_l10Ok.code none (retK G_spec_l10Ok fi_spec_l10Ok) (enter fi_spec_l10Ok [.one (c1)] []) = spec_l10Ok (k + 1) m c1 := by
  simp only [spec_l10Ok, ← spec_l10Ok_l0_eq k m]
  kernel_rfl
theorem spec_l10Ok_eq (k : Nat) (c1 : Cell) : evF G_spec_l10Ok (k + 2) fid_spec_l10Ok [.one (c1)] [] = spec_l10Ok (k + 1) (k + 1) c1 :=
  Eq.trans (by kernel_rfl) (spec_l10Ok_code k (k + 1) c1)
theorem run_spec_l10Ok_of {c1 : Cell} {r : Res} (k : Nat) (h : spec_l10Ok (k + 1) (k + 1) c1 = some r) : run_spec_l10Ok [.one (c1)] [] = some r := lim_of ((spec_l10Ok_eq k c1).trans h)
noncomputable def pl_spec_NumText : List (Nat × Run) := []
noncomputable def G_spec_NumText : Ctx := ctx tyTab fiTab pl_spec_NumText
noncomputable def run_spec_NumText : Run := lim G_spec_NumText fid_spec_NumText
theorem ok_spec_NumText : FnOk Tryd.prog OkT fid_spec_NumText run_spec_NumText := lim_ok (l := pl_spec_NumText) Tryd_mix tyTab_ok fiTab_ok okT .nil fid_spec_NumText
noncomputable def spec_NumText_l1 (k m : Nat) : Nat → Int → ByteArray → Option Res
  | 0, _, _ => none
  | n + 1, i5, s6 =>
    cond (decide (i5 > 9))
    ((bytesOf [] (.lst true 1 [[.sc (.int .u8 (IntKind.u8.wrap (IntKind.i64.wrap (48 + ((IntKind.i64.wrap (i5.tdiv 10)).tmod 10)))))]])).bind fun s7 =>
    (catS s7 s6).bind fun s8 =>
    spec_NumText_l1 k m n (IntKind.i64.wrap (i5.tdiv 10)) s8)
    (some ([.one (Cell.str s6)], []))
noncomputable def spec_NumText_l0 (k m : Nat) : Nat → ByteArray → Option Res
  | 0, _ => none
  | n + 1, s3 =>
    some ([.one (Cell.str s3)], [])
noncomputable def spec_NumText (k m : Nat) (i1 : Int) : Option Res :=
  cond (decide (i1 < 0))
  ((bytesOf [] (.lst true 1 [[.sc (.int .u8 (IntKind.u8.wrap (IntKind.i64.wrap (48 + ((0 : Int).tmod 10)))))]])).bind fun s2 =>
  spec_NumText_l0 k m m s2)
  ((bytesOf [] (.lst true 1 [[.sc (.int .u8 (IntKind.u8.wrap (IntKind.i64.wrap (48 + (i1.tmod 10)))))]])).bind fun s4 =>
  spec_NumText_l1 k m m i1 s4)
noncomputable abbrev spec_NumText_l0_B (k m : Nat) : (Ex → Fr → Option Res) → Fr → Option Res := evC G_spec_NumText fi_spec_NumText (evF G_spec_NumText (k + 1)) m (sub [1, 1, 1, 0, 2, 3] fi_spec_NumText.code) none
noncomputable abbrev spec_NumText_l0_K (k m : Nat) : Ex → Fr → Option Res := blockK 0 (seqK (evC G_spec_NumText fi_spec_NumText (evF G_spec_NumText (k + 1)) m (sub [1, 1, 1, 1] fi_spec_NumText.code) none) (retK G_spec_NumText fi_spec_NumText))
noncomputable abbrev spec_NumText_l1_B (k m : Nat) : (Ex → Fr → Option Res) → Fr → Option Res := evC G_spec_NumText fi_spec_NumText (evF G_spec_NumText (k + 1)) m (sub [1, 1, 1, 0, 2, 3] fi_spec_NumText.code) none
noncomputable abbrev spec_NumText_l1_K (k m : Nat) : Ex → Fr → Option Res := blockK 0 (seqK (evC G_spec_NumText fi_spec_NumText (evF G_spec_NumText (k + 1)) m (sub [1, 1, 1, 1] fi_spec_NumText.code) none) (retK G_spec_NumText fi_spec_NumText))
theorem spec_NumText_l1_eq (k m : Nat) : ∀ (n : Nat) (i5 : Int) (s6 : ByteArray), loopK (some [0, 3]) (spec_NumText_l0_B k m) (spec_NumText_l0_K k m) n ⟨fT 25 0 [(0, .av (.one (Cell.int i5))), (3, .av (.one (Cell.str s6)))], fX 25 0 [], []⟩ = spec_NumText_l1 (k + 1) m n i5 s6 := by
  intro n
  induction n with
  | zero => intros; rfl
  | succ n ih =>
    intros
    simp only [spec_NumText_l1, ← ih]
    kernel_rfl
theorem spec_NumText_l0_eq (k m : Nat) : ∀ (n : Nat) (s3 : ByteArray), loopK (some [0, 3]) (spec_NumText_l0_B k m) (spec_NumText_l0_K k m) n ⟨fT 25 0 [(0, .av (.one (Cell.int 0))), (3, .av (.one (Cell.str s3)))], fX 25 0 [], []⟩ = spec_NumText_l0 (k + 1) m n s3 := by
  intro n
  induction n with
  | zero => intros; rfl
  | succ n ih =>
    intros
    simp only [spec_NumText_l0]
    kernel_rfl
theorem spec_NumText_code (k m : Nat) (i1 : Int) : evC G_spec_NumText fi_spec_NumText (evF G_spec_NumText (k + 1)) m fi_spec_NumText.code none (retK G_spec_NumText fi_spec_NumText) (enter fi_spec_NumText [.one (Cell.int i1)] []) = spec_NumText (k + 1) m i1 := by
  simp only [spec_NumText, ← spec_NumText_l0_eq k m, ← spec_NumText_l1_eq k m]
  kernel_rfl
theorem spec_NumText_eq (k : Nat) (i1 : Int) : evF G_spec_NumText (k + 2) fid_spec_NumText [.one (Cell.int i1)] [] = spec_NumText (k + 1) (k + 1) i1 :=
  Eq.trans (by kernel_rfl) (spec_NumText_code k (k + 1) i1)
theorem run_spec_NumText_of {i1 : Int} {r : Res} (k : Nat) (h : spec_NumText (k + 1) (k + 1) i1 = some r) : run_spec_NumText [.one (Cell.int i1)] [] = some r := lim_of ((spec_NumText_eq k i1).trans h)
noncomputable def pl_spec_Join : List (Nat × Run) := []
noncomputable def G_spec_Join : Ctx := ctx tyTab fiTab pl_spec_Join
noncomputable def run_spec_Join : Run := lim G_spec_Join fid_spec_Join
theorem ok_spec_Join : FnOk Tryd.prog OkT fid_spec_Join run_spec_Join := lim_ok (l := pl_spec_Join) Tryd_mix tyTab_ok fiTab_ok okT .nil fid_spec_Join
noncomputable def spec_Join_l0 (k m : Nat) : Nat → Cell → ByteArray → ByteArray → Int → Option Res
  | 0, _, _, _, _ => none
  | n + 1, c3, s4, s5, i6 =>
    (lenC c3).bind fun n7 =>
    cond (decide (i6 < (n7 : Int)))
    (cond (decide (i6 > 0))
    ((catS s5 s4).bind fun s8 =>
    (idxA 1 (c3) i6).bind fun c9 =>
    (deref [] (c9)).bind fun p10 =>
    (cS p10.1 p10.2).bind fun s11 =>
    (catS s8 s11).bind fun s12 =>
    spec_Join_l0 k m n (c3) s4 s12 (IntKind.i64.wrap (i6 + 1)))
    ((idxA 1 (c3) i6).bind fun c13 =>
    (deref [] (c13)).bind fun p14 =>
    (cS p14.1 p14.2).bind fun s15 =>
    (catS s5 s15).bind fun s16 =>
    spec_Join_l0 k m n (c3) s4 s16 (IntKind.i64.wrap (i6 + 1))))
    (some ([.one (Cell.str s5)], []))
noncomputable def spec_Join (k m : Nat) (c1 : Cell) (s2 : ByteArray) : Option Res :=
  spec_Join_l0 k m m (c1) s2 (bs []) 0
noncomputable abbrev spec_Join_l0_B (k m : Nat) : (Ex → Fr → Option Res) → Fr → Option Res := evC G_spec_Join fi_spec_Join (evF G_spec_Join (k + 1)) m (sub [1, 1, 0, 1, 2, 3] fi_spec_Join.code) none
noncomputable abbrev spec_Join_l0_K (k m : Nat) : Ex → Fr → Option Res := blockK 0 (seqK (evC G_spec_Join fi_spec_Join (evF G_spec_Join (k + 1)) m (sub [1, 1, 1] fi_spec_Join.code) none) (retK G_spec_Join fi_spec_Join))
theorem spec_Join_l0_eq (k m : Nat) : ∀ (n : Nat) (c3 : Cell) (s4 : ByteArray) (s5 : ByteArray) (i6 : Int), loopK (some [0, 1, 5, 6]) (spec_Join_l0_B k m) (spec_Join_l0_K k m) n ⟨fT 25 0 [(0, .av (.one (c3))), (1, .av (.one (Cell.str s4))), (5, .av (.one (Cell.str s5))), (6, .av (.one (Cell.int i6)))], fX 25 0 [], []⟩ = spec_Join_l0 (k + 1) m n c3 s4 s5 i6 := by
  intro n
  induction n with
  | zero => intros; rfl
  | succ n ih =>
    intros
    simp only [spec_Join_l0, ← ih]
    kernel_rfl
theorem spec_Join_code (k m : Nat) (c1 : Cell) (s2 : ByteArray) : evC G_spec_Join fi_spec_Join (evF G_spec_Join (k + 1)) m fi_spec_Join.code none (retK G_spec_Join fi_spec_Join) (enter fi_spec_Join [.one (c1), .one (Cell.str s2)] []) = spec_Join (k + 1) m c1 s2 := by
  simp only [spec_Join, ← spec_Join_l0_eq k m]
  kernel_rfl
theorem spec_Join_eq (k : Nat) (c1 : Cell) (s2 : ByteArray) : evF G_spec_Join (k + 2) fid_spec_Join [.one (c1), .one (Cell.str s2)] [] = spec_Join (k + 1) (k + 1) c1 s2 :=
  Eq.trans (by kernel_rfl) (spec_Join_code k (k + 1) c1 s2)
theorem run_spec_Join_of {c1 : Cell} {s2 : ByteArray} {r : Res} (k : Nat) (h : spec_Join (k + 1) (k + 1) c1 s2 = some r) : run_spec_Join [.one (c1), .one (Cell.str s2)] [] = some r := lim_of ((spec_Join_eq k c1 s2).trans h)
noncomputable def pl_spec_VerText : List (Nat × Run) := [(fid_spec_VerOk, run_spec_VerOk), (fid_spec_NumText, run_spec_NumText), (fid_spec_Join, run_spec_Join)]
noncomputable def G_spec_VerText : Ctx := ctx tyTab fiTab pl_spec_VerText
noncomputable def run_spec_VerText : Run := lim G_spec_VerText fid_spec_VerText
theorem ok_spec_VerText : FnOk Tryd.prog OkT fid_spec_VerText run_spec_VerText := lim_ok (l := pl_spec_VerText) Tryd_mix tyTab_ok fiTab_ok okT (.cons ok_spec_VerOk (.cons ok_spec_NumText (.cons ok_spec_Join .nil))) fid_spec_VerText
noncomputable def spec_VerText (k m : Nat) (i1 : Int) (i2 : Int) (i3 : Int) (c4 : Cell) : Option Res :=
  (callS run_spec_VerOk [.agg [Cell.int i1, Cell.int i2, Cell.int i3, c4]] []).bind fun r5 =>
  cond (shapeOk rk_spec_VerOk r5)
  ((cB (cellsAt r5 0) 0).bind fun b6 =>
  cond (!b6)
  (some ([.one (Cell.str (bs []))], []))
  ((callS run_spec_NumText [.one (Cell.int i1)] []).bind fun r7 =>
  cond (shapeOk rk_spec_NumText r7)
  ((cS (cellsAt r7 0) 0).bind fun s8 =>
  (catS s8 (bs [46])).bind fun s9 =>
  (callS run_spec_NumText [.one (Cell.int i2)] []).bind fun r10 =>
  cond (shapeOk rk_spec_NumText r10)
  ((cS (cellsAt r10 0) 0).bind fun s11 =>
  (catS s9 s11).bind fun s12 =>
  (catS s12 (bs [46])).bind fun s13 =>
  (callS run_spec_NumText [.one (Cell.int i3)] []).bind fun r14 =>
  cond (shapeOk rk_spec_NumText r14)
  ((cS (cellsAt r14 0) 0).bind fun s15 =>
  (catS s13 s15).bind fun s16 =>
  (lenC c4).bind fun n17 =>
  cond (decide ((n17 : Int) > 0))
  ((catS s16 (bs [45])).bind fun s18 =>
  (callS run_spec_Join [.one (c4), .one (Cell.str (bs [46]))] []).bind fun r19 =>
  cond (shapeOk rk_spec_Join r19)
  ((cS (cellsAt r19 0) 0).bind fun s20 =>
  (catS s18 s20).bind fun s21 =>
  some ([.one (Cell.str s21)], []))
  none)
  (some ([.one (Cell.str s16)], [])))
  none)
  none)
  none))
  none
theorem spec_VerText_code (k m : Nat) (i1 : Int) (i2 : Int) (i3 : Int) (c4 : Cell) : evC G_spec_VerText fi_spec_VerText (evF G_spec_VerText (k + 1)) m fi_spec_VerText.code none (retK G_spec_VerText fi_spec_VerText) (enter fi_spec_VerText [.agg [Cell.int i1, Cell.int i2, Cell.int i3, c4]] []) = spec_VerText (k + 1) m i1 i2 i3 c4 := by
  kernel_rfl
theorem spec_VerText_eq (k : Nat) (i1 : Int) (i2 : Int) (i3 : Int) (c4 : Cell) : evF G_spec_VerText (k + 2) fid_spec_VerText [.agg [Cell.int i1, Cell.int i2, Cell.int i3, c4]] [] = spec_VerText (k + 1) (k + 1) i1 i2 i3 c4 :=
  Eq.trans (by kernel_rfl) (spec_VerText_code k (k + 1) i1 i2 i3 c4)
theorem run_spec_VerText_of {i1 : Int} {i2 : Int} {i3 : Int} {c4 : Cell} {r : Res} (k : Nat) (h : spec_VerText (k + 1) (k + 1) i1 i2 i3 c4 = some r) : run_spec_VerText [.agg [Cell.int i1, Cell.int i2, Cell.int i3, c4]] [] = some r := lim_of ((spec_VerText_eq k i1 i2 i3 c4).trans h)
noncomputable def pl_spec_LockText : List (Nat × Run) := [(fid_spec_l10Ok, run_spec_l10Ok), (fid_spec_VerText, run_spec_VerText)]
noncomputable def G_spec_LockText : Ctx := ctx tyTab fiTab pl_spec_LockText
noncomputable def run_spec_LockText : Run := lim G_spec_LockText fid_spec_LockText
theorem ok_spec_LockText : FnOk Tryd.prog OkT fid_spec_LockText run_spec_LockText := lim_ok (l := pl_spec_LockText) Tryd_mix tyTab_ok fiTab_ok okT (.cons ok_spec_l10Ok (.cons ok_spec_VerText .nil)) fid_spec_LockText
noncomputable def spec_LockText_l0 (k m : Nat) : Nat → Cell → ByteArray → Int → Option Res
  | 0, _, _, _ => none
  | n + 1, c4, s5, i6 =>
    (lenC c4).bind fun n7 =>
    cond (decide (i6 < (n7 : Int)))
    ((idxA 5 (c4) i6).bind fun c8 =>
    (fldA c8 0).bind fun c9 =>
    (deref [] (c9)).bind fun p10 =>
    (cS p10.1 p10.2).bind fun s11 =>
    (catS s5 s11).bind fun s12 =>
    (catS s12 (bs [64])).bind fun s13 =>
    (idxA 5 (c4) i6).bind fun c14 =>
    (fldA c14 1).bind fun c15 =>
    (deref [] (c15)).bind fun p16 =>
    (cI .i64 p16.1 p16.2).bind fun i17 =>
    (cI .i64 p16.1 (p16.2 + 1)).bind fun i18 =>
    (cI .i64 p16.1 ((p16.2 + 1) + 1)).bind fun i19 =>
    (cC p16.1 (((p16.2 + 1) + 1) + 1)).bind fun c20 =>
    (callS run_spec_VerText [.agg [Cell.int i17, Cell.int i18, Cell.int i19, c20]] []).bind fun r21 =>
    cond (shapeOk rk_spec_VerText r21)
    ((cS (cellsAt r21 0) 0).bind fun s22 =>
    (catS s13 s22).bind fun s23 =>
    (catS s23 (bs [10])).bind fun s24 =>
    spec_LockText_l0 k m n (c4) s24 (IntKind.i64.wrap (i6 + 1)))
    none)
    (some ([.one (Cell.str s5)], []))
noncomputable def spec_LockText (k m : Nat) (c1 : Cell) : Option Res :=
  (callS run_spec_l10Ok [.one (c1)] []).bind fun r2 =>
  cond (shapeOk rk_spec_l10Ok r2)
  ((cB (cellsAt r2 0) 0).bind fun b3 =>
  cond (!b3)
  (some ([.one (Cell.str (bs []))], []))
  (spec_LockText_l0 k m m (c1) (bs []) 0))
  none
noncomputable abbrev spec_LockText_l0_B (k m : Nat) : (Ex → Fr → Option Res) → Fr → Option Res := evC G_spec_LockText fi_spec_LockText (evF G_spec_LockText (k + 1)) m (sub [1, 1, 1, 0, 1, 2, 3] fi_spec_LockText.code) none
noncomputable abbrev spec_LockText_l0_K (k m : Nat) : Ex → Fr → Option Res := blockK 0 (seqK (evC G_spec_LockText fi_spec_LockText (evF G_spec_LockText (k + 1)) m (sub [1, 1, 1, 1] fi_spec_LockText.code) none) (retK G_spec_LockText fi_spec_LockText))
theorem spec_LockText_l0_eq (k m : Nat) : ∀ (n : Nat) (c4 : Cell) (s5 : ByteArray) (i6 : Int), loopK (some [0, 3, 4]) (spec_LockText_l0_B k m) (spec_LockText_l0_K k m) n ⟨fT 31 0 [(0, .av (.one (c4))), (3, .av (.one (Cell.str s5))), (4, .av (.one (Cell.int i6)))], fX 31 0 [], []⟩ = spec_LockText_l0 (k + 1) m n c4 s5 i6 := by
  intro n
  induction n with
  | zero => intros; rfl
  | succ n ih =>
    intros
    simp only [spec_LockText_l0, ← ih]
    kernel_rfl
theorem spec_LockText_code (k m : Nat) (c1 : Cell) : evC G_spec_LockText fi_spec_LockText (evF G_spec_LockText (k + 1)) m fi_spec_LockText.code none (retK G_spec_LockText fi_spec_LockText) (enter fi_spec_LockText [.one (c1)] []) = spec_LockText (k + 1) m c1 := by
  simp only [spec_LockText, ← spec_LockText_l0_eq k m]
  kernel_rfl
theorem spec_LockText_eq (k : Nat) (c1 : Cell) : evF G_spec_LockText (k + 2) fid_spec_LockText [.one (c1)] [] = spec_LockText (k + 1) (k + 1) c1 :=
  Eq.trans (by kernel_rfl) (spec_LockText_code k (k + 1) c1)
theorem run_spec_LockText_of {c1 : Cell} {r : Res} (k : Nat) (h : spec_LockText (k + 1) (k + 1) c1 = some r) : run_spec_LockText [.one (c1)] [] = some r := lim_of ((spec_LockText_eq k c1).trans h)
noncomputable def pl_laws_toStringS : List (Nat × Run) := []
noncomputable def G_laws_toStringS : Ctx := ctx tyTab fiTab pl_laws_toStringS
noncomputable def run_laws_toStringS : Run := lim G_laws_toStringS fid_laws_toStringS
theorem ok_laws_toStringS : FnOk Tryd.prog OkT fid_laws_toStringS run_laws_toStringS := lim_ok (l := pl_laws_toStringS) Tryd_mix tyTab_ok fiTab_ok okT .nil fid_laws_toStringS
noncomputable def laws_toStringS_l0 (k m : Nat) : Nat → Cell → Cell → Int → List Entry → Option Res
  | 0, _, _, _, _ => none
  | n + 1, c3, c4, i5, H6 =>
    (lenC c3).bind fun n7 =>
    cond (decide (i5 < (n7 : Int)))
    ((idxA 1 (c3) i5).bind fun c8 =>
    (deref H6 (c8)).bind fun p9 =>
    (cS p9.1 p9.2).bind fun s10 =>
    (idxA 1 (c4) i5).bind fun c11 =>
    (hStore H6 (c11) [Cell.str s10]).bind fun h12 =>
    laws_toStringS_l0 k m n (c3) (c4) (IntKind.i64.wrap (i5 + 1)) h12)
    (some ([.one (c4)], H6))
noncomputable def laws_toStringS (k m : Nat) (c1 : Cell) : Option Res :=
  (lenC c1).bind fun n2 =>
  if 0 ≤ (n2 : Int) ∧ (n2 : Int) ≤ (n2 : Int) ∧ (n2 : Int) * 16 ≤ bound ∧ (n2 : Int) ≤ bound then
  (laws_toStringS_l0 k m m (c1) ((.vs 0 1 0 (n2 : Int).toNat 0)) 0 [Entry.mk 1 (mkRows (n2 : Int).toNat [Cell.str (bs [])]) 0 false]) else none
noncomputable abbrev laws_toStringS_l0_B (k m : Nat) : (Ex → Fr → Option Res) → Fr → Option Res := evC G_laws_toStringS fi_laws_toStringS (evF G_laws_toStringS (k + 1)) m (sub [1, 1, 0, 1, 2, 3] fi_laws_toStringS.code) none
noncomputable abbrev laws_toStringS_l0_K (k m : Nat) : Ex → Fr → Option Res := blockK 0 (seqK (evC G_laws_toStringS fi_laws_toStringS (evF G_laws_toStringS (k + 1)) m (sub [1, 1, 1] fi_laws_toStringS.code) none) (retK G_laws_toStringS fi_laws_toStringS))
theorem laws_toStringS_l0_eq (k m : Nat) : ∀ (n : Nat) (c3 : Cell) (c4 : Cell) (i5 : Int) (H6 : List Entry), loopK (some [0, 3, 4]) (laws_toStringS_l0_B k m) (laws_toStringS_l0_K k m) n ⟨fT 22 0 [(0, .av (.one (c3))), (3, .av (.one (c4))), (4, .av (.one (Cell.int i5)))], fX 22 0 [], H6⟩ = laws_toStringS_l0 (k + 1) m n c3 c4 i5 H6 := by
  intro n
  induction n with
  | zero => intros; rfl
  | succ n ih =>
    intros
    simp only [laws_toStringS_l0, ← ih]
    kernel_rfl
theorem laws_toStringS_code (k m : Nat) (c1 : Cell) : evC G_laws_toStringS fi_laws_toStringS (evF G_laws_toStringS (k + 1)) m fi_laws_toStringS.code none (retK G_laws_toStringS fi_laws_toStringS) (enter fi_laws_toStringS [.one (c1)] []) = laws_toStringS (k + 1) m c1 := by
  simp only [laws_toStringS, ← laws_toStringS_l0_eq k m]
  kernel_rfl
theorem laws_toStringS_eq (k : Nat) (c1 : Cell) : evF G_laws_toStringS (k + 2) fid_laws_toStringS [.one (c1)] [] = laws_toStringS (k + 1) (k + 1) c1 :=
  Eq.trans (by kernel_rfl) (laws_toStringS_code k (k + 1) c1)
theorem run_laws_toStringS_of {c1 : Cell} {r : Res} (k : Nat) (h : laws_toStringS (k + 1) (k + 1) c1 = some r) : run_laws_toStringS [.one (c1)] [] = some r := lim_of ((laws_toStringS_eq k c1).trans h)
noncomputable def pl_laws_toVer : List (Nat × Run) := [(fid_laws_toStringS, run_laws_toStringS)]
noncomputable def G_laws_toVer : Ctx := ctx tyTab fiTab pl_laws_toVer
noncomputable def run_laws_toVer : Run := lim G_laws_toVer fid_laws_toVer
theorem ok_laws_toVer : FnOk Tryd.prog OkT fid_laws_toVer run_laws_toVer := lim_ok (l := pl_laws_toVer) Tryd_mix tyTab_ok fiTab_ok okT (.cons ok_laws_toStringS .nil) fid_laws_toVer
noncomputable def laws_toVer (k m : Nat) (i1 : Int) (i2 : Int) (i3 : Int) (c4 : Cell) : Option Res :=
  (callL run_laws_toStringS [.one (c4)] []).bind fun r5 =>
  cond (shapeOk rk_laws_toStringS r5.1)
  ((cC (cellsAt r5.1 0) 0).bind fun c6 =>
  some ([.agg [Cell.int i1, Cell.int i2, Cell.int i3, c6]], r5.2))
  none
theorem laws_toVer_code (k m : Nat) (i1 : Int) (i2 : Int) (i3 : Int) (c4 : Cell) : evC G_laws_toVer fi_laws_toVer (evF G_laws_toVer (k + 1)) m fi_laws_toVer.code none (retK G_laws_toVer fi_laws_toVer) (enter fi_laws_toVer [.agg [Cell.int i1, Cell.int i2, Cell.int i3, c4]] []) = laws_toVer (k + 1) m i1 i2 i3 c4 := by
  kernel_rfl
theorem laws_toVer_eq (k : Nat) (i1 : Int) (i2 : Int) (i3 : Int) (c4 : Cell) : evF G_laws_toVer (k + 2) fid_laws_toVer [.agg [Cell.int i1, Cell.int i2, Cell.int i3, c4]] [] = laws_toVer (k + 1) (k + 1) i1 i2 i3 c4 :=
  Eq.trans (by kernel_rfl) (laws_toVer_code k (k + 1) i1 i2 i3 c4)
theorem run_laws_toVer_of {i1 : Int} {i2 : Int} {i3 : Int} {c4 : Cell} {r : Res} (k : Nat) (h : laws_toVer (k + 1) (k + 1) i1 i2 i3 c4 = some r) : run_laws_toVer [.agg [Cell.int i1, Cell.int i2, Cell.int i3, c4]] [] = some r := lim_of ((laws_toVer_eq k i1 i2 i3 c4).trans h)
noncomputable def pl_laws_toPick : List (Nat × Run) := [(fid_laws_toVer, run_laws_toVer)]
noncomputable def G_laws_toPick : Ctx := ctx tyTab fiTab pl_laws_toPick
noncomputable def run_laws_toPick : Run := lim G_laws_toPick fid_laws_toPick
theorem ok_laws_toPick : FnOk Tryd.prog OkT fid_laws_toPick run_laws_toPick := lim_ok (l := pl_laws_toPick) Tryd_mix tyTab_ok fiTab_ok okT (.cons ok_laws_toVer .nil) fid_laws_toPick
noncomputable def laws_toPick (k m : Nat) (s1 : ByteArray) (i2 : Int) (i3 : Int) (i4 : Int) (c5 : Cell) : Option Res :=
  (callL run_laws_toVer [.agg [Cell.int i2, Cell.int i3, Cell.int i4, c5]] []).bind fun r6 =>
  cond (shapeOk rk_laws_toVer r6.1)
  ((cI .i64 (cellsAt r6.1 0) 0).bind fun i7 =>
  (cI .i64 (cellsAt r6.1 0) 1).bind fun i8 =>
  (cI .i64 (cellsAt r6.1 0) 2).bind fun i9 =>
  (cC (cellsAt r6.1 0) 3).bind fun c10 =>
  some ([.agg [Cell.str s1, Cell.int i7, Cell.int i8, Cell.int i9, c10]], r6.2))
  none
theorem laws_toPick_code (k m : Nat) (s1 : ByteArray) (i2 : Int) (i3 : Int) (i4 : Int) (c5 : Cell) : evC G_laws_toPick fi_laws_toPick (evF G_laws_toPick (k + 1)) m fi_laws_toPick.code none (retK G_laws_toPick fi_laws_toPick) (enter fi_laws_toPick [.agg [Cell.str s1, Cell.int i2, Cell.int i3, Cell.int i4, c5]] []) = laws_toPick (k + 1) m s1 i2 i3 i4 c5 := by
  kernel_rfl
theorem laws_toPick_eq (k : Nat) (s1 : ByteArray) (i2 : Int) (i3 : Int) (i4 : Int) (c5 : Cell) : evF G_laws_toPick (k + 2) fid_laws_toPick [.agg [Cell.str s1, Cell.int i2, Cell.int i3, Cell.int i4, c5]] [] = laws_toPick (k + 1) (k + 1) s1 i2 i3 i4 c5 :=
  Eq.trans (by kernel_rfl) (laws_toPick_code k (k + 1) s1 i2 i3 i4 c5)
theorem run_laws_toPick_of {s1 : ByteArray} {i2 : Int} {i3 : Int} {i4 : Int} {c5 : Cell} {r : Res} (k : Nat) (h : laws_toPick (k + 1) (k + 1) s1 i2 i3 i4 c5 = some r) : run_laws_toPick [.agg [Cell.str s1, Cell.int i2, Cell.int i3, Cell.int i4, c5]] [] = some r := lim_of ((laws_toPick_eq k s1 i2 i3 i4 c5).trans h)
noncomputable def pl_laws_toPickS : List (Nat × Run) := [(fid_laws_toPick, run_laws_toPick)]
noncomputable def G_laws_toPickS : Ctx := ctx tyTab fiTab pl_laws_toPickS
noncomputable def run_laws_toPickS : Run := lim G_laws_toPickS fid_laws_toPickS
theorem ok_laws_toPickS : FnOk Tryd.prog OkT fid_laws_toPickS run_laws_toPickS := lim_ok (l := pl_laws_toPickS) Tryd_mix tyTab_ok fiTab_ok okT (.cons ok_laws_toPick .nil) fid_laws_toPickS
noncomputable def laws_toPickS_l0 (k m : Nat) : Nat → Cell → Cell → Int → List Entry → Option Res
  | 0, _, _, _, _ => none
  | n + 1, c3, c4, i5, H6 =>
    (lenC c3).bind fun n7 =>
    cond (decide (i5 < (n7 : Int)))
    ((idxA 5 (c3) i5).bind fun c8 =>
    (deref H6 (c8)).bind fun p9 =>
    (cS p9.1 p9.2).bind fun s10 =>
    (cI .i64 p9.1 (p9.2 + 1)).bind fun i11 =>
    (cI .i64 p9.1 ((p9.2 + 1) + 1)).bind fun i12 =>
    (cI .i64 p9.1 (((p9.2 + 1) + 1) + 1)).bind fun i13 =>
    (cC p9.1 ((((p9.2 + 1) + 1) + 1) + 1)).bind fun c14 =>
    (callL run_laws_toPick [.agg [Cell.str s10, Cell.int i11, Cell.int i12, Cell.int i13, c14]] H6).bind fun r15 =>
    cond (shapeOk rk_laws_toPick r15.1)
    ((cS (cellsAt r15.1 0) 0).bind fun s16 =>
    (cI .i64 (cellsAt r15.1 0) 1).bind fun i17 =>
    (cI .i64 (cellsAt r15.1 0) 2).bind fun i18 =>
    (cI .i64 (cellsAt r15.1 0) 3).bind fun i19 =>
    (cC (cellsAt r15.1 0) 4).bind fun c20 =>
    (idxA 5 (c4) i5).bind fun c21 =>
    (hStore r15.2 (c21) [Cell.str s16, Cell.int i17, Cell.int i18, Cell.int i19, c20]).bind fun h22 =>
    laws_toPickS_l0 k m n (c3) (c4) (IntKind.i64.wrap (i5 + 1)) h22)
    none)
    (some ([.one (c4)], H6))
noncomputable def laws_toPickS (k m : Nat) (c1 : Cell) : Option Res :=
  (lenC c1).bind fun n2 =>
  if 0 ≤ (n2 : Int) ∧ (n2 : Int) ≤ (n2 : Int) ∧ (n2 : Int) * 64 ≤ bound ∧ (n2 : Int) ≤ bound then
  (laws_toPickS_l0 k m m (c1) ((.vs 0 5 0 (n2 : Int).toNat 0)) 0 [Entry.mk 5 (mkRows (n2 : Int).toNat [Cell.str (bs []), Cell.int 0, Cell.int 0, Cell.int 0, .lst true 1 []]) 0 false]) else none
noncomputable abbrev laws_toPickS_l0_B (k m : Nat) : (Ex → Fr → Option Res) → Fr → Option Res := evC G_laws_toPickS fi_laws_toPickS (evF G_laws_toPickS (k + 1)) m (sub [1, 1, 0, 1, 2, 3] fi_laws_toPickS.code) none
noncomputable abbrev laws_toPickS_l0_K (k m : Nat) : Ex → Fr → Option Res := blockK 0 (seqK (evC G_laws_toPickS fi_laws_toPickS (evF G_laws_toPickS (k + 1)) m (sub [1, 1, 1] fi_laws_toPickS.code) none) (retK G_laws_toPickS fi_laws_toPickS))
theorem laws_toPickS_l0_eq (k m : Nat) : ∀ (n : Nat) (c3 : Cell) (c4 : Cell) (i5 : Int) (H6 : List Entry), loopK (some [0, 3, 4]) (laws_toPickS_l0_B k m) (laws_toPickS_l0_K k m) n ⟨fT 23 0 [(0, .av (.one (c3))), (3, .av (.one (c4))), (4, .av (.one (Cell.int i5)))], fX 23 0 [], H6⟩ = laws_toPickS_l0 (k + 1) m n c3 c4 i5 H6 := by
  intro n
  induction n with
  | zero => intros; rfl
  | succ n ih =>
    intros
    simp only [laws_toPickS_l0, ← ih]
    kernel_rfl
theorem laws_toPickS_code (k m : Nat) (c1 : Cell) : evC G_laws_toPickS fi_laws_toPickS (evF G_laws_toPickS (k + 1)) m fi_laws_toPickS.code none (retK G_laws_toPickS fi_laws_toPickS) (enter fi_laws_toPickS [.one (c1)] []) = laws_toPickS (k + 1) m c1 := by
  simp only [laws_toPickS, ← laws_toPickS_l0_eq k m]
  kernel_rfl
theorem laws_toPickS_eq (k : Nat) (c1 : Cell) : evF G_laws_toPickS (k + 2) fid_laws_toPickS [.one (c1)] [] = laws_toPickS (k + 1) (k + 1) c1 :=
  Eq.trans (by kernel_rfl) (laws_toPickS_code k (k + 1) c1)
theorem run_laws_toPickS_of {c1 : Cell} {r : Res} (k : Nat) (h : laws_toPickS (k + 1) (k + 1) c1 = some r) : run_laws_toPickS [.one (c1)] [] = some r := lim_of ((laws_toPickS_eq k c1).trans h)
noncomputable def pl_impl_isSmall : List (Nat × Run) := []
noncomputable def G_impl_isSmall : Ctx := ctx tyTab fiTab pl_impl_isSmall
noncomputable def run_impl_isSmall : Run := lim G_impl_isSmall fid_impl_isSmall
theorem ok_impl_isSmall : FnOk Tryd.prog OkT fid_impl_isSmall run_impl_isSmall := lim_ok (l := pl_impl_isSmall) Tryd_mix tyTab_ok fiTab_ok okT .nil fid_impl_isSmall
noncomputable def impl_isSmall (k m : Nat) (i1 : Int) : Option Res :=
  cond (decide (i1 ≥ 97))
  (some ([.one (Cell.bool (decide (i1 ≤ 122)))], []))
  (some ([.one (Cell.bool false)], []))
theorem impl_isSmall_code (k m : Nat) (i1 : Int) : evC G_impl_isSmall fi_impl_isSmall (evF G_impl_isSmall (k + 1)) m fi_impl_isSmall.code none (retK G_impl_isSmall fi_impl_isSmall) (enter fi_impl_isSmall [.one (.sc (.int .u8 i1))] []) = impl_isSmall (k + 1) m i1 := by
  kernel_rfl
theorem impl_isSmall_eq (k : Nat) (i1 : Int) : evF G_impl_isSmall (k + 2) fid_impl_isSmall [.one (.sc (.int .u8 i1))] [] = impl_isSmall (k + 1) (k + 1) i1 :=
  Eq.trans (by kernel_rfl) (impl_isSmall_code k (k + 1) i1)
theorem run_impl_isSmall_of {i1 : Int} {r : Res} (k : Nat) (h : impl_isSmall (k + 1) (k + 1) i1 = some r) : run_impl_isSmall [.one (.sc (.int .u8 i1))] [] = some r := lim_of ((impl_isSmall_eq k i1).trans h)
noncomputable def pl_impl_isFigure : List (Nat × Run) := []
noncomputable def G_impl_isFigure : Ctx := ctx tyTab fiTab pl_impl_isFigure
noncomputable def run_impl_isFigure : Run := lim G_impl_isFigure fid_impl_isFigure
theorem ok_impl_isFigure : FnOk Tryd.prog OkT fid_impl_isFigure run_impl_isFigure := lim_ok (l := pl_impl_isFigure) Tryd_mix tyTab_ok fiTab_ok okT .nil fid_impl_isFigure
noncomputable def impl_isFigure (k m : Nat) (i1 : Int) : Option Res :=
  cond (decide (i1 ≥ 48))
  (some ([.one (Cell.bool (decide (i1 ≤ 57)))], []))
  (some ([.one (Cell.bool false)], []))
theorem impl_isFigure_code (k m : Nat) (i1 : Int) : evC G_impl_isFigure fi_impl_isFigure (evF G_impl_isFigure (k + 1)) m fi_impl_isFigure.code none (retK G_impl_isFigure fi_impl_isFigure) (enter fi_impl_isFigure [.one (.sc (.int .u8 i1))] []) = impl_isFigure (k + 1) m i1 := by
  kernel_rfl
theorem impl_isFigure_eq (k : Nat) (i1 : Int) : evF G_impl_isFigure (k + 2) fid_impl_isFigure [.one (.sc (.int .u8 i1))] [] = impl_isFigure (k + 1) (k + 1) i1 :=
  Eq.trans (by kernel_rfl) (impl_isFigure_code k (k + 1) i1)
theorem run_impl_isFigure_of {i1 : Int} {r : Res} (k : Nat) (h : impl_isFigure (k + 1) (k + 1) i1 = some r) : run_impl_isFigure [.one (.sc (.int .u8 i1))] [] = some r := lim_of ((impl_isFigure_eq k i1).trans h)
end Go.Ev
