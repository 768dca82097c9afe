/- What the evaluator says of the functions, each as a Lean function over cells. Printed by a program of this claim. Conditions: none. -/
import Derived.Test.YtkpiaalieeacgaaEvPr
import Derived.KernelRfl
namespace Go.Ev
open Go Go.Proofs
set_option maxRecDepth 100000
set_option linter.unusedVariables false
set_option linter.unusedSimpArgs false
noncomputable def pl_spec_Split : List (Nat × Run) := []
noncomputable def G_spec_Split : Ctx := ctx tyTab fiTab pl_spec_Split
noncomputable def run_spec_Split : Run := lim G_spec_Split fid_spec_Split
theorem ok_spec_Split : FnOk Try.prog OkT fid_spec_Split run_spec_Split := lim_ok (l := pl_spec_Split) Try_mix tyTab_ok fiTab_ok okT .nil fid_spec_Split
noncomputable def spec_Split_l0 (k m : Nat) : Nat → ByteArray → Int → Cell → Int → Int → List Entry → Option Res
  | 0, _, _, _, _, _, _ => none
  | n + 1, s3, i4, c5, i6, i7, H8 =>
    cond (decide (i7 ≤ (s3.size : Int)))
    (cond (i7 == (s3.size : Int))
    ((subS s3 i6 i7).bind fun s9 =>
    (app H8 1 16 (c5) [[Cell.str s9]]).bind fun p10 =>
    spec_Split_l0 k m n s3 i4 (p10.1) (IntKind.i64.wrap (i7 + 1)) (IntKind.i64.wrap (i7 + 1)) p10.2)
    ((bytS s3 i7).bind fun i11 =>
    cond (i11 == i4)
    ((subS s3 i6 i7).bind fun s12 =>
    (app H8 1 16 (c5) [[Cell.str s12]]).bind fun p13 =>
    spec_Split_l0 k m n s3 i4 (p13.1) (IntKind.i64.wrap (i7 + 1)) (IntKind.i64.wrap (i7 + 1)) p13.2)
    (spec_Split_l0 k m n s3 i4 (c5) i6 (IntKind.i64.wrap (i7 + 1)) H8)))
    (some ([.one (c5)], H8))
noncomputable def spec_Split (k m : Nat) (s1 : ByteArray) (i2 : Int) : Option Res :=
  spec_Split_l0 k m m s1 i2 (.lst true 1 []) 0 0 []
noncomputable abbrev spec_Split_l0_B (k m : Nat) : (Ex → Fr → Option Res) → Fr → Option Res := evC G_spec_Split fi_spec_Split (evF G_spec_Split (k + 1)) m (sub [1, 1, 1, 0, 1, 2, 3] fi_spec_Split.code) none
noncomputable abbrev spec_Split_l0_K (k m : Nat) : Ex → Fr → Option Res := blockK 0 (seqK (evC G_spec_Split fi_spec_Split (evF G_spec_Split (k + 1)) m (sub [1, 1, 1, 1] fi_spec_Split.code) none) (retK G_spec_Split fi_spec_Split))
theorem spec_Split_l0_eq (k m : Nat) : ∀ (n : Nat) (s3 : ByteArray) (i4 : Int) (c5 : Cell) (i6 : Int) (i7 : Int) (H8 : List Entry), loopK (some [0, 1, 5, 6, 7]) (spec_Split_l0_B k m) (spec_Split_l0_K k m) n ⟨fT 36 0 [(0, .av (.one (Cell.str s3))), (1, .av (.one (.sc (.int .u8 i4)))), (5, .av (.one (c5))), (6, .av (.one (Cell.int i6))), (7, .av (.one (Cell.int i7)))], fX 36 0 [], H8⟩ = spec_Split_l0 (k + 1) m n s3 i4 c5 i6 i7 H8 := by
  intro n
  induction n with
  | zero => intros; rfl
  | succ n ih =>
    intros
    simp only [spec_Split_l0, ← ih]
    kernel_rfl
theorem spec_Split_code (k m : Nat) (s1 : ByteArray) (i2 : Int) : evC G_spec_Split fi_spec_Split (evF G_spec_Split (k + 1)) m fi_spec_Split.code none (retK G_spec_Split fi_spec_Split) (enter fi_spec_Split [.one (Cell.str s1), .one (.sc (.int .u8 i2))] []) = spec_Split (k + 1) m s1 i2 := by
  simp only [spec_Split, ← spec_Split_l0_eq k m]
  kernel_rfl
theorem spec_Split_eq (k : Nat) (s1 : ByteArray) (i2 : Int) : evF G_spec_Split (k + 2) fid_spec_Split [.one (Cell.str s1), .one (.sc (.int .u8 i2))] [] = spec_Split (k + 1) (k + 1) s1 i2 :=
  Eq.trans (by kernel_rfl) (spec_Split_code k (k + 1) s1 i2)
theorem run_spec_Split_of {s1 : ByteArray} {i2 : Int} {r : Res} (k : Nat) (h : spec_Split (k + 1) (k + 1) s1 i2 = some r) : run_spec_Split [.one (Cell.str s1), .one (.sc (.int .u8 i2))] [] = some r := lim_of ((spec_Split_eq k s1 i2).trans h)
noncomputable def pl_spec_l1In : List (Nat × Run) := []
noncomputable def G_spec_l1In : Ctx := ctx tyTab fiTab pl_spec_l1In
noncomputable def run_spec_l1In : Run := lim G_spec_l1In fid_spec_l1In
theorem ok_spec_l1In : FnOk Try.prog OkT fid_spec_l1In run_spec_l1In := lim_ok (l := pl_spec_l1In) Try_mix tyTab_ok fiTab_ok okT .nil fid_spec_l1In
noncomputable def spec_l1In (k m : Nat) (i1 : Int) (i2 : Int) (i3 : Int) : Option Res :=
  cond (decide (i1 ≥ i2))
  (some ([.one (Cell.bool (decide (i1 ≤ i3)))], []))
  (some ([.one (Cell.bool false)], []))
theorem spec_l1In_code (k m : Nat) (i1 : Int) (i2 : Int) (i3 : Int) : evC G_spec_l1In fi_spec_l1In (evF G_spec_l1In (k + 1)) m fi_spec_l1In.code none (retK G_spec_l1In fi_spec_l1In) (enter fi_spec_l1In [.one (Cell.int i1), .one (Cell.int i2), .one (Cell.int i3)] []) = spec_l1In (k + 1) m i1 i2 i3 := by
  kernel_rfl
theorem spec_l1In_eq (k : Nat) (i1 : Int) (i2 : Int) (i3 : Int) : evF G_spec_l1In (k + 2) fid_spec_l1In [.one (Cell.int i1), .one (Cell.int i2), .one (Cell.int i3)] [] = spec_l1In (k + 1) (k + 1) i1 i2 i3 :=
  Eq.trans (by kernel_rfl) (spec_l1In_code k (k + 1) i1 i2 i3)
theorem run_spec_l1In_of {i1 : Int} {i2 : Int} {i3 : Int} {r : Res} (k : Nat) (h : spec_l1In (k + 1) (k + 1) i1 i2 i3 = some r) : run_spec_l1In [.one (Cell.int i1), .one (Cell.int i2), .one (Cell.int i3)] [] = some r := lim_of ((spec_l1In_eq k i1 i2 i3).trans h)
noncomputable def pl_spec_l1Small : List (Nat × Run) := [(fid_spec_l1In, run_spec_l1In)]
noncomputable def G_spec_l1Small : Ctx := ctx tyTab fiTab pl_spec_l1Small
noncomputable def run_spec_l1Small : Run := lim G_spec_l1Small fid_spec_l1Small
theorem ok_spec_l1Small : FnOk Try.prog OkT fid_spec_l1Small run_spec_l1Small := lim_ok (l := pl_spec_l1Small) Try_mix tyTab_ok fiTab_ok okT (.cons ok_spec_l1In .nil) fid_spec_l1Small
noncomputable def spec_l1Small (k m : Nat) (i1 : Int) : Option Res :=
  (callS run_spec_l1In [.one (Cell.int (IntKind.i64.wrap i1)), .one (Cell.int 97), .one (Cell.int 122)] []).bind fun r2 =>
  cond (shapeOk rk_spec_l1In r2)
  ((cB (cellsAt r2 0) 0).bind fun b3 =>
  some ([.one (Cell.bool b3)], []))
  none
theorem spec_l1Small_code (k m : Nat) (i1 : Int) : evC G_spec_l1Small fi_spec_l1Small (evF G_spec_l1Small (k + 1)) m fi_spec_l1Small.code none (retK G_spec_l1Small fi_spec_l1Small) (enter fi_spec_l1Small [.one (.sc (.int .u8 i1))] []) = spec_l1Small (k + 1) m i1 := by
  kernel_rfl
theorem spec_l1Small_eq (k : Nat) (i1 : Int) : evF G_spec_l1Small (k + 2) fid_spec_l1Small [.one (.sc (.int .u8 i1))] [] = spec_l1Small (k + 1) (k + 1) i1 :=
  Eq.trans (by kernel_rfl) (spec_l1Small_code k (k + 1) i1)
theorem run_spec_l1Small_of {i1 : Int} {r : Res} (k : Nat) (h : spec_l1Small (k + 1) (k + 1) i1 = some r) : run_spec_l1Small [.one (.sc (.int .u8 i1))] [] = some r := lim_of ((spec_l1Small_eq k i1).trans h)
noncomputable def pl_spec_l1Digit : List (Nat × Run) := [(fid_spec_l1In, run_spec_l1In)]
noncomputable def G_spec_l1Digit : Ctx := ctx tyTab fiTab pl_spec_l1Digit
noncomputable def run_spec_l1Digit : Run := lim G_spec_l1Digit fid_spec_l1Digit
theorem ok_spec_l1Digit : FnOk Try.prog OkT fid_spec_l1Digit run_spec_l1Digit := lim_ok (l := pl_spec_l1Digit) Try_mix tyTab_ok fiTab_ok okT (.cons ok_spec_l1In .nil) fid_spec_l1Digit
noncomputable def spec_l1Digit (k m : Nat) (i1 : Int) : Option Res :=
  (callS run_spec_l1In [.one (Cell.int (IntKind.i64.wrap i1)), .one (Cell.int 48), .one (Cell.int 57)] []).bind fun r2 =>
  cond (shapeOk rk_spec_l1In r2)
  ((cB (cellsAt r2 0) 0).bind fun b3 =>
  some ([.one (Cell.bool b3)], []))
  none
theorem spec_l1Digit_code (k m : Nat) (i1 : Int) : evC G_spec_l1Digit fi_spec_l1Digit (evF G_spec_l1Digit (k + 1)) m fi_spec_l1Digit.code none (retK G_spec_l1Digit fi_spec_l1Digit) (enter fi_spec_l1Digit [.one (.sc (.int .u8 i1))] []) = spec_l1Digit (k + 1) m i1 := by
  kernel_rfl
theorem spec_l1Digit_eq (k : Nat) (i1 : Int) : evF G_spec_l1Digit (k + 2) fid_spec_l1Digit [.one (.sc (.int .u8 i1))] [] = spec_l1Digit (k + 1) (k + 1) i1 :=
  Eq.trans (by kernel_rfl) (spec_l1Digit_code k (k + 1) i1)
theorem run_spec_l1Digit_of {i1 : Int} {r : Res} (k : Nat) (h : spec_l1Digit (k + 1) (k + 1) i1 = some r) : run_spec_l1Digit [.one (.sc (.int .u8 i1))] [] = some r := lim_of ((spec_l1Digit_eq k i1).trans h)
noncomputable def pl_spec_NameOk : List (Nat × Run) := [(fid_spec_l1Small, run_spec_l1Small), (fid_spec_l1Digit, run_spec_l1Digit), (fid_spec_l1In, run_spec_l1In)]
noncomputable def G_spec_NameOk : Ctx := ctx tyTab fiTab pl_spec_NameOk
noncomputable def run_spec_NameOk : Run := lim G_spec_NameOk fid_spec_NameOk
theorem ok_spec_NameOk : FnOk Try.prog OkT fid_spec_NameOk run_spec_NameOk := lim_ok (l := pl_spec_NameOk) Try_mix tyTab_ok fiTab_ok okT (.cons ok_spec_l1Small (.cons ok_spec_l1Digit (.cons ok_spec_l1In .nil))) fid_spec_NameOk
noncomputable def spec_NameOk_l0 (k m : Nat) : Nat → ByteArray → Int → Option Res
  | 0, _, _ => none
  | n + 1, s2, i3 =>
    cond (decide (i3 < (s2.size : Int)))
    ((bytS s2 i3).bind fun i4 =>
    (callS run_spec_l1Small [.one (.sc (.int .u8 i4))] []).bind fun r5 =>
    cond (shapeOk rk_spec_l1Small r5)
    ((cB (cellsAt r5 0) 0).bind fun b6 =>
    cond (!b6)
    (cond (i3 == 0)
    (some ([.one (Cell.bool false)], []))
    ((bytS s2 i3).bind fun i7 =>
    (callS run_spec_l1Digit [.one (.sc (.int .u8 i7))] []).bind fun r8 =>
    cond (shapeOk rk_spec_l1Digit r8)
    ((cB (cellsAt r8 0) 0).bind fun b9 =>
    cond (!b9)
    ((bytS s2 i3).bind fun i10 =>
    cond (i10 != 45)
    (some ([.one (Cell.bool false)], []))
    (spec_NameOk_l0 k m n s2 (IntKind.i64.wrap (i3 + 1))))
    (spec_NameOk_l0 k m n s2 (IntKind.i64.wrap (i3 + 1))))
    none))
    (spec_NameOk_l0 k m n s2 (IntKind.i64.wrap (i3 + 1))))
    none)
    ((callS run_spec_l1In [.one (Cell.int (s2.size : Int)), .one (Cell.int 1), .one (Cell.int 10)] []).bind fun r11 =>
    cond (shapeOk rk_spec_l1In r11)
    ((cB (cellsAt r11 0) 0).bind fun b12 =>
    some ([.one (Cell.bool b12)], []))
    none)
noncomputable def spec_NameOk (k m : Nat) (s1 : ByteArray) : Option Res :=
  spec_NameOk_l0 k m m s1 0
noncomputable abbrev spec_NameOk_l0_B (k m : Nat) : (Ex → Fr → Option Res) → Fr → Option Res := evC G_spec_NameOk fi_spec_NameOk (evF G_spec_NameOk (k + 1)) m (sub [1, 0, 1, 2, 3] fi_spec_NameOk.code) none
noncomputable abbrev spec_NameOk_l0_K (k m : Nat) : Ex → Fr → Option Res := blockK 0 (seqK (evC G_spec_NameOk fi_spec_NameOk (evF G_spec_NameOk (k + 1)) m (sub [1, 1] fi_spec_NameOk.code) none) (retK G_spec_NameOk fi_spec_NameOk))
theorem spec_NameOk_l0_eq (k m : Nat) : ∀ (n : Nat) (s2 : ByteArray) (i3 : Int), loopK (some [0, 3]) (spec_NameOk_l0_B k m) (spec_NameOk_l0_K k m) n ⟨fT 35 0 [(0, .av (.one (Cell.str s2))), (3, .av (.one (Cell.int i3)))], fX 35 0 [], []⟩ = spec_NameOk_l0 (k + 1) m n s2 i3 := by
  intro n
  induction n with
  | zero => intros; rfl
  | succ n ih =>
    intros
    simp only [spec_NameOk_l0, ← ih]
    kernel_rfl
theorem spec_NameOk_code (k m : Nat) (s1 : ByteArray) : evC G_spec_NameOk fi_spec_NameOk (evF G_spec_NameOk (k + 1)) m fi_spec_NameOk.code none (retK G_spec_NameOk fi_spec_NameOk) (enter fi_spec_NameOk [.one (Cell.str s1)] []) = spec_NameOk (k + 1) m s1 := by
  simp only [spec_NameOk, ← spec_NameOk_l0_eq k m]
  kernel_rfl
theorem spec_NameOk_eq (k : Nat) (s1 : ByteArray) : evF G_spec_NameOk (k + 2) fid_spec_NameOk [.one (Cell.str s1)] [] = spec_NameOk (k + 1) (k + 1) s1 :=
  Eq.trans (by kernel_rfl) (spec_NameOk_code k (k + 1) s1)
theorem run_spec_NameOk_of {s1 : ByteArray} {r : Res} (k : Nat) (h : spec_NameOk (k + 1) (k + 1) s1 = some r) : run_spec_NameOk [.one (Cell.str s1)] [] = some r := lim_of ((spec_NameOk_eq k s1).trans h)
noncomputable def pl_spec_OnOk : List (Nat × Run) := [(fid_spec_Split, run_spec_Split), (fid_spec_NameOk, run_spec_NameOk)]
noncomputable def G_spec_OnOk : Ctx := ctx tyTab fiTab pl_spec_OnOk
noncomputable def run_spec_OnOk : Run := lim G_spec_OnOk fid_spec_OnOk
theorem ok_spec_OnOk : FnOk Try.prog OkT fid_spec_OnOk run_spec_OnOk := lim_ok (l := pl_spec_OnOk) Try_mix tyTab_ok fiTab_ok okT (.cons ok_spec_Split (.cons ok_spec_NameOk .nil)) fid_spec_OnOk
noncomputable def spec_OnOk (k m : Nat) (s1 : ByteArray) : Option Res :=
  cond (decide ((s1.size : Int) > 0))
  ((bytS s1 0).bind fun i2 =>
  cond (i2 == 94)
  ((subS s1 1 (s1.size : Int)).bind fun s3 =>
  (callS run_spec_NameOk [.one (Cell.str s3)] []).bind fun r4 =>
  cond (shapeOk rk_spec_NameOk r4)
  ((cB (cellsAt r4 0) 0).bind fun b5 =>
  some ([.one (Cell.bool b5)], []))
  none)
  ((callL run_spec_Split [.one (Cell.str s1), .one (.sc (.int .u8 35))] []).bind fun r6 =>
  cond (shapeOk rk_spec_Split r6.1)
  ((cC (cellsAt r6.1 0) 0).bind fun c7 =>
  (lenC c7).bind fun n8 =>
  cond ((n8 : Int) == 2)
  ((idxA 1 (c7) 0).bind fun c9 =>
  (deref r6.2 (c9)).bind fun p10 =>
  (cS p10.1 p10.2).bind fun s11 =>
  (callS run_spec_NameOk [.one (Cell.str s11)] r6.2).bind fun r12 =>
  cond (shapeOk rk_spec_NameOk r12)
  ((cB (cellsAt r12 0) 0).bind fun b13 =>
  cond b13
  ((idxA 1 (c7) 1).bind fun c14 =>
  (deref r6.2 (c14)).bind fun p15 =>
  (cS p15.1 p15.2).bind fun s16 =>
  (callS run_spec_NameOk [.one (Cell.str s16)] r6.2).bind fun r17 =>
  cond (shapeOk rk_spec_NameOk r17)
  ((cB (cellsAt r17 0) 0).bind fun b18 =>
  some ([.one (Cell.bool b18)], r6.2))
  none)
  (some ([.one (Cell.bool false)], r6.2)))
  none)
  ((callS run_spec_NameOk [.one (Cell.str s1)] r6.2).bind fun r19 =>
  cond (shapeOk rk_spec_NameOk r19)
  ((cB (cellsAt r19 0) 0).bind fun b20 =>
  some ([.one (Cell.bool b20)], r6.2))
  none))
  none))
  ((callL run_spec_Split [.one (Cell.str s1), .one (.sc (.int .u8 35))] []).bind fun r21 =>
  cond (shapeOk rk_spec_Split r21.1)
  ((cC (cellsAt r21.1 0) 0).bind fun c22 =>
  (lenC c22).bind fun n23 =>
  cond ((n23 : Int) == 2)
  ((idxA 1 (c22) 0).bind fun c24 =>
  (deref r21.2 (c24)).bind fun p25 =>
  (cS p25.1 p25.2).bind fun s26 =>
  (callS run_spec_NameOk [.one (Cell.str s26)] r21.2).bind fun r27 =>
  cond (shapeOk rk_spec_NameOk r27)
  ((cB (cellsAt r27 0) 0).bind fun b28 =>
  cond b28
  ((idxA 1 (c22) 1).bind fun c29 =>
  (deref r21.2 (c29)).bind fun p30 =>
  (cS p30.1 p30.2).bind fun s31 =>
  (callS run_spec_NameOk [.one (Cell.str s31)] r21.2).bind fun r32 =>
  cond (shapeOk rk_spec_NameOk r32)
  ((cB (cellsAt r32 0) 0).bind fun b33 =>
  some ([.one (Cell.bool b33)], r21.2))
  none)
  (some ([.one (Cell.bool false)], r21.2)))
  none)
  ((callS run_spec_NameOk [.one (Cell.str s1)] r21.2).bind fun r34 =>
  cond (shapeOk rk_spec_NameOk r34)
  ((cB (cellsAt r34 0) 0).bind fun b35 =>
  some ([.one (Cell.bool b35)], r21.2))
  none))
  none)
theorem spec_OnOk_code (k m : Nat) (s1 : ByteArray) : evC G_spec_OnOk fi_spec_OnOk (evF G_spec_OnOk (k + 1)) m fi_spec_OnOk.code none (retK G_spec_OnOk fi_spec_OnOk) (enter fi_spec_OnOk [.one (Cell.str s1)] []) = spec_OnOk (k + 1) m s1 := by
  kernel_rfl
theorem spec_OnOk_eq (k : Nat) (s1 : ByteArray) : evF G_spec_OnOk (k + 2) fid_spec_OnOk [.one (Cell.str s1)] [] = spec_OnOk (k + 1) (k + 1) s1 :=
  Eq.trans (by kernel_rfl) (spec_OnOk_code k (k + 1) s1)
theorem run_spec_OnOk_of {s1 : ByteArray} {r : Res} (k : Nat) (h : spec_OnOk (k + 1) (k + 1) s1 = some r) : run_spec_OnOk [.one (Cell.str s1)] [] = some r := lim_of ((spec_OnOk_eq k s1).trans h)
noncomputable def pl_internal_bytealg_Cutover : List (Nat × Run) := []
noncomputable def G_internal_bytealg_Cutover : Ctx := ctx tyTab fiTab pl_internal_bytealg_Cutover
noncomputable def run_internal_bytealg_Cutover : Run := lim G_internal_bytealg_Cutover fid_internal_bytealg_Cutover
theorem ok_internal_bytealg_Cutover : FnOk Try.prog OkT fid_internal_bytealg_Cutover run_internal_bytealg_Cutover := lim_ok (l := pl_internal_bytealg_Cutover) Try_mix tyTab_ok fiTab_ok okT .nil fid_internal_bytealg_Cutover
noncomputable def internal_bytealg_Cutover (k m : Nat) (i1 : Int) : Option Res :=
  some ([.one (Cell.int (IntKind.i64.wrap ((IntKind.i64.wrap (i1 + 16)).tdiv 8)))], [])
theorem internal_bytealg_Cutover_code (k m : Nat) (i1 : Int) : evC G_internal_bytealg_Cutover fi_internal_bytealg_Cutover (evF G_internal_bytealg_Cutover (k + 1)) m fi_internal_bytealg_Cutover.code none (retK G_internal_bytealg_Cutover fi_internal_bytealg_Cutover) (enter fi_internal_bytealg_Cutover [.one (Cell.int i1)] []) = internal_bytealg_Cutover (k + 1) m i1 := by
  kernel_rfl
theorem internal_bytealg_Cutover_eq (k : Nat) (i1 : Int) : evF G_internal_bytealg_Cutover (k + 2) fid_internal_bytealg_Cutover [.one (Cell.int i1)] [] = internal_bytealg_Cutover (k + 1) (k + 1) i1 :=
  Eq.trans (by kernel_rfl) (internal_bytealg_Cutover_code k (k + 1) i1)
theorem run_internal_bytealg_Cutover_of {i1 : Int} {r : Res} (k : Nat) (h : internal_bytealg_Cutover (k + 1) (k + 1) i1 = some r) : run_internal_bytealg_Cutover [.one (Cell.int i1)] [] = some r := lim_of ((internal_bytealg_Cutover_eq k i1).trans h)
noncomputable def pl_internal_bytealg_hashStr_string : List (Nat × Run) := []
noncomputable def G_internal_bytealg_hashStr_string : Ctx := ctx tyTab fiTab pl_internal_bytealg_hashStr_string
noncomputable def run_internal_bytealg_hashStr_string : Run := lim G_internal_bytealg_hashStr_string fid_internal_bytealg_hashStr_string
theorem ok_internal_bytealg_hashStr_string : FnOk Try.prog OkT fid_internal_bytealg_hashStr_string run_internal_bytealg_hashStr_string := lim_ok (l := pl_internal_bytealg_hashStr_string) Try_mix tyTab_ok fiTab_ok okT .nil fid_internal_bytealg_hashStr_string
noncomputable def internal_bytealg_hashStr_string_l1 (k m : Nat) : Nat → Int → Int → Int → Int → Option Res
  | 0, _, _, _, _ => none
  | n + 1, i6, i7, i8, i9 =>
    cond (decide (i9 > 0))
    (cond ((andI .i64 i9 1) != 0)
    (internal_bytealg_hashStr_string_l1 k m n i6 (IntKind.u32.wrap (i7 * i8)) (IntKind.u32.wrap (i8 * i8)) (shrI .i64 i9 1))
    (internal_bytealg_hashStr_string_l1 k m n i6 i7 (IntKind.u32.wrap (i8 * i8)) (shrI .i64 i9 1)))
    (some ([.one (.sc (.int .u32 i6)), .one (.sc (.int .u32 i7))], []))
noncomputable def internal_bytealg_hashStr_string_l0 (k m : Nat) : Nat → ByteArray → Int → Int → Option Res
  | 0, _, _, _ => none
  | n + 1, s2, i3, i4 =>
    cond (decide (i4 < (s2.size : Int)))
    ((bytS s2 i4).bind fun i5 =>
    internal_bytealg_hashStr_string_l0 k m n s2 (IntKind.u32.wrap ((IntKind.u32.wrap (i3 * 16777619)) + (IntKind.u32.wrap i5))) (IntKind.i64.wrap (i4 + 1)))
    (internal_bytealg_hashStr_string_l1 k m m i3 1 16777619 (s2.size : Int))
noncomputable def internal_bytealg_hashStr_string (k m : Nat) (s1 : ByteArray) : Option Res :=
  internal_bytealg_hashStr_string_l0 k m m s1 0 0
noncomputable abbrev internal_bytealg_hashStr_string_l0_B (k m : Nat) : (Ex → Fr → Option Res) → Fr → Option Res := evC G_internal_bytealg_hashStr_string fi_internal_bytealg_hashStr_string (evF G_internal_bytealg_hashStr_string (k + 1)) m (sub [1, 1, 0, 1, 2, 3] fi_internal_bytealg_hashStr_string.code) none
noncomputable abbrev internal_bytealg_hashStr_string_l0_K (k m : Nat) : Ex → Fr → Option Res := blockK 0 (seqK (evC G_internal_bytealg_hashStr_string fi_internal_bytealg_hashStr_string (evF G_internal_bytealg_hashStr_string (k + 1)) m (sub [1, 1, 1] fi_internal_bytealg_hashStr_string.code) none) (retK G_internal_bytealg_hashStr_string fi_internal_bytealg_hashStr_string))
noncomputable abbrev internal_bytealg_hashStr_string_l1_B (k m : Nat) : (Ex → Fr → Option Res) → Fr → Option Res := evC G_internal_bytealg_hashStr_string fi_internal_bytealg_hashStr_string (evF G_internal_bytealg_hashStr_string (k + 1)) m (sub [1, 1, 1, 1, 0, 1, 2, 3] fi_internal_bytealg_hashStr_string.code) none
noncomputable abbrev internal_bytealg_hashStr_string_l1_K (k m : Nat) : Ex → Fr → Option Res := blockK 2 (seqK (evC G_internal_bytealg_hashStr_string fi_internal_bytealg_hashStr_string (evF G_internal_bytealg_hashStr_string (k + 1)) m (sub [1, 1, 1, 1, 1] fi_internal_bytealg_hashStr_string.code) none) (retK G_internal_bytealg_hashStr_string fi_internal_bytealg_hashStr_string))
theorem internal_bytealg_hashStr_string_l1_eq (k m : Nat) : ∀ (n : Nat) (i6 : Int) (i7 : Int) (i8 : Int) (i9 : Int), loopK (some [4, 6, 7, 8]) (internal_bytealg_hashStr_string_l1_B k m) (internal_bytealg_hashStr_string_l1_K k m) n ⟨fT 39 0 [(4, .av (.one (.sc (.int .u32 i6)))), (6, .av (.one (.sc (.int .u32 i7)))), (7, .av (.one (.sc (.int .u32 i8)))), (8, .av (.one (Cell.int i9)))], fX 39 0 [], []⟩ = internal_bytealg_hashStr_string_l1 (k + 1) m n i6 i7 i8 i9 := by
  intro n
  induction n with
  | zero => intros; rfl
  | succ n ih =>
    intros
    simp only [internal_bytealg_hashStr_string_l1, ← ih]
    kernel_rfl
theorem internal_bytealg_hashStr_string_l0_eq (k m : Nat) : ∀ (n : Nat) (s2 : ByteArray) (i3 : Int) (i4 : Int), loopK (some [0, 4, 5]) (internal_bytealg_hashStr_string_l0_B k m) (internal_bytealg_hashStr_string_l0_K k m) n ⟨fT 39 0 [(0, .av (.one (Cell.str s2))), (4, .av (.one (.sc (.int .u32 i3)))), (5, .av (.one (Cell.int i4)))], fX 39 0 [], []⟩ = internal_bytealg_hashStr_string_l0 (k + 1) m n s2 i3 i4 := by
  intro n
  induction n with
  | zero => intros; rfl
  | succ n ih =>
    intros
    simp only [internal_bytealg_hashStr_string_l0, ← internal_bytealg_hashStr_string_l1_eq k m, ← ih]
    kernel_rfl
theorem internal_bytealg_hashStr_string_code (k m : Nat) (s1 : ByteArray) : evC G_internal_bytealg_hashStr_string fi_internal_bytealg_hashStr_string (evF G_internal_bytealg_hashStr_string (k + 1)) m fi_internal_bytealg_hashStr_string.code none (retK G_internal_bytealg_hashStr_string fi_internal_bytealg_hashStr_string) (enter fi_internal_bytealg_hashStr_string [.one (Cell.str s1)] []) = internal_bytealg_hashStr_string (k + 1) m s1 := by
  simp only [internal_bytealg_hashStr_string, ← internal_bytealg_hashStr_string_l0_eq k m]
  kernel_rfl
theorem internal_bytealg_hashStr_string_eq (k : Nat) (s1 : ByteArray) : evF G_internal_bytealg_hashStr_string (k + 2) fid_internal_bytealg_hashStr_string [.one (Cell.str s1)] [] = internal_bytealg_hashStr_string (k + 1) (k + 1) s1 :=
  Eq.trans (by kernel_rfl) (internal_bytealg_hashStr_string_code k (k + 1) s1)
theorem run_internal_bytealg_hashStr_string_of {s1 : ByteArray} {r : Res} (k : Nat) (h : internal_bytealg_hashStr_string (k + 1) (k + 1) s1 = some r) : run_internal_bytealg_hashStr_string [.one (Cell.str s1)] [] = some r := lim_of ((internal_bytealg_hashStr_string_eq k s1).trans h)
noncomputable def pl_internal_bytealg_IndexRabinKarp_string : List (Nat × Run) := [(fid_internal_bytealg_hashStr_string, run_internal_bytealg_hashStr_string)]
noncomputable def G_internal_bytealg_IndexRabinKarp_string : Ctx := ctx tyTab fiTab pl_internal_bytealg_IndexRabinKarp_string
noncomputable def run_internal_bytealg_IndexRabinKarp_string : Run := lim G_internal_bytealg_IndexRabinKarp_string fid_internal_bytealg_IndexRabinKarp_string
theorem ok_internal_bytealg_IndexRabinKarp_string : FnOk Try.prog OkT fid_internal_bytealg_IndexRabinKarp_string run_internal_bytealg_IndexRabinKarp_string := lim_ok (l := pl_internal_bytealg_IndexRabinKarp_string) Try_mix tyTab_ok fiTab_ok okT (.cons ok_internal_bytealg_hashStr_string .nil) fid_internal_bytealg_IndexRabinKarp_string
noncomputable def internal_bytealg_IndexRabinKarp_string_l1 (k m : Nat) : Nat → ByteArray → ByteArray → Int → Int → Int → Int → Int → Option Res
  | 0, _, _, _, _, _, _, _ => none
  | n + 1, s15, s16, i17, i18, i19, i20, i21 =>
    cond (decide (i21 < (s15.size : Int)))
    ((bytS s15 i21).bind fun i22 =>
    (bytS s15 (IntKind.i64.wrap (i21 - i19))).bind fun i23 =>
    cond ((IntKind.u32.wrap ((IntKind.u32.wrap ((IntKind.u32.wrap (i20 * 16777619)) + (IntKind.u32.wrap i22))) - (IntKind.u32.wrap (i18 * (IntKind.u32.wrap i23))))) == i17)
    ((subS s15 (IntKind.i64.wrap ((IntKind.i64.wrap (i21 + 1)) - i19)) (IntKind.i64.wrap (i21 + 1))).bind fun s24 =>
    cond (s24.toList == s16.toList)
    (some ([.one (Cell.int (IntKind.i64.wrap ((IntKind.i64.wrap (i21 + 1)) - i19)))], []))
    (internal_bytealg_IndexRabinKarp_string_l1 k m n s15 s16 i17 i18 i19 (IntKind.u32.wrap ((IntKind.u32.wrap ((IntKind.u32.wrap (i20 * 16777619)) + (IntKind.u32.wrap i22))) - (IntKind.u32.wrap (i18 * (IntKind.u32.wrap i23))))) (IntKind.i64.wrap (i21 + 1))))
    (internal_bytealg_IndexRabinKarp_string_l1 k m n s15 s16 i17 i18 i19 (IntKind.u32.wrap ((IntKind.u32.wrap ((IntKind.u32.wrap (i20 * 16777619)) + (IntKind.u32.wrap i22))) - (IntKind.u32.wrap (i18 * (IntKind.u32.wrap i23))))) (IntKind.i64.wrap (i21 + 1))))
    (some ([.one (Cell.int (-1))], []))
noncomputable def internal_bytealg_IndexRabinKarp_string_l0 (k m : Nat) : Nat → ByteArray → ByteArray → Int → Int → Int → Int → Int → Option Res
  | 0, _, _, _, _, _, _, _ => none
  | n + 1, s6, s7, i8, i9, i10, i11, i12 =>
    cond (decide (i12 < i10))
    ((bytS s6 i12).bind fun i13 =>
    internal_bytealg_IndexRabinKarp_string_l0 k m n s6 s7 i8 i9 i10 (IntKind.u32.wrap ((IntKind.u32.wrap (i11 * 16777619)) + (IntKind.u32.wrap i13))) (IntKind.i64.wrap (i12 + 1)))
    (cond (i11 == i8)
    ((subS s6 0 i10).bind fun s14 =>
    cond (s14.toList == s7.toList)
    (some ([.one (Cell.int 0)], []))
    (internal_bytealg_IndexRabinKarp_string_l1 k m m s6 s7 i8 i9 i10 i11 i10))
    (internal_bytealg_IndexRabinKarp_string_l1 k m m s6 s7 i8 i9 i10 i11 i10))
noncomputable def internal_bytealg_IndexRabinKarp_string (k m : Nat) (s1 : ByteArray) (s2 : ByteArray) : Option Res :=
  (callS run_internal_bytealg_hashStr_string [.one (Cell.str s2)] []).bind fun r3 =>
  cond (shapeOk rk_internal_bytealg_hashStr_string r3)
  ((cI .u32 (cellsAt r3 0) 0).bind fun i4 =>
  (cI .u32 (cellsAt r3 1) 0).bind fun i5 =>
  internal_bytealg_IndexRabinKarp_string_l0 k m m s1 s2 i4 i5 (s2.size : Int) 0 0)
  none
noncomputable abbrev internal_bytealg_IndexRabinKarp_string_l0_B (k m : Nat) : (Ex → Fr → Option Res) → Fr → Option Res := evC G_internal_bytealg_IndexRabinKarp_string fi_internal_bytealg_IndexRabinKarp_string (evF G_internal_bytealg_IndexRabinKarp_string (k + 1)) m (sub [1, 1, 1, 1, 0, 1, 2, 3] fi_internal_bytealg_IndexRabinKarp_string.code) none
noncomputable abbrev internal_bytealg_IndexRabinKarp_string_l0_K (k m : Nat) : Ex → Fr → Option Res := blockK 0 (seqK (evC G_internal_bytealg_IndexRabinKarp_string fi_internal_bytealg_IndexRabinKarp_string (evF G_internal_bytealg_IndexRabinKarp_string (k + 1)) m (sub [1, 1, 1, 1, 1] fi_internal_bytealg_IndexRabinKarp_string.code) none) (retK G_internal_bytealg_IndexRabinKarp_string fi_internal_bytealg_IndexRabinKarp_string))
noncomputable abbrev internal_bytealg_IndexRabinKarp_string_l1_B (k m : Nat) : (Ex → Fr → Option Res) → Fr → Option Res := evC G_internal_bytealg_IndexRabinKarp_string fi_internal_bytealg_IndexRabinKarp_string (evF G_internal_bytealg_IndexRabinKarp_string (k + 1)) m (sub [1, 1, 1, 1, 1, 1, 0, 1, 2, 3] fi_internal_bytealg_IndexRabinKarp_string.code) none
noncomputable abbrev internal_bytealg_IndexRabinKarp_string_l1_K (k m : Nat) : Ex → Fr → Option Res := blockK 2 (seqK (evC G_internal_bytealg_IndexRabinKarp_string fi_internal_bytealg_IndexRabinKarp_string (evF G_internal_bytealg_IndexRabinKarp_string (k + 1)) m (sub [1, 1, 1, 1, 1, 1, 1] fi_internal_bytealg_IndexRabinKarp_string.code) none) (retK G_internal_bytealg_IndexRabinKarp_string fi_internal_bytealg_IndexRabinKarp_string))
theorem internal_bytealg_IndexRabinKarp_string_l1_eq (k m : Nat) : ∀ (n : Nat) (s15 : ByteArray) (s16 : ByteArray) (i17 : Int) (i18 : Int) (i19 : Int) (i20 : Int) (i21 : Int), loopK (some [0, 1, 5, 6, 7, 8, 10]) (internal_bytealg_IndexRabinKarp_string_l1_B k m) (internal_bytealg_IndexRabinKarp_string_l1_K k m) n ⟨fT 81 0 [(0, .av (.one (Cell.str s15))), (1, .av (.one (Cell.str s16))), (5, .av (.one (.sc (.int .u32 i17)))), (6, .av (.one (.sc (.int .u32 i18)))), (7, .av (.one (Cell.int i19))), (8, .av (.one (.sc (.int .u32 i20)))), (10, .av (.one (Cell.int i21)))], fX 81 0 [], []⟩ = internal_bytealg_IndexRabinKarp_string_l1 (k + 1) m n s15 s16 i17 i18 i19 i20 i21 := by
  intro n
  induction n with
  | zero => intros; rfl
  | succ n ih =>
    intros
    simp only [internal_bytealg_IndexRabinKarp_string_l1, ← ih]
    kernel_rfl
theorem internal_bytealg_IndexRabinKarp_string_l0_eq (k m : Nat) : ∀ (n : Nat) (s6 : ByteArray) (s7 : ByteArray) (i8 : Int) (i9 : Int) (i10 : Int) (i11 : Int) (i12 : Int), loopK (some [0, 1, 5, 6, 7, 8, 9]) (internal_bytealg_IndexRabinKarp_string_l0_B k m) (internal_bytealg_IndexRabinKarp_string_l0_K k m) n ⟨fT 81 0 [(0, .av (.one (Cell.str s6))), (1, .av (.one (Cell.str s7))), (5, .av (.one (.sc (.int .u32 i8)))), (6, .av (.one (.sc (.int .u32 i9)))), (7, .av (.one (Cell.int i10))), (8, .av (.one (.sc (.int .u32 i11)))), (9, .av (.one (Cell.int i12)))], fX 81 0 [], []⟩ = internal_bytealg_IndexRabinKarp_string_l0 (k + 1) m n s6 s7 i8 i9 i10 i11 i12 := by
  intro n
  induction n with
  | zero => intros; rfl
  | succ n ih =>
    intros
    simp only [internal_bytealg_IndexRabinKarp_string_l0, ← internal_bytealg_IndexRabinKarp_string_l1_eq k m, ← ih]
    kernel_rfl
theorem internal_bytealg_IndexRabinKarp_string_code (k m : Nat) (s1 : ByteArray) (s2 : ByteArray) : evC G_internal_bytealg_IndexRabinKarp_string fi_internal_bytealg_IndexRabinKarp_string (evF G_internal_bytealg_IndexRabinKarp_string (k + 1)) m fi_internal_bytealg_IndexRabinKarp_string.code none (retK G_internal_bytealg_IndexRabinKarp_string fi_internal_bytealg_IndexRabinKarp_string) (enter fi_internal_bytealg_IndexRabinKarp_string [.one (Cell.str s1), .one (Cell.str s2)] []) = internal_bytealg_IndexRabinKarp_string (k + 1) m s1 s2 := by
  simp only [internal_bytealg_IndexRabinKarp_string, ← internal_bytealg_IndexRabinKarp_string_l0_eq k m]
  kernel_rfl
theorem internal_bytealg_IndexRabinKarp_string_eq (k : Nat) (s1 : ByteArray) (s2 : ByteArray) : evF G_internal_bytealg_IndexRabinKarp_string (k + 2) fid_internal_bytealg_IndexRabinKarp_string [.one (Cell.str s1), .one (Cell.str s2)] [] = internal_bytealg_IndexRabinKarp_string (k + 1) (k + 1) s1 s2 :=
  Eq.trans (by kernel_rfl) (internal_bytealg_IndexRabinKarp_string_code k (k + 1) s1 s2)
theorem run_internal_bytealg_IndexRabinKarp_string_of {s1 : ByteArray} {s2 : ByteArray} {r : Res} (k : Nat) (h : internal_bytealg_IndexRabinKarp_string (k + 1) (k + 1) s1 s2 = some r) : run_internal_bytealg_IndexRabinKarp_string [.one (Cell.str s1), .one (Cell.str s2)] [] = some r := lim_of ((internal_bytealg_IndexRabinKarp_string_eq k s1 s2).trans h)
noncomputable def pl_internal_stringslite_Index : List (Nat × Run) := [(fid_internal_stringslite_IndexByte, run_internal_stringslite_IndexByte), (fid_internal_bytealg_Cutover, run_internal_bytealg_Cutover), (fid_internal_bytealg_IndexRabinKarp_string, run_internal_bytealg_IndexRabinKarp_string)]
noncomputable def G_internal_stringslite_Index : Ctx := ctx tyTab fiTab pl_internal_stringslite_Index
noncomputable def run_internal_stringslite_Index : Run := lim G_internal_stringslite_Index fid_internal_stringslite_Index
theorem ok_internal_stringslite_Index : FnOk Try.prog OkT fid_internal_stringslite_Index run_internal_stringslite_Index := lim_ok (l := pl_internal_stringslite_Index) Try_mix tyTab_ok fiTab_ok okT (.cons ok_internal_stringslite_IndexByte (.cons ok_internal_bytealg_Cutover (.cons ok_internal_bytealg_IndexRabinKarp_string .nil))) fid_internal_stringslite_Index
noncomputable def internal_stringslite_Index (k m : Nat) (s1 : ByteArray) (s2 : ByteArray) : Option Res :=
  cond ((s2.size : Int) == 0)
  (some ([.one (Cell.int 0)], []))
  (cond (s2.toList == s1.toList)
  (some ([.one (Cell.int 0)], []))
  (cond ((s2.size : Int) == 1)
  ((bytS s2 0).bind fun i3 =>
  (callS run_internal_stringslite_IndexByte [.one (Cell.str s1), .one (.sc (.int .u8 i3))] []).bind fun r4 =>
  cond (shapeOk rk_internal_stringslite_IndexByte r4)
  ((cI .i64 (cellsAt r4 0) 0).bind fun i5 =>
  some ([.one (Cell.int i5)], []))
  none)
  (cond (decide ((s2.size : Int) ≥ (s1.size : Int)))
  (some ([.one (Cell.int (-1))], []))
  (none))))
theorem internal_stringslite_Index_code (k m : Nat) (s1 : ByteArray) (s2 : ByteArray) : evC G_internal_stringslite_Index fi_internal_stringslite_Index (evF G_internal_stringslite_Index (k + 1)) m fi_internal_stringslite_Index.code none (retK G_internal_stringslite_Index fi_internal_stringslite_Index) (enter fi_internal_stringslite_Index [.one (Cell.str s1), .one (Cell.str s2)] []) = internal_stringslite_Index (k + 1) m s1 s2 := by
  kernel_rfl
theorem internal_stringslite_Index_eq (k : Nat) (s1 : ByteArray) (s2 : ByteArray) : evF G_internal_stringslite_Index (k + 2) fid_internal_stringslite_Index [.one (Cell.str s1), .one (Cell.str s2)] [] = internal_stringslite_Index (k + 1) (k + 1) s1 s2 :=
  Eq.trans (by kernel_rfl) (internal_stringslite_Index_code k (k + 1) s1 s2)
theorem run_internal_stringslite_Index_of {s1 : ByteArray} {s2 : ByteArray} {r : Res} (k : Nat) (h : internal_stringslite_Index (k + 1) (k + 1) s1 s2 = some r) : run_internal_stringslite_Index [.one (Cell.str s1), .one (Cell.str s2)] [] = some r := lim_of ((internal_stringslite_Index_eq k s1 s2).trans h)
noncomputable def pl_internal_stringslite_Cut : List (Nat × Run) := [(fid_internal_stringslite_Index, run_internal_stringslite_Index)]
noncomputable def G_internal_stringslite_Cut : Ctx := ctx tyTab fiTab pl_internal_stringslite_Cut
noncomputable def run_internal_stringslite_Cut : Run := lim G_internal_stringslite_Cut fid_internal_stringslite_Cut
theorem ok_internal_stringslite_Cut : FnOk Try.prog OkT fid_internal_stringslite_Cut run_internal_stringslite_Cut := lim_ok (l := pl_internal_stringslite_Cut) Try_mix tyTab_ok fiTab_ok okT (.cons ok_internal_stringslite_Index .nil) fid_internal_stringslite_Cut
noncomputable def internal_stringslite_Cut (k m : Nat) (s1 : ByteArray) (s2 : ByteArray) : Option Res :=
  (callS run_internal_stringslite_Index [.one (Cell.str s1), .one (Cell.str s2)] []).bind fun r3 =>
  cond (shapeOk rk_internal_stringslite_Index r3)
  ((cI .i64 (cellsAt r3 0) 0).bind fun i4 =>
  cond (decide (i4 ≥ 0))
  ((subS s1 0 i4).bind fun s5 =>
  (subS s1 (IntKind.i64.wrap (i4 + (s2.size : Int))) (s1.size : Int)).bind fun s6 =>
  some ([.one (Cell.str s5), .one (Cell.str s6), .one (Cell.bool true)], []))
  (some ([.one (Cell.str s1), .one (Cell.str (bs [])), .one (Cell.bool false)], [])))
  none
theorem internal_stringslite_Cut_code (k m : Nat) (s1 : ByteArray) (s2 : ByteArray) : evC G_internal_stringslite_Cut fi_internal_stringslite_Cut (evF G_internal_stringslite_Cut (k + 1)) m fi_internal_stringslite_Cut.code none (retK G_internal_stringslite_Cut fi_internal_stringslite_Cut) (enter fi_internal_stringslite_Cut [.one (Cell.str s1), .one (Cell.str s2)] []) = internal_stringslite_Cut (k + 1) m s1 s2 := by
  kernel_rfl
theorem internal_stringslite_Cut_eq (k : Nat) (s1 : ByteArray) (s2 : ByteArray) : evF G_internal_stringslite_Cut (k + 2) fid_internal_stringslite_Cut [.one (Cell.str s1), .one (Cell.str s2)] [] = internal_stringslite_Cut (k + 1) (k + 1) s1 s2 :=
  Eq.trans (by kernel_rfl) (internal_stringslite_Cut_code k (k + 1) s1 s2)
theorem run_internal_stringslite_Cut_of {s1 : ByteArray} {s2 : ByteArray} {r : Res} (k : Nat) (h : internal_stringslite_Cut (k + 1) (k + 1) s1 s2 = some r) : run_internal_stringslite_Cut [.one (Cell.str s1), .one (Cell.str s2)] [] = some r := lim_of ((internal_stringslite_Cut_eq k s1 s2).trans h)
noncomputable def pl_strings_Cut : List (Nat × Run) := [(fid_internal_stringslite_Cut, run_internal_stringslite_Cut)]
noncomputable def G_strings_Cut : Ctx := ctx tyTab fiTab pl_strings_Cut
noncomputable def run_strings_Cut : Run := lim G_strings_Cut fid_strings_Cut
theorem ok_strings_Cut : FnOk Try.prog OkT fid_strings_Cut run_strings_Cut := lim_ok (l := pl_strings_Cut) Try_mix tyTab_ok fiTab_ok okT (.cons ok_internal_stringslite_Cut .nil) fid_strings_Cut
noncomputable def strings_Cut (k m : Nat) (s1 : ByteArray) (s2 : ByteArray) : Option Res :=
  (callS run_internal_stringslite_Cut [.one (Cell.str s1), .one (Cell.str s2)] []).bind fun r3 =>
  cond (shapeOk rk_internal_stringslite_Cut r3)
  ((cS (cellsAt r3 0) 0).bind fun s4 =>
  (cS (cellsAt r3 1) 0).bind fun s5 =>
  (cB (cellsAt r3 2) 0).bind fun b6 =>
  some ([.one (Cell.str s4), .one (Cell.str s5), .one (Cell.bool b6)], []))
  none
theorem strings_Cut_code (k m : Nat) (s1 : ByteArray) (s2 : ByteArray) : evC G_strings_Cut fi_strings_Cut (evF G_strings_Cut (k + 1)) m fi_strings_Cut.code none (retK G_strings_Cut fi_strings_Cut) (enter fi_strings_Cut [.one (Cell.str s1), .one (Cell.str s2)] []) = strings_Cut (k + 1) m s1 s2 := by
  kernel_rfl
theorem strings_Cut_eq (k : Nat) (s1 : ByteArray) (s2 : ByteArray) : evF G_strings_Cut (k + 2) fid_strings_Cut [.one (Cell.str s1), .one (Cell.str s2)] [] = strings_Cut (k + 1) (k + 1) s1 s2 :=
  Eq.trans (by kernel_rfl) (strings_Cut_code k (k + 1) s1 s2)
theorem run_strings_Cut_of {s1 : ByteArray} {s2 : ByteArray} {r : Res} (k : Nat) (h : strings_Cut (k + 1) (k + 1) s1 s2 = some r) : run_strings_Cut [.one (Cell.str s1), .one (Cell.str s2)] [] = some r := lim_of ((strings_Cut_eq k s1 s2).trans h)
noncomputable def pl_impl_isSmall : List (Nat × Run) := []
noncomputable def G_impl_isSmall : Ctx := ctx tyTab fiTab pl_impl_isSmall
noncomputable def run_impl_isSmall : Run := lim G_impl_isSmall fid_impl_isSmall
theorem ok_impl_isSmall : FnOk Try.prog OkT fid_impl_isSmall run_impl_isSmall := lim_ok (l := pl_impl_isSmall) Try_mix tyTab_ok fiTab_ok okT .nil fid_impl_isSmall
noncomputable def impl_isSmall (k m : Nat) (i1 : Int) : Option Res :=
  cond (decide (i1 ≥ 97))
  (some ([.one (Cell.bool (decide (i1 ≤ 122)))], []))
  (some ([.one (Cell.bool false)], []))
theorem impl_isSmall_code (k m : Nat) (i1 : Int) : evC G_impl_isSmall fi_impl_isSmall (evF G_impl_isSmall (k + 1)) m fi_impl_isSmall.code none (retK G_impl_isSmall fi_impl_isSmall) (enter fi_impl_isSmall [.one (.sc (.int .u8 i1))] []) = impl_isSmall (k + 1) m i1 := by
  kernel_rfl
theorem impl_isSmall_eq (k : Nat) (i1 : Int) : evF G_impl_isSmall (k + 2) fid_impl_isSmall [.one (.sc (.int .u8 i1))] [] = impl_isSmall (k + 1) (k + 1) i1 :=
  Eq.trans (by kernel_rfl) (impl_isSmall_code k (k + 1) i1)
theorem run_impl_isSmall_of {i1 : Int} {r : Res} (k : Nat) (h : impl_isSmall (k + 1) (k + 1) i1 = some r) : run_impl_isSmall [.one (.sc (.int .u8 i1))] [] = some r := lim_of ((impl_isSmall_eq k i1).trans h)
noncomputable def pl_impl_isFigure : List (Nat × Run) := []
noncomputable def G_impl_isFigure : Ctx := ctx tyTab fiTab pl_impl_isFigure
noncomputable def run_impl_isFigure : Run := lim G_impl_isFigure fid_impl_isFigure
theorem ok_impl_isFigure : FnOk Try.prog OkT fid_impl_isFigure run_impl_isFigure := lim_ok (l := pl_impl_isFigure) Try_mix tyTab_ok fiTab_ok okT .nil fid_impl_isFigure
noncomputable def impl_isFigure (k m : Nat) (i1 : Int) : Option Res :=
  cond (decide (i1 ≥ 48))
  (some ([.one (Cell.bool (decide (i1 ≤ 57)))], []))
  (some ([.one (Cell.bool false)], []))
theorem impl_isFigure_code (k m : Nat) (i1 : Int) : evC G_impl_isFigure fi_impl_isFigure (evF G_impl_isFigure (k + 1)) m fi_impl_isFigure.code none (retK G_impl_isFigure fi_impl_isFigure) (enter fi_impl_isFigure [.one (.sc (.int .u8 i1))] []) = impl_isFigure (k + 1) m i1 := by
  kernel_rfl
theorem impl_isFigure_eq (k : Nat) (i1 : Int) : evF G_impl_isFigure (k + 2) fid_impl_isFigure [.one (.sc (.int .u8 i1))] [] = impl_isFigure (k + 1) (k + 1) i1 :=
  Eq.trans (by kernel_rfl) (impl_isFigure_code k (k + 1) i1)
theorem run_impl_isFigure_of {i1 : Int} {r : Res} (k : Nat) (h : impl_isFigure (k + 1) (k + 1) i1 = some r) : run_impl_isFigure [.one (.sc (.int .u8 i1))] [] = some r := lim_of ((impl_isFigure_eq k i1).trans h)
noncomputable def pl_impl_inRange : List (Nat × Run) := []
noncomputable def G_impl_inRange : Ctx := ctx tyTab fiTab pl_impl_inRange
noncomputable def run_impl_inRange : Run := lim G_impl_inRange fid_impl_inRange
theorem ok_impl_inRange : FnOk Try.prog OkT fid_impl_inRange run_impl_inRange := lim_ok (l := pl_impl_inRange) Try_mix tyTab_ok fiTab_ok okT .nil fid_impl_inRange
noncomputable def impl_inRange (k m : Nat) (i1 : Int) (i2 : Int) (i3 : Int) : Option Res :=
  cond (decide (i1 ≥ i2))
  (some ([.one (Cell.bool (decide (i1 ≤ i3)))], []))
  (some ([.one (Cell.bool false)], []))
theorem impl_inRange_code (k m : Nat) (i1 : Int) (i2 : Int) (i3 : Int) : evC G_impl_inRange fi_impl_inRange (evF G_impl_inRange (k + 1)) m fi_impl_inRange.code none (retK G_impl_inRange fi_impl_inRange) (enter fi_impl_inRange [.one (Cell.int i1), .one (Cell.int i2), .one (Cell.int i3)] []) = impl_inRange (k + 1) m i1 i2 i3 := by
  kernel_rfl
theorem impl_inRange_eq (k : Nat) (i1 : Int) (i2 : Int) (i3 : Int) : evF G_impl_inRange (k + 2) fid_impl_inRange [.one (Cell.int i1), .one (Cell.int i2), .one (Cell.int i3)] [] = impl_inRange (k + 1) (k + 1) i1 i2 i3 :=
  Eq.trans (by kernel_rfl) (impl_inRange_code k (k + 1) i1 i2 i3)
theorem run_impl_inRange_of {i1 : Int} {i2 : Int} {i3 : Int} {r : Res} (k : Nat) (h : impl_inRange (k + 1) (k + 1) i1 i2 i3 = some r) : run_impl_inRange [.one (Cell.int i1), .one (Cell.int i2), .one (Cell.int i3)] [] = some r := lim_of ((impl_inRange_eq k i1 i2 i3).trans h)
noncomputable def pl_impl_NameOk : List (Nat × Run) := [(fid_impl_isSmall, run_impl_isSmall), (fid_impl_isFigure, run_impl_isFigure), (fid_impl_inRange, run_impl_inRange)]
noncomputable def G_impl_NameOk : Ctx := ctx tyTab fiTab pl_impl_NameOk
noncomputable def run_impl_NameOk : Run := lim G_impl_NameOk fid_impl_NameOk
theorem ok_impl_NameOk : FnOk Try.prog OkT fid_impl_NameOk run_impl_NameOk := lim_ok (l := pl_impl_NameOk) Try_mix tyTab_ok fiTab_ok okT (.cons ok_impl_isSmall (.cons ok_impl_isFigure (.cons ok_impl_inRange .nil))) fid_impl_NameOk
noncomputable def impl_NameOk_l0 (k m : Nat) : Nat → ByteArray → Int → Option Res
  | 0, _, _ => none
  | n + 1, s2, i3 =>
    cond (decide (i3 < (s2.size : Int)))
    ((bytS s2 i3).bind fun i4 =>
    (callS run_impl_isSmall [.one (.sc (.int .u8 i4))] []).bind fun r5 =>
    cond (shapeOk rk_impl_isSmall r5)
    ((cB (cellsAt r5 0) 0).bind fun b6 =>
    cond (!b6)
    (cond (i3 == 0)
    (some ([.one (Cell.bool false)], []))
    ((bytS s2 i3).bind fun i7 =>
    (callS run_impl_isFigure [.one (.sc (.int .u8 i7))] []).bind fun r8 =>
    cond (shapeOk rk_impl_isFigure r8)
    ((cB (cellsAt r8 0) 0).bind fun b9 =>
    cond (!b9)
    ((bytS s2 i3).bind fun i10 =>
    cond (i10 != 45)
    (some ([.one (Cell.bool false)], []))
    (impl_NameOk_l0 k m n s2 (IntKind.i64.wrap (i3 + 1))))
    (impl_NameOk_l0 k m n s2 (IntKind.i64.wrap (i3 + 1))))
    none))
    (impl_NameOk_l0 k m n s2 (IntKind.i64.wrap (i3 + 1))))
    none)
    ((callS run_impl_inRange [.one (Cell.int (s2.size : Int)), .one (Cell.int 1), .one (Cell.int 10)] []).bind fun r11 =>
    cond (shapeOk rk_impl_inRange r11)
    ((cB (cellsAt r11 0) 0).bind fun b12 =>
    some ([.one (Cell.bool b12)], []))
    none)
noncomputable def impl_NameOk (k m : Nat) (s1 : ByteArray) : Option Res :=
  impl_NameOk_l0 k m m s1 0
noncomputable abbrev impl_NameOk_l0_B (k m : Nat) : (Ex → Fr → Option Res) → Fr → Option Res := evC G_impl_NameOk fi_impl_NameOk (evF G_impl_NameOk (k + 1)) m (sub [1, 0, 1, 2, 3] fi_impl_NameOk.code) none
noncomputable abbrev impl_NameOk_l0_K (k m : Nat) : Ex → Fr → Option Res := blockK 0 (seqK (evC G_impl_NameOk fi_impl_NameOk (evF G_impl_NameOk (k + 1)) m (sub [1, 1] fi_impl_NameOk.code) none) (retK G_impl_NameOk fi_impl_NameOk))
theorem impl_NameOk_l0_eq (k m : Nat) : ∀ (n : Nat) (s2 : ByteArray) (i3 : Int), loopK (some [0, 3]) (impl_NameOk_l0_B k m) (impl_NameOk_l0_K k m) n ⟨fT 35 0 [(0, .av (.one (Cell.str s2))), (3, .av (.one (Cell.int i3)))], fX 35 0 [], []⟩ = impl_NameOk_l0 (k + 1) m n s2 i3 := by
  intro n
  induction n with
  | zero => intros; rfl
  | succ n ih =>
    intros
    simp only [impl_NameOk_l0, ← ih]
    kernel_rfl
theorem impl_NameOk_code (k m : Nat) (s1 : ByteArray) : evC G_impl_NameOk fi_impl_NameOk (evF G_impl_NameOk (k + 1)) m fi_impl_NameOk.code none (retK G_impl_NameOk fi_impl_NameOk) (enter fi_impl_NameOk [.one (Cell.str s1)] []) = impl_NameOk (k + 1) m s1 := by
  simp only [impl_NameOk, ← impl_NameOk_l0_eq k m]
  kernel_rfl
theorem impl_NameOk_eq (k : Nat) (s1 : ByteArray) : evF G_impl_NameOk (k + 2) fid_impl_NameOk [.one (Cell.str s1)] [] = impl_NameOk (k + 1) (k + 1) s1 :=
  Eq.trans (by kernel_rfl) (impl_NameOk_code k (k + 1) s1)
theorem run_impl_NameOk_of {s1 : ByteArray} {r : Res} (k : Nat) (h : impl_NameOk (k + 1) (k + 1) s1 = some r) : run_impl_NameOk [.one (Cell.str s1)] [] = some r := lim_of ((impl_NameOk_eq k s1).trans h)
noncomputable def pl_internal_stringslite_HasPrefix : List (Nat × Run) := []
noncomputable def G_internal_stringslite_HasPrefix : Ctx := ctx tyTab fiTab pl_internal_stringslite_HasPrefix
noncomputable def run_internal_stringslite_HasPrefix : Run := lim G_internal_stringslite_HasPrefix fid_internal_stringslite_HasPrefix
theorem ok_internal_stringslite_HasPrefix : FnOk Try.prog OkT fid_internal_stringslite_HasPrefix run_internal_stringslite_HasPrefix := lim_ok (l := pl_internal_stringslite_HasPrefix) Try_mix tyTab_ok fiTab_ok okT .nil fid_internal_stringslite_HasPrefix
noncomputable def internal_stringslite_HasPrefix (k m : Nat) (s1 : ByteArray) (s2 : ByteArray) : Option Res :=
  cond (decide ((s1.size : Int) ≥ (s2.size : Int)))
  ((subS s1 0 (s2.size : Int)).bind fun s3 =>
  some ([.one (Cell.bool (s3.toList == s2.toList))], []))
  (some ([.one (Cell.bool false)], []))
theorem internal_stringslite_HasPrefix_code (k m : Nat) (s1 : ByteArray) (s2 : ByteArray) : evC G_internal_stringslite_HasPrefix fi_internal_stringslite_HasPrefix (evF G_internal_stringslite_HasPrefix (k + 1)) m fi_internal_stringslite_HasPrefix.code none (retK G_internal_stringslite_HasPrefix fi_internal_stringslite_HasPrefix) (enter fi_internal_stringslite_HasPrefix [.one (Cell.str s1), .one (Cell.str s2)] []) = internal_stringslite_HasPrefix (k + 1) m s1 s2 := by
  kernel_rfl
theorem internal_stringslite_HasPrefix_eq (k : Nat) (s1 : ByteArray) (s2 : ByteArray) : evF G_internal_stringslite_HasPrefix (k + 2) fid_internal_stringslite_HasPrefix [.one (Cell.str s1), .one (Cell.str s2)] [] = internal_stringslite_HasPrefix (k + 1) (k + 1) s1 s2 :=
  Eq.trans (by kernel_rfl) (internal_stringslite_HasPrefix_code k (k + 1) s1 s2)
theorem run_internal_stringslite_HasPrefix_of {s1 : ByteArray} {s2 : ByteArray} {r : Res} (k : Nat) (h : internal_stringslite_HasPrefix (k + 1) (k + 1) s1 s2 = some r) : run_internal_stringslite_HasPrefix [.one (Cell.str s1), .one (Cell.str s2)] [] = some r := lim_of ((internal_stringslite_HasPrefix_eq k s1 s2).trans h)
noncomputable def pl_internal_stringslite_TrimPrefix : List (Nat × Run) := [(fid_internal_stringslite_HasPrefix, run_internal_stringslite_HasPrefix)]
noncomputable def G_internal_stringslite_TrimPrefix : Ctx := ctx tyTab fiTab pl_internal_stringslite_TrimPrefix
noncomputable def run_internal_stringslite_TrimPrefix : Run := lim G_internal_stringslite_TrimPrefix fid_internal_stringslite_TrimPrefix
theorem ok_internal_stringslite_TrimPrefix : FnOk Try.prog OkT fid_internal_stringslite_TrimPrefix run_internal_stringslite_TrimPrefix := lim_ok (l := pl_internal_stringslite_TrimPrefix) Try_mix tyTab_ok fiTab_ok okT (.cons ok_internal_stringslite_HasPrefix .nil) fid_internal_stringslite_TrimPrefix
noncomputable def internal_stringslite_TrimPrefix (k m : Nat) (s1 : ByteArray) (s2 : ByteArray) : Option Res :=
  (callS run_internal_stringslite_HasPrefix [.one (Cell.str s1), .one (Cell.str s2)] []).bind fun r3 =>
  cond (shapeOk rk_internal_stringslite_HasPrefix r3)
  ((cB (cellsAt r3 0) 0).bind fun b4 =>
  cond b4
  ((subS s1 (s2.size : Int) (s1.size : Int)).bind fun s5 =>
  some ([.one (Cell.str s5)], []))
  (some ([.one (Cell.str s1)], [])))
  none
theorem internal_stringslite_TrimPrefix_code (k m : Nat) (s1 : ByteArray) (s2 : ByteArray) : evC G_internal_stringslite_TrimPrefix fi_internal_stringslite_TrimPrefix (evF G_internal_stringslite_TrimPrefix (k + 1)) m fi_internal_stringslite_TrimPrefix.code none (retK G_internal_stringslite_TrimPrefix fi_internal_stringslite_TrimPrefix) (enter fi_internal_stringslite_TrimPrefix [.one (Cell.str s1), .one (Cell.str s2)] []) = internal_stringslite_TrimPrefix (k + 1) m s1 s2 := by
  kernel_rfl
theorem internal_stringslite_TrimPrefix_eq (k : Nat) (s1 : ByteArray) (s2 : ByteArray) : evF G_internal_stringslite_TrimPrefix (k + 2) fid_internal_stringslite_TrimPrefix [.one (Cell.str s1), .one (Cell.str s2)] [] = internal_stringslite_TrimPrefix (k + 1) (k + 1) s1 s2 :=
  Eq.trans (by kernel_rfl) (internal_stringslite_TrimPrefix_code k (k + 1) s1 s2)
theorem run_internal_stringslite_TrimPrefix_of {s1 : ByteArray} {s2 : ByteArray} {r : Res} (k : Nat) (h : internal_stringslite_TrimPrefix (k + 1) (k + 1) s1 s2 = some r) : run_internal_stringslite_TrimPrefix [.one (Cell.str s1), .one (Cell.str s2)] [] = some r := lim_of ((internal_stringslite_TrimPrefix_eq k s1 s2).trans h)
noncomputable def pl_strings_TrimPrefix : List (Nat × Run) := [(fid_internal_stringslite_TrimPrefix, run_internal_stringslite_TrimPrefix)]
noncomputable def G_strings_TrimPrefix : Ctx := ctx tyTab fiTab pl_strings_TrimPrefix
noncomputable def run_strings_TrimPrefix : Run := lim G_strings_TrimPrefix fid_strings_TrimPrefix
theorem ok_strings_TrimPrefix : FnOk Try.prog OkT fid_strings_TrimPrefix run_strings_TrimPrefix := lim_ok (l := pl_strings_TrimPrefix) Try_mix tyTab_ok fiTab_ok okT (.cons ok_internal_stringslite_TrimPrefix .nil) fid_strings_TrimPrefix
noncomputable def strings_TrimPrefix (k m : Nat) (s1 : ByteArray) (s2 : ByteArray) : Option Res :=
  (callS run_internal_stringslite_TrimPrefix [.one (Cell.str s1), .one (Cell.str s2)] []).bind fun r3 =>
  cond (shapeOk rk_internal_stringslite_TrimPrefix r3)
  ((cS (cellsAt r3 0) 0).bind fun s4 =>
  some ([.one (Cell.str s4)], []))
  none
theorem strings_TrimPrefix_code (k m : Nat) (s1 : ByteArray) (s2 : ByteArray) : evC G_strings_TrimPrefix fi_strings_TrimPrefix (evF G_strings_TrimPrefix (k + 1)) m fi_strings_TrimPrefix.code none (retK G_strings_TrimPrefix fi_strings_TrimPrefix) (enter fi_strings_TrimPrefix [.one (Cell.str s1), .one (Cell.str s2)] []) = strings_TrimPrefix (k + 1) m s1 s2 := by
  kernel_rfl
theorem strings_TrimPrefix_eq (k : Nat) (s1 : ByteArray) (s2 : ByteArray) : evF G_strings_TrimPrefix (k + 2) fid_strings_TrimPrefix [.one (Cell.str s1), .one (Cell.str s2)] [] = strings_TrimPrefix (k + 1) (k + 1) s1 s2 :=
  Eq.trans (by kernel_rfl) (strings_TrimPrefix_code k (k + 1) s1 s2)
theorem run_strings_TrimPrefix_of {s1 : ByteArray} {s2 : ByteArray} {r : Res} (k : Nat) (h : strings_TrimPrefix (k + 1) (k + 1) s1 s2 = some r) : run_strings_TrimPrefix [.one (Cell.str s1), .one (Cell.str s2)] [] = some r := lim_of ((strings_TrimPrefix_eq k s1 s2).trans h)
noncomputable def pl_impl_OnOk : List (Nat × Run) := [(fid_strings_Cut, run_strings_Cut), (fid_impl_NameOk, run_impl_NameOk), (fid_strings_TrimPrefix, run_strings_TrimPrefix)]
noncomputable def G_impl_OnOk : Ctx := ctx tyTab fiTab pl_impl_OnOk
noncomputable def run_impl_OnOk : Run := lim G_impl_OnOk fid_impl_OnOk
theorem ok_impl_OnOk : FnOk Try.prog OkT fid_impl_OnOk run_impl_OnOk := lim_ok (l := pl_impl_OnOk) Try_mix tyTab_ok fiTab_ok okT (.cons ok_strings_Cut (.cons ok_impl_NameOk (.cons ok_strings_TrimPrefix .nil))) fid_impl_OnOk
noncomputable def impl_OnOk (k m : Nat) (s1 : ByteArray) : Option Res :=
  (callS run_strings_Cut [.one (Cell.str s1), .one (Cell.str (bs [35]))] []).bind fun r2 =>
  cond (shapeOk rk_strings_Cut r2)
  ((cS (cellsAt r2 0) 0).bind fun s3 =>
  (cS (cellsAt r2 1) 0).bind fun s4 =>
  (cB (cellsAt r2 2) 0).bind fun b5 =>
  cond b5
  ((callS run_impl_NameOk [.one (Cell.str s3)] []).bind fun r6 =>
  cond (shapeOk rk_impl_NameOk r6)
  ((cB (cellsAt r6 0) 0).bind fun b7 =>
  cond b7
  ((callS run_impl_NameOk [.one (Cell.str s4)] []).bind fun r8 =>
  cond (shapeOk rk_impl_NameOk r8)
  ((cB (cellsAt r8 0) 0).bind fun b9 =>
  some ([.one (Cell.bool b9)], []))
  none)
  (some ([.one (Cell.bool false)], [])))
  none)
  ((callS run_strings_TrimPrefix [.one (Cell.str s1), .one (Cell.str (bs [94]))] []).bind fun r10 =>
  cond (shapeOk rk_strings_TrimPrefix r10)
  ((cS (cellsAt r10 0) 0).bind fun s11 =>
  (callS run_impl_NameOk [.one (Cell.str s11)] []).bind fun r12 =>
  cond (shapeOk rk_impl_NameOk r12)
  ((cB (cellsAt r12 0) 0).bind fun b13 =>
  some ([.one (Cell.bool b13)], []))
  none)
  none))
  none
theorem impl_OnOk_code (k m : Nat) (s1 : ByteArray) : evC G_impl_OnOk fi_impl_OnOk (evF G_impl_OnOk (k + 1)) m fi_impl_OnOk.code none (retK G_impl_OnOk fi_impl_OnOk) (enter fi_impl_OnOk [.one (Cell.str s1)] []) = impl_OnOk (k + 1) m s1 := by
  kernel_rfl
theorem impl_OnOk_eq (k : Nat) (s1 : ByteArray) : evF G_impl_OnOk (k + 2) fid_impl_OnOk [.one (Cell.str s1)] [] = impl_OnOk (k + 1) (k + 1) s1 :=
  Eq.trans (by kernel_rfl) (impl_OnOk_code k (k + 1) s1)
theorem run_impl_OnOk_of {s1 : ByteArray} {r : Res} (k : Nat) (h : impl_OnOk (k + 1) (k + 1) s1 = some r) : run_impl_OnOk [.one (Cell.str s1)] [] = some r := lim_of ((impl_OnOk_eq k s1).trans h)
noncomputable def pl_laws_FnExactOnOk : List (Nat × Run) := [(fid_spec_OnOk, run_spec_OnOk), (fid_impl_OnOk, run_impl_OnOk)]
noncomputable def G_laws_FnExactOnOk : Ctx := ctx tyTab fiTab pl_laws_FnExactOnOk
noncomputable def run_laws_FnExactOnOk : Run := lim G_laws_FnExactOnOk fid_laws_FnExactOnOk
theorem ok_laws_FnExactOnOk : FnOk Try.prog OkT fid_laws_FnExactOnOk run_laws_FnExactOnOk := lim_ok (l := pl_laws_FnExactOnOk) Try_mix tyTab_ok fiTab_ok okT (.cons ok_spec_OnOk (.cons ok_impl_OnOk .nil)) fid_laws_FnExactOnOk
noncomputable def laws_FnExactOnOk (k m : Nat) (s1 : ByteArray) : Option Res :=
  cond (decide ((s1.size : Int) > 1048576))
  (some ([.one (Cell.bool true)], []))
  ((callS run_spec_OnOk [.one (Cell.str s1)] []).bind fun r2 =>
  cond (shapeOk rk_spec_OnOk r2)
  ((cB (cellsAt r2 0) 0).bind fun b3 =>
  (callS run_impl_OnOk [.one (Cell.str s1)] []).bind fun r4 =>
  cond (shapeOk rk_impl_OnOk r4)
  ((cB (cellsAt r4 0) 0).bind fun b5 =>
  cond (!(b5 == b3))
  (some ([.one (Cell.bool false)], []))
  (some ([.one (Cell.bool true)], [])))
  none)
  none)
theorem laws_FnExactOnOk_code (k m : Nat) (s1 : ByteArray) : evC G_laws_FnExactOnOk fi_laws_FnExactOnOk (evF G_laws_FnExactOnOk (k + 1)) m fi_laws_FnExactOnOk.code none (retK G_laws_FnExactOnOk fi_laws_FnExactOnOk) (enter fi_laws_FnExactOnOk [.one (Cell.str s1)] []) = laws_FnExactOnOk (k + 1) m s1 := by
  kernel_rfl
theorem laws_FnExactOnOk_eq (k : Nat) (s1 : ByteArray) : evF G_laws_FnExactOnOk (k + 2) fid_laws_FnExactOnOk [.one (Cell.str s1)] [] = laws_FnExactOnOk (k + 1) (k + 1) s1 :=
  Eq.trans (by kernel_rfl) (laws_FnExactOnOk_code k (k + 1) s1)
theorem run_laws_FnExactOnOk_of {s1 : ByteArray} {r : Res} (k : Nat) (h : laws_FnExactOnOk (k + 1) (k + 1) s1 = some r) : run_laws_FnExactOnOk [.one (Cell.str s1)] [] = some r := lim_of ((laws_FnExactOnOk_eq k s1).trans h)
end Go.Ev
