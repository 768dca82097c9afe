/- What the evaluator says of the functions, each as a Lean function over cells. Printed by a program of this claim. Conditions: none. -/
import Derived.Test.YtiocamjonchabaaDoorSh0
import Derived.KernelRfl
namespace Go.Ev
open Go Go.Proofs
set_option maxRecDepth 100000
set_option linter.unusedVariables false
set_option linter.unusedSimpArgs false
noncomputable def pl_strings_genSplit : List (Nat × Run) := [(fid_strings_explode, run_strings_explode), (fid_strings_Count, run_strings_Count), (fid_strings_Index, run_strings_Index)]
noncomputable def G_strings_genSplit : Ctx := ctx tyTab fiTab pl_strings_genSplit
noncomputable def run_strings_genSplit : Run := lim G_strings_genSplit fid_strings_genSplit
theorem ok_strings_genSplit : FnOk Tryd.prog OkT fid_strings_genSplit run_strings_genSplit := lim_ok (l := pl_strings_genSplit) Tryd_mix tyTab_ok fiTab_ok okT (.cons ok_strings_explode (.cons ok_strings_Count (.cons ok_strings_Index .nil))) fid_strings_genSplit
noncomputable def strings_genSplit_l0 (k m : Nat) : Nat → ByteArray → ByteArray → Int → Int → Cell → Int → List Entry → Option Res
  | 0, _, _, _, _, _, _, _ => none
  | n + 1, s9, s10, i11, i12, c13, i14, H15 =>
    cond (decide (i14 < i12))
    ((callS run_strings_Index [.one (Cell.str s9), .one (Cell.str s10)] H15).bind fun r16 =>
    cond (shapeOk rk_strings_Index r16)
    ((cI .i64 (cellsAt r16 0) 0).bind fun i17 =>
    cond (decide (i17 < 0))
    ((idxA 1 (c13) i14).bind fun c18 =>
    (hStore H15 (c18) [Cell.str s9]).bind fun h19 =>
    (slcC 1 (c13) 0 (some (IntKind.i64.wrap (i14 + 1))) none).bind fun c20 =>
    some ([.one (c20)], h19))
    ((subS s9 0 (IntKind.i64.wrap (i17 + i11))).bind fun s21 =>
    (idxA 1 (c13) i14).bind fun c22 =>
    (hStore H15 (c22) [Cell.str s21]).bind fun h23 =>
    (subS s9 (IntKind.i64.wrap (i17 + (s10.size : Int))) (s9.size : Int)).bind fun s24 =>
    strings_genSplit_l0 k m n s24 s10 i11 i12 (c13) (IntKind.i64.wrap (i14 + 1)) h23))
    none)
    ((idxA 1 (c13) i14).bind fun c25 =>
    (hStore H15 (c25) [Cell.str s9]).bind fun h26 =>
    (slcC 1 (c13) 0 (some (IntKind.i64.wrap (i14 + 1))) none).bind fun c27 =>
    some ([.one (c27)], h26))
noncomputable def strings_genSplit (k m : Nat) (s1 : ByteArray) (s2 : ByteArray) (i3 : Int) (i4 : Int) : Option Res :=
  cond (i4 == 0)
  (some ([.one (.lst true 1 [])], []))
  (cond (s2.toList == (bs []).toList)
  ((callL run_strings_explode [.one (Cell.str s1), .one (Cell.int i4)] []).bind fun r5 =>
  cond (shapeOk rk_strings_explode r5.1)
  ((cC (cellsAt r5.1 0) 0).bind fun c6 =>
  some ([.one (c6)], r5.2))
  none)
  (cond (decide (i4 < 0))
  ((callS run_strings_Count [.one (Cell.str s1), .one (Cell.str s2)] []).bind fun r7 =>
  cond (shapeOk rk_strings_Count r7)
  ((cI .i64 (cellsAt r7 0) 0).bind fun i8 =>
  if 0 ≤ (if (IntKind.i64.wrap ((s1.size : Int) + 1)) < (IntKind.i64.wrap (i8 + 1)) then (IntKind.i64.wrap ((s1.size : Int) + 1)) else (IntKind.i64.wrap (i8 + 1))) ∧ (if (IntKind.i64.wrap ((s1.size : Int) + 1)) < (IntKind.i64.wrap (i8 + 1)) then (IntKind.i64.wrap ((s1.size : Int) + 1)) else (IntKind.i64.wrap (i8 + 1))) ≤ (if (IntKind.i64.wrap ((s1.size : Int) + 1)) < (IntKind.i64.wrap (i8 + 1)) then (IntKind.i64.wrap ((s1.size : Int) + 1)) else (IntKind.i64.wrap (i8 + 1))) ∧ (if (IntKind.i64.wrap ((s1.size : Int) + 1)) < (IntKind.i64.wrap (i8 + 1)) then (IntKind.i64.wrap ((s1.size : Int) + 1)) else (IntKind.i64.wrap (i8 + 1))) * 16 ≤ bound ∧ (if (IntKind.i64.wrap ((s1.size : Int) + 1)) < (IntKind.i64.wrap (i8 + 1)) then (IntKind.i64.wrap ((s1.size : Int) + 1)) else (IntKind.i64.wrap (i8 + 1))) ≤ bound then
  (strings_genSplit_l0 k m m s1 s2 i3 (IntKind.i64.wrap ((if (IntKind.i64.wrap ((s1.size : Int) + 1)) < (IntKind.i64.wrap (i8 + 1)) then (IntKind.i64.wrap ((s1.size : Int) + 1)) else (IntKind.i64.wrap (i8 + 1))) - 1)) ((.vs 0 1 0 (if (IntKind.i64.wrap ((s1.size : Int) + 1)) < (IntKind.i64.wrap (i8 + 1)) then (IntKind.i64.wrap ((s1.size : Int) + 1)) else (IntKind.i64.wrap (i8 + 1))).toNat 0)) 0 [Entry.mk 1 (mkRows (if (IntKind.i64.wrap ((s1.size : Int) + 1)) < (IntKind.i64.wrap (i8 + 1)) then (IntKind.i64.wrap ((s1.size : Int) + 1)) else (IntKind.i64.wrap (i8 + 1))).toNat [Cell.str (bs [])]) 0 false]) else none)
  none)
  (if 0 ≤ (if (IntKind.i64.wrap ((s1.size : Int) + 1)) < i4 then (IntKind.i64.wrap ((s1.size : Int) + 1)) else i4) ∧ (if (IntKind.i64.wrap ((s1.size : Int) + 1)) < i4 then (IntKind.i64.wrap ((s1.size : Int) + 1)) else i4) ≤ (if (IntKind.i64.wrap ((s1.size : Int) + 1)) < i4 then (IntKind.i64.wrap ((s1.size : Int) + 1)) else i4) ∧ (if (IntKind.i64.wrap ((s1.size : Int) + 1)) < i4 then (IntKind.i64.wrap ((s1.size : Int) + 1)) else i4) * 16 ≤ bound ∧ (if (IntKind.i64.wrap ((s1.size : Int) + 1)) < i4 then (IntKind.i64.wrap ((s1.size : Int) + 1)) else i4) ≤ bound then
  (strings_genSplit_l0 k m m s1 s2 i3 (IntKind.i64.wrap ((if (IntKind.i64.wrap ((s1.size : Int) + 1)) < i4 then (IntKind.i64.wrap ((s1.size : Int) + 1)) else i4) - 1)) ((.vs 0 1 0 (if (IntKind.i64.wrap ((s1.size : Int) + 1)) < i4 then (IntKind.i64.wrap ((s1.size : Int) + 1)) else i4).toNat 0)) 0 [Entry.mk 1 (mkRows (if (IntKind.i64.wrap ((s1.size : Int) + 1)) < i4 then (IntKind.i64.wrap ((s1.size : Int) + 1)) else i4).toNat [Cell.str (bs [])]) 0 false]) else none)))
noncomputable abbrev strings_genSplit_l0_B (k m : Nat) : (Ex → Fr → Option Res) → Fr → Option Res := evC G_strings_genSplit fi_strings_genSplit (evF G_strings_genSplit (k + 1)) m (sub [1, 1, 1, 1, 1, 1, 1, 1, 0, 2, 3] fi_strings_genSplit.code) none
noncomputable abbrev strings_genSplit_l0_K (k m : Nat) : Ex → Fr → Option Res := blockK 0 (seqK (evC G_strings_genSplit fi_strings_genSplit (evF G_strings_genSplit (k + 1)) m (sub [1, 1, 1, 1, 1, 1, 1, 1, 1] fi_strings_genSplit.code) none) (retK G_strings_genSplit fi_strings_genSplit))
theorem strings_genSplit_l0_eq (k m : Nat) : ∀ (n : Nat) (s9 : ByteArray) (s10 : ByteArray) (i11 : Int) (i12 : Int) (c13 : Cell) (i14 : Int) (H15 : List Entry), loopK (some [0, 1, 2, 3, 9, 10]) (strings_genSplit_l0_B k m) (strings_genSplit_l0_K k m) n ⟨fT 66 0 [(0, .av (.one (Cell.str s9))), (1, .av (.one (Cell.str s10))), (2, .av (.one (Cell.int i11))), (3, .av (.one (Cell.int i12))), (9, .av (.one (c13))), (10, .av (.one (Cell.int i14)))], fX 66 0 [], H15⟩ = strings_genSplit_l0 (k + 1) m n s9 s10 i11 i12 c13 i14 H15 := by
  intro n
  induction n with
  | zero => intros; rfl
  | succ n ih =>
    intros
    simp only [strings_genSplit_l0, ← ih]
    kernel_rfl
theorem strings_genSplit_code (k m : Nat) (s1 : ByteArray) (s2 : ByteArray) (i3 : Int) (i4 : Int) : evC G_strings_genSplit fi_strings_genSplit (evF G_strings_genSplit (k + 1)) m fi_strings_genSplit.code none (retK G_strings_genSplit fi_strings_genSplit) (enter fi_strings_genSplit [.one (Cell.str s1), .one (Cell.str s2), .one (Cell.int i3), .one (Cell.int i4)] []) = strings_genSplit (k + 1) m s1 s2 i3 i4 := by
  simp only [strings_genSplit, ← strings_genSplit_l0_eq k m]
  kernel_rfl
theorem strings_genSplit_eq (k : Nat) (s1 : ByteArray) (s2 : ByteArray) (i3 : Int) (i4 : Int) : evF G_strings_genSplit (k + 2) fid_strings_genSplit [.one (Cell.str s1), .one (Cell.str s2), .one (Cell.int i3), .one (Cell.int i4)] [] = strings_genSplit (k + 1) (k + 1) s1 s2 i3 i4 :=
  Eq.trans (by kernel_rfl) (strings_genSplit_code k (k + 1) s1 s2 i3 i4)
theorem run_strings_genSplit_of {s1 : ByteArray} {s2 : ByteArray} {i3 : Int} {i4 : Int} {r : Res} (k : Nat) (h : strings_genSplit (k + 1) (k + 1) s1 s2 i3 i4 = some r) : run_strings_genSplit [.one (Cell.str s1), .one (Cell.str s2), .one (Cell.int i3), .one (Cell.int i4)] [] = some r := lim_of ((strings_genSplit_eq k s1 s2 i3 i4).trans h)
noncomputable def pl_strings_Split : List (Nat × Run) := [(fid_strings_genSplit, run_strings_genSplit)]
noncomputable def G_strings_Split : Ctx := ctx tyTab fiTab pl_strings_Split
noncomputable def run_strings_Split : Run := lim G_strings_Split fid_strings_Split
theorem ok_strings_Split : FnOk Tryd.prog OkT fid_strings_Split run_strings_Split := lim_ok (l := pl_strings_Split) Tryd_mix tyTab_ok fiTab_ok okT (.cons ok_strings_genSplit .nil) fid_strings_Split
noncomputable def strings_Split (k m : Nat) (s1 : ByteArray) (s2 : ByteArray) : Option Res :=
  (callL run_strings_genSplit [.one (Cell.str s1), .one (Cell.str s2), .one (Cell.int 0), .one (Cell.int (-1))] []).bind fun r3 =>
  cond (shapeOk rk_strings_genSplit r3.1)
  ((cC (cellsAt r3.1 0) 0).bind fun c4 =>
  some ([.one (c4)], r3.2))
  none
theorem strings_Split_code (k m : Nat) (s1 : ByteArray) (s2 : ByteArray) : evC G_strings_Split fi_strings_Split (evF G_strings_Split (k + 1)) m fi_strings_Split.code none (retK G_strings_Split fi_strings_Split) (enter fi_strings_Split [.one (Cell.str s1), .one (Cell.str s2)] []) = strings_Split (k + 1) m s1 s2 := by
  kernel_rfl
theorem strings_Split_eq (k : Nat) (s1 : ByteArray) (s2 : ByteArray) : evF G_strings_Split (k + 2) fid_strings_Split [.one (Cell.str s1), .one (Cell.str s2)] [] = strings_Split (k + 1) (k + 1) s1 s2 :=
  Eq.trans (by kernel_rfl) (strings_Split_code k (k + 1) s1 s2)
theorem run_strings_Split_of {s1 : ByteArray} {s2 : ByteArray} {r : Res} (k : Nat) (h : strings_Split (k + 1) (k + 1) s1 s2 = some r) : run_strings_Split [.one (Cell.str s1), .one (Cell.str s2)] [] = some r := lim_of ((strings_Split_eq k s1 s2).trans h)
noncomputable def pl_slices_Index_string : List (Nat × Run) := []
noncomputable def G_slices_Index_string : Ctx := ctx tyTab fiTab pl_slices_Index_string
noncomputable def run_slices_Index_string : Run := lim G_slices_Index_string fid_slices_Index_string
theorem ok_slices_Index_string : FnOk Tryd.prog OkT fid_slices_Index_string run_slices_Index_string := lim_ok (l := pl_slices_Index_string) Tryd_mix tyTab_ok fiTab_ok okT .nil fid_slices_Index_string
noncomputable def slices_Index_string_l0 (k m : Nat) : Nat → Cell → ByteArray → Int → Int → Option Res
  | 0, _, _, _, _ => none
  | n + 1, c4, s5, i6, i7 =>
    cond (decide (i7 < i6))
    ((idxA 1 (c4) i7).bind fun c8 =>
    (deref [] (c8)).bind fun p9 =>
    (cS p9.1 p9.2).bind fun s10 =>
    cond (s5.toList == s10.toList)
    (some ([.one (Cell.int i7)], []))
    (slices_Index_string_l0 k m n (c4) s5 i6 (IntKind.i64.wrap (i7 + 1))))
    (some ([.one (Cell.int (-1))], []))
noncomputable def slices_Index_string (k m : Nat) (c1 : Cell) (s2 : ByteArray) : Option Res :=
  (lenC c1).bind fun n3 =>
  slices_Index_string_l0 k m m (c1) s2 (n3 : Int) 0
noncomputable abbrev slices_Index_string_l0_B (k m : Nat) : (Ex → Fr → Option Res) → Fr → Option Res := evC G_slices_Index_string fi_slices_Index_string (evF G_slices_Index_string (k + 1)) m (sub [1, 0, 1, 2, 3] fi_slices_Index_string.code) none
noncomputable abbrev slices_Index_string_l0_K (k m : Nat) : Ex → Fr → Option Res := blockK 0 (seqK (evC G_slices_Index_string fi_slices_Index_string (evF G_slices_Index_string (k + 1)) m (sub [1, 1] fi_slices_Index_string.code) none) (retK G_slices_Index_string fi_slices_Index_string))
theorem slices_Index_string_l0_eq (k m : Nat) : ∀ (n : Nat) (c4 : Cell) (s5 : ByteArray) (i6 : Int) (i7 : Int), loopK (some [0, 1, 7, 8]) (slices_Index_string_l0_B k m) (slices_Index_string_l0_K k m) n ⟨fT 19 0 [(0, .av (.one (c4))), (1, .av (.one (Cell.str s5))), (7, .av (.one (Cell.int i6))), (8, .av (.one (Cell.int i7)))], fX 19 0 [], []⟩ = slices_Index_string_l0 (k + 1) m n c4 s5 i6 i7 := by
  intro n
  induction n with
  | zero => intros; rfl
  | succ n ih =>
    intros
    simp only [slices_Index_string_l0, ← ih]
    kernel_rfl
theorem slices_Index_string_code (k m : Nat) (c1 : Cell) (s2 : ByteArray) : evC G_slices_Index_string fi_slices_Index_string (evF G_slices_Index_string (k + 1)) m fi_slices_Index_string.code none (retK G_slices_Index_string fi_slices_Index_string) (enter fi_slices_Index_string [.one (c1), .one (Cell.str s2)] []) = slices_Index_string (k + 1) m c1 s2 := by
  simp only [slices_Index_string, ← slices_Index_string_l0_eq k m]
  kernel_rfl
theorem slices_Index_string_eq (k : Nat) (c1 : Cell) (s2 : ByteArray) : evF G_slices_Index_string (k + 2) fid_slices_Index_string [.one (c1), .one (Cell.str s2)] [] = slices_Index_string (k + 1) (k + 1) c1 s2 :=
  Eq.trans (by kernel_rfl) (slices_Index_string_code k (k + 1) c1 s2)
theorem run_slices_Index_string_of {c1 : Cell} {s2 : ByteArray} {r : Res} (k : Nat) (h : slices_Index_string (k + 1) (k + 1) c1 s2 = some r) : run_slices_Index_string [.one (c1), .one (Cell.str s2)] [] = some r := lim_of ((slices_Index_string_eq k c1 s2).trans h)
noncomputable def pl_slices_Contains_string : List (Nat × Run) := [(fid_slices_Index_string, run_slices_Index_string)]
noncomputable def G_slices_Contains_string : Ctx := ctx tyTab fiTab pl_slices_Contains_string
noncomputable def run_slices_Contains_string : Run := lim G_slices_Contains_string fid_slices_Contains_string
theorem ok_slices_Contains_string : FnOk Tryd.prog OkT fid_slices_Contains_string run_slices_Contains_string := lim_ok (l := pl_slices_Contains_string) Tryd_mix tyTab_ok fiTab_ok okT (.cons ok_slices_Index_string .nil) fid_slices_Contains_string
noncomputable def slices_Contains_string (k m : Nat) (c1 : Cell) (s2 : ByteArray) : Option Res :=
  (callS run_slices_Index_string [.one (c1), .one (Cell.str s2)] []).bind fun r3 =>
  cond (shapeOk rk_slices_Index_string r3)
  ((cI .i64 (cellsAt r3 0) 0).bind fun i4 =>
  some ([.one (Cell.bool (decide (i4 ≥ 0)))], []))
  none
theorem slices_Contains_string_code (k m : Nat) (c1 : Cell) (s2 : ByteArray) : evC G_slices_Contains_string fi_slices_Contains_string (evF G_slices_Contains_string (k + 1)) m fi_slices_Contains_string.code none (retK G_slices_Contains_string fi_slices_Contains_string) (enter fi_slices_Contains_string [.one (c1), .one (Cell.str s2)] []) = slices_Contains_string (k + 1) m c1 s2 := by
  kernel_rfl
theorem slices_Contains_string_eq (k : Nat) (c1 : Cell) (s2 : ByteArray) : evF G_slices_Contains_string (k + 2) fid_slices_Contains_string [.one (c1), .one (Cell.str s2)] [] = slices_Contains_string (k + 1) (k + 1) c1 s2 :=
  Eq.trans (by kernel_rfl) (slices_Contains_string_code k (k + 1) c1 s2)
theorem run_slices_Contains_string_of {c1 : Cell} {s2 : ByteArray} {r : Res} (k : Nat) (h : slices_Contains_string (k + 1) (k + 1) c1 s2 = some r) : run_slices_Contains_string [.one (c1), .one (Cell.str s2)] [] = some r := lim_of ((slices_Contains_string_eq k c1 s2).trans h)
noncomputable def pl_impl_inRange : List (Nat × Run) := []
noncomputable def G_impl_inRange : Ctx := ctx tyTab fiTab pl_impl_inRange
noncomputable def run_impl_inRange : Run := lim G_impl_inRange fid_impl_inRange
theorem ok_impl_inRange : FnOk Tryd.prog OkT fid_impl_inRange run_impl_inRange := lim_ok (l := pl_impl_inRange) Tryd_mix tyTab_ok fiTab_ok okT .nil fid_impl_inRange
noncomputable def impl_inRange (k m : Nat) (i1 : Int) (i2 : Int) (i3 : Int) : Option Res :=
  cond (decide (i1 ≥ i2))
  (some ([.one (Cell.bool (decide (i1 ≤ i3)))], []))
  (some ([.one (Cell.bool false)], []))
theorem impl_inRange_code (k m : Nat) (i1 : Int) (i2 : Int) (i3 : Int) : evC G_impl_inRange fi_impl_inRange (evF G_impl_inRange (k + 1)) m fi_impl_inRange.code none (retK G_impl_inRange fi_impl_inRange) (enter fi_impl_inRange [.one (Cell.int i1), .one (Cell.int i2), .one (Cell.int i3)] []) = impl_inRange (k + 1) m i1 i2 i3 := by
  kernel_rfl
theorem impl_inRange_eq (k : Nat) (i1 : Int) (i2 : Int) (i3 : Int) : evF G_impl_inRange (k + 2) fid_impl_inRange [.one (Cell.int i1), .one (Cell.int i2), .one (Cell.int i3)] [] = impl_inRange (k + 1) (k + 1) i1 i2 i3 :=
  Eq.trans (by kernel_rfl) (impl_inRange_code k (k + 1) i1 i2 i3)
theorem run_impl_inRange_of {i1 : Int} {i2 : Int} {i3 : Int} {r : Res} (k : Nat) (h : impl_inRange (k + 1) (k + 1) i1 i2 i3 = some r) : run_impl_inRange [.one (Cell.int i1), .one (Cell.int i2), .one (Cell.int i3)] [] = some r := lim_of ((impl_inRange_eq k i1 i2 i3).trans h)
noncomputable def pl_impl_isFigure : List (Nat × Run) := []
noncomputable def G_impl_isFigure : Ctx := ctx tyTab fiTab pl_impl_isFigure
noncomputable def run_impl_isFigure : Run := lim G_impl_isFigure fid_impl_isFigure
theorem ok_impl_isFigure : FnOk Tryd.prog OkT fid_impl_isFigure run_impl_isFigure := lim_ok (l := pl_impl_isFigure) Tryd_mix tyTab_ok fiTab_ok okT .nil fid_impl_isFigure
noncomputable def impl_isFigure (k m : Nat) (i1 : Int) : Option Res :=
  cond (decide (i1 ≥ 48))
  (some ([.one (Cell.bool (decide (i1 ≤ 57)))], []))
  (some ([.one (Cell.bool false)], []))
theorem impl_isFigure_code (k m : Nat) (i1 : Int) : evC G_impl_isFigure fi_impl_isFigure (evF G_impl_isFigure (k + 1)) m fi_impl_isFigure.code none (retK G_impl_isFigure fi_impl_isFigure) (enter fi_impl_isFigure [.one (.sc (.int .u8 i1))] []) = impl_isFigure (k + 1) m i1 := by
  kernel_rfl
theorem impl_isFigure_eq (k : Nat) (i1 : Int) : evF G_impl_isFigure (k + 2) fid_impl_isFigure [.one (.sc (.int .u8 i1))] [] = impl_isFigure (k + 1) (k + 1) i1 :=
  Eq.trans (by kernel_rfl) (impl_isFigure_code k (k + 1) i1)
theorem run_impl_isFigure_of {i1 : Int} {r : Res} (k : Nat) (h : impl_isFigure (k + 1) (k + 1) i1 = some r) : run_impl_isFigure [.one (.sc (.int .u8 i1))] [] = some r := lim_of ((impl_isFigure_eq k i1).trans h)
noncomputable def pl_impl_isSmall : List (Nat × Run) := []
noncomputable def G_impl_isSmall : Ctx := ctx tyTab fiTab pl_impl_isSmall
noncomputable def run_impl_isSmall : Run := lim G_impl_isSmall fid_impl_isSmall
theorem ok_impl_isSmall : FnOk Tryd.prog OkT fid_impl_isSmall run_impl_isSmall := lim_ok (l := pl_impl_isSmall) Tryd_mix tyTab_ok fiTab_ok okT .nil fid_impl_isSmall
noncomputable def impl_isSmall (k m : Nat) (i1 : Int) : Option Res :=
  cond (decide (i1 ≥ 97))
  (some ([.one (Cell.bool (decide (i1 ≤ 122)))], []))
  (some ([.one (Cell.bool false)], []))
theorem impl_isSmall_code (k m : Nat) (i1 : Int) : evC G_impl_isSmall fi_impl_isSmall (evF G_impl_isSmall (k + 1)) m fi_impl_isSmall.code none (retK G_impl_isSmall fi_impl_isSmall) (enter fi_impl_isSmall [.one (.sc (.int .u8 i1))] []) = impl_isSmall (k + 1) m i1 := by
  kernel_rfl
theorem impl_isSmall_eq (k : Nat) (i1 : Int) : evF G_impl_isSmall (k + 2) fid_impl_isSmall [.one (.sc (.int .u8 i1))] [] = impl_isSmall (k + 1) (k + 1) i1 :=
  Eq.trans (by kernel_rfl) (impl_isSmall_code k (k + 1) i1)
theorem run_impl_isSmall_of {i1 : Int} {r : Res} (k : Nat) (h : impl_isSmall (k + 1) (k + 1) i1 = some r) : run_impl_isSmall [.one (.sc (.int .u8 i1))] [] = some r := lim_of ((impl_isSmall_eq k i1).trans h)
noncomputable def pl_impl_isPathByte : List (Nat × Run) := [(fid_impl_isFigure, run_impl_isFigure), (fid_impl_isSmall, run_impl_isSmall)]
noncomputable def G_impl_isPathByte : Ctx := ctx tyTab fiTab pl_impl_isPathByte
noncomputable def run_impl_isPathByte : Run := lim G_impl_isPathByte fid_impl_isPathByte
theorem ok_impl_isPathByte : FnOk Tryd.prog OkT fid_impl_isPathByte run_impl_isPathByte := lim_ok (l := pl_impl_isPathByte) Tryd_mix tyTab_ok fiTab_ok okT (.cons ok_impl_isFigure (.cons ok_impl_isSmall .nil)) fid_impl_isPathByte
noncomputable def impl_isPathByte (k m : Nat) (i1 : Int) : Option Res :=
  (callS run_impl_isSmall [.one (.sc (.int .u8 i1))] []).bind fun r2 =>
  cond (shapeOk rk_impl_isSmall r2)
  ((cB (cellsAt r2 0) 0).bind fun b3 =>
  cond b3
  (some ([.one (Cell.bool true)], []))
  ((callS run_impl_isFigure [.one (.sc (.int .u8 i1))] []).bind fun r4 =>
  cond (shapeOk rk_impl_isFigure r4)
  ((cB (cellsAt r4 0) 0).bind fun b5 =>
  cond b5
  (some ([.one (Cell.bool true)], []))
  (cond (i1 == 46)
  (some ([.one (Cell.bool true)], []))
  (cond (i1 == 45)
  (some ([.one (Cell.bool true)], []))
  (some ([.one (Cell.bool (i1 == 95))], [])))))
  none))
  none
theorem impl_isPathByte_code (k m : Nat) (i1 : Int) : evC G_impl_isPathByte fi_impl_isPathByte (evF G_impl_isPathByte (k + 1)) m fi_impl_isPathByte.code none (retK G_impl_isPathByte fi_impl_isPathByte) (enter fi_impl_isPathByte [.one (.sc (.int .u8 i1))] []) = impl_isPathByte (k + 1) m i1 := by
  kernel_rfl
theorem impl_isPathByte_eq (k : Nat) (i1 : Int) : evF G_impl_isPathByte (k + 2) fid_impl_isPathByte [.one (.sc (.int .u8 i1))] [] = impl_isPathByte (k + 1) (k + 1) i1 :=
  Eq.trans (by kernel_rfl) (impl_isPathByte_code k (k + 1) i1)
theorem run_impl_isPathByte_of {i1 : Int} {r : Res} (k : Nat) (h : impl_isPathByte (k + 1) (k + 1) i1 = some r) : run_impl_isPathByte [.one (.sc (.int .u8 i1))] [] = some r := lim_of ((impl_isPathByte_eq k i1).trans h)
noncomputable def pl_impl_fileNameOk : List (Nat × Run) := [(fid_impl_inRange, run_impl_inRange), (fid_impl_isPathByte, run_impl_isPathByte)]
noncomputable def G_impl_fileNameOk : Ctx := ctx tyTab fiTab pl_impl_fileNameOk
noncomputable def run_impl_fileNameOk : Run := lim G_impl_fileNameOk fid_impl_fileNameOk
theorem ok_impl_fileNameOk : FnOk Tryd.prog OkT fid_impl_fileNameOk run_impl_fileNameOk := lim_ok (l := pl_impl_fileNameOk) Tryd_mix tyTab_ok fiTab_ok okT (.cons ok_impl_inRange (.cons ok_impl_isPathByte .nil)) fid_impl_fileNameOk
noncomputable def impl_fileNameOk_l0 (k m : Nat) : Nat → ByteArray → Int → Option Res
  | 0, _, _ => none
  | n + 1, s2, i3 =>
    cond (decide (i3 < (s2.size : Int)))
    ((bytS s2 i3).bind fun i4 =>
    (callS run_impl_isPathByte [.one (.sc (.int .u8 i4))] []).bind fun r5 =>
    cond (shapeOk rk_impl_isPathByte r5)
    ((cB (cellsAt r5 0) 0).bind fun b6 =>
    cond (!b6)
    (some ([.one (Cell.bool false)], []))
    (impl_fileNameOk_l0 k m n s2 (IntKind.i64.wrap (i3 + 1))))
    none)
    ((callS run_impl_inRange [.one (Cell.int (s2.size : Int)), .one (Cell.int 1), .one (Cell.int 12)] []).bind fun r7 =>
    cond (shapeOk rk_impl_inRange r7)
    ((cB (cellsAt r7 0) 0).bind fun b8 =>
    cond b8
    (cond (!(s2.toList == (bs [46]).toList))
    (some ([.one (Cell.bool (!(s2.toList == (bs [46, 46]).toList)))], []))
    (some ([.one (Cell.bool false)], [])))
    (some ([.one (Cell.bool false)], [])))
    none)
noncomputable def impl_fileNameOk (k m : Nat) (s1 : ByteArray) : Option Res :=
  impl_fileNameOk_l0 k m m s1 0
noncomputable abbrev impl_fileNameOk_l0_B (k m : Nat) : (Ex → Fr → Option Res) → Fr → Option Res := evC G_impl_fileNameOk fi_impl_fileNameOk (evF G_impl_fileNameOk (k + 1)) m (sub [1, 0, 1, 2, 3] fi_impl_fileNameOk.code) none
noncomputable abbrev impl_fileNameOk_l0_K (k m : Nat) : Ex → Fr → Option Res := blockK 0 (seqK (evC G_impl_fileNameOk fi_impl_fileNameOk (evF G_impl_fileNameOk (k + 1)) m (sub [1, 1] fi_impl_fileNameOk.code) none) (retK G_impl_fileNameOk fi_impl_fileNameOk))
theorem impl_fileNameOk_l0_eq (k m : Nat) : ∀ (n : Nat) (s2 : ByteArray) (i3 : Int), loopK (some [0, 3]) (impl_fileNameOk_l0_B k m) (impl_fileNameOk_l0_K k m) n ⟨fT 26 0 [(0, .av (.one (Cell.str s2))), (3, .av (.one (Cell.int i3)))], fX 26 0 [], []⟩ = impl_fileNameOk_l0 (k + 1) m n s2 i3 := by
  intro n
  induction n with
  | zero => intros; rfl
  | succ n ih =>
    intros
    simp only [impl_fileNameOk_l0, ← ih]
    kernel_rfl
theorem impl_fileNameOk_code (k m : Nat) (s1 : ByteArray) : evC G_impl_fileNameOk fi_impl_fileNameOk (evF G_impl_fileNameOk (k + 1)) m fi_impl_fileNameOk.code none (retK G_impl_fileNameOk fi_impl_fileNameOk) (enter fi_impl_fileNameOk [.one (Cell.str s1)] []) = impl_fileNameOk (k + 1) m s1 := by
  simp only [impl_fileNameOk, ← impl_fileNameOk_l0_eq k m]
  kernel_rfl
theorem impl_fileNameOk_eq (k : Nat) (s1 : ByteArray) : evF G_impl_fileNameOk (k + 2) fid_impl_fileNameOk [.one (Cell.str s1)] [] = impl_fileNameOk (k + 1) (k + 1) s1 :=
  Eq.trans (by kernel_rfl) (impl_fileNameOk_code k (k + 1) s1)
theorem run_impl_fileNameOk_of {s1 : ByteArray} {r : Res} (k : Nat) (h : impl_fileNameOk (k + 1) (k + 1) s1 = some r) : run_impl_fileNameOk [.one (Cell.str s1)] [] = some r := lim_of ((impl_fileNameOk_eq k s1).trans h)
noncomputable def pl_impl_actOf : List (Nat × Run) := [(fid_strings_Split, run_strings_Split), (fid_slices_Contains_string, run_slices_Contains_string), (fid_impl_fileNameOk, run_impl_fileNameOk), (fid_impl_inRange, run_impl_inRange)]
noncomputable def G_impl_actOf : Ctx := ctx tyTab fiTab pl_impl_actOf
noncomputable def run_impl_actOf : Run := lim G_impl_actOf fid_impl_actOf
theorem ok_impl_actOf : FnOk Tryd.prog OkT fid_impl_actOf run_impl_actOf := lim_ok (l := pl_impl_actOf) Tryd_mix tyTab_ok fiTab_ok okT (.cons ok_strings_Split (.cons ok_slices_Contains_string (.cons ok_impl_fileNameOk (.cons ok_impl_inRange .nil)))) fid_impl_actOf
noncomputable def impl_actOf (k m : Nat) (s1 : ByteArray) : Option Res :=
  (callL run_strings_Split [.one (Cell.str s1), .one (Cell.str (bs [32]))] []).bind fun r2 =>
  cond (shapeOk rk_strings_Split r2.1)
  ((cC (cellsAt r2.1 0) 0).bind fun c3 =>
  (callS run_slices_Contains_string [.one (c3), .one (Cell.str (bs []))] r2.2).bind fun r4 =>
  cond (shapeOk rk_slices_Contains_string r4)
  ((cB (cellsAt r4 0) 0).bind fun b5 =>
  cond b5
  (some ([.agg [Cell.str (bs []), .lst true 1 [], Cell.str (bs [])], .one (Cell.bool false)], r2.2))
  ((idxA 1 (c3) 0).bind fun c6 =>
  (deref r2.2 (c6)).bind fun p7 =>
  (cS p7.1 p7.2).bind fun s8 =>
  (slcC 1 (c3) 1 none none).bind fun c9 =>
  (lenC c9).bind fun n10 =>
  cond (decide ((n10 : Int) > 1))
  ((idxA 1 (c9) (IntKind.i64.wrap ((n10 : Int) - 2))).bind fun c11 =>
  (deref r2.2 (c11)).bind fun p12 =>
  (cS p12.1 p12.2).bind fun s13 =>
  cond (s13.toList == (bs [62]).toList)
  ((idxA 1 (c9) (IntKind.i64.wrap ((n10 : Int) - 1))).bind fun c14 =>
  (deref r2.2 (c14)).bind fun p15 =>
  (cS p15.1 p15.2).bind fun s16 =>
  (slcC 1 (c9) 0 (some (IntKind.i64.wrap ((n10 : Int) - 2))) none).bind fun c17 =>
  (callS run_impl_fileNameOk [.one (Cell.str s16)] r2.2).bind fun r18 =>
  cond (shapeOk rk_impl_fileNameOk r18)
  ((cB (cellsAt r18 0) 0).bind fun b19 =>
  cond (!b19)
  (some ([.agg [Cell.str (bs []), .lst true 1 [], Cell.str (bs [])], .one (Cell.bool false)], r2.2))
  (cond (s8.toList == (bs [112, 117, 116]).toList)
  (cond (decide ((IntKind.i64.wrap ((n10 : Int) - 2)) > 0))
  (some ([.agg [Cell.str s8, c17, Cell.str s16], .one (Cell.bool (!(s16.toList == (bs []).toList)))], r2.2))
  (some ([.agg [Cell.str s8, c17, Cell.str s16], .one (Cell.bool false)], r2.2)))
  (cond (s8.toList == (bs [99, 97, 116]).toList)
  ((callS run_impl_inRange [.one (Cell.int (IntKind.i64.wrap ((n10 : Int) - 2))), .one (Cell.int 1), .one (Cell.int 3)] r2.2).bind fun r20 =>
  cond (shapeOk rk_impl_inRange r20)
  ((cB (cellsAt r20 0) 0).bind fun b21 =>
  cond b21
  (some ([.agg [Cell.str s8, c17, Cell.str s16], .one (Cell.bool (!(s16.toList == (bs []).toList)))], r2.2))
  (some ([.agg [Cell.str s8, c17, Cell.str s16], .one (Cell.bool false)], r2.2)))
  none)
  (cond (s8.toList == (bs [101, 110, 118]).toList)
  (cond ((IntKind.i64.wrap ((n10 : Int) - 2)) == 1)
  (some ([.agg [Cell.str s8, c17, Cell.str s16], .one (Cell.bool (!(s16.toList == (bs []).toList)))], r2.2))
  (some ([.agg [Cell.str s8, c17, Cell.str s16], .one (Cell.bool false)], r2.2)))
  (cond (s8.toList == (bs [117, 115, 101]).toList)
  (cond ((IntKind.i64.wrap ((n10 : Int) - 2)) == 2)
  (some ([.agg [Cell.str s8, c17, Cell.str s16], .one (Cell.bool (!(s16.toList == (bs []).toList)))], r2.2))
  (some ([.agg [Cell.str s8, c17, Cell.str s16], .one (Cell.bool false)], r2.2)))
  (cond (s8.toList == (bs [108, 111, 103]).toList)
  (cond (decide ((IntKind.i64.wrap ((n10 : Int) - 2)) > 0))
  (some ([.agg [Cell.str s8, c17, Cell.str s16], .one (Cell.bool (s16.toList == (bs []).toList))], r2.2))
  (some ([.agg [Cell.str s8, c17, Cell.str s16], .one (Cell.bool false)], r2.2)))
  (cond (s8.toList == (bs [102, 97, 105, 108]).toList)
  (cond ((IntKind.i64.wrap ((n10 : Int) - 2)) == 0)
  (some ([.agg [Cell.str s8, c17, Cell.str s16], .one (Cell.bool (s16.toList == (bs []).toList))], r2.2))
  (some ([.agg [Cell.str s8, c17, Cell.str s16], .one (Cell.bool false)], r2.2)))
  (some ([.agg [Cell.str s8, c17, Cell.str s16], .one (Cell.bool false)], r2.2)))))))))
  none)
  (cond (s8.toList == (bs [112, 117, 116]).toList)
  (cond (decide ((n10 : Int) > 0))
  (some ([.agg [Cell.str s8, c9, Cell.str (bs [])], .one (Cell.bool (!((bs []).toList == (bs []).toList)))], r2.2))
  (some ([.agg [Cell.str s8, c9, Cell.str (bs [])], .one (Cell.bool false)], r2.2)))
  (cond (s8.toList == (bs [99, 97, 116]).toList)
  ((callS run_impl_inRange [.one (Cell.int (n10 : Int)), .one (Cell.int 1), .one (Cell.int 3)] r2.2).bind fun r22 =>
  cond (shapeOk rk_impl_inRange r22)
  ((cB (cellsAt r22 0) 0).bind fun b23 =>
  cond b23
  (some ([.agg [Cell.str s8, c9, Cell.str (bs [])], .one (Cell.bool (!((bs []).toList == (bs []).toList)))], r2.2))
  (some ([.agg [Cell.str s8, c9, Cell.str (bs [])], .one (Cell.bool false)], r2.2)))
  none)
  (cond (s8.toList == (bs [101, 110, 118]).toList)
  (cond ((n10 : Int) == 1)
  (some ([.agg [Cell.str s8, c9, Cell.str (bs [])], .one (Cell.bool (!((bs []).toList == (bs []).toList)))], r2.2))
  (some ([.agg [Cell.str s8, c9, Cell.str (bs [])], .one (Cell.bool false)], r2.2)))
  (cond (s8.toList == (bs [117, 115, 101]).toList)
  (cond ((n10 : Int) == 2)
  (some ([.agg [Cell.str s8, c9, Cell.str (bs [])], .one (Cell.bool (!((bs []).toList == (bs []).toList)))], r2.2))
  (some ([.agg [Cell.str s8, c9, Cell.str (bs [])], .one (Cell.bool false)], r2.2)))
  (cond (s8.toList == (bs [108, 111, 103]).toList)
  (cond (decide ((n10 : Int) > 0))
  (some ([.agg [Cell.str s8, c9, Cell.str (bs [])], .one (Cell.bool ((bs []).toList == (bs []).toList))], r2.2))
  (some ([.agg [Cell.str s8, c9, Cell.str (bs [])], .one (Cell.bool false)], r2.2)))
  (cond (s8.toList == (bs [102, 97, 105, 108]).toList)
  (cond ((n10 : Int) == 0)
  (some ([.agg [Cell.str s8, c9, Cell.str (bs [])], .one (Cell.bool ((bs []).toList == (bs []).toList))], r2.2))
  (some ([.agg [Cell.str s8, c9, Cell.str (bs [])], .one (Cell.bool false)], r2.2)))
  (some ([.agg [Cell.str s8, c9, Cell.str (bs [])], .one (Cell.bool false)], r2.2)))))))))
  (cond (s8.toList == (bs [112, 117, 116]).toList)
  (cond (decide ((n10 : Int) > 0))
  (some ([.agg [Cell.str s8, c9, Cell.str (bs [])], .one (Cell.bool (!((bs []).toList == (bs []).toList)))], r2.2))
  (some ([.agg [Cell.str s8, c9, Cell.str (bs [])], .one (Cell.bool false)], r2.2)))
  (cond (s8.toList == (bs [99, 97, 116]).toList)
  ((callS run_impl_inRange [.one (Cell.int (n10 : Int)), .one (Cell.int 1), .one (Cell.int 3)] r2.2).bind fun r24 =>
  cond (shapeOk rk_impl_inRange r24)
  ((cB (cellsAt r24 0) 0).bind fun b25 =>
  cond b25
  (some ([.agg [Cell.str s8, c9, Cell.str (bs [])], .one (Cell.bool (!((bs []).toList == (bs []).toList)))], r2.2))
  (some ([.agg [Cell.str s8, c9, Cell.str (bs [])], .one (Cell.bool false)], r2.2)))
  none)
  (cond (s8.toList == (bs [101, 110, 118]).toList)
  (cond ((n10 : Int) == 1)
  (some ([.agg [Cell.str s8, c9, Cell.str (bs [])], .one (Cell.bool (!((bs []).toList == (bs []).toList)))], r2.2))
  (some ([.agg [Cell.str s8, c9, Cell.str (bs [])], .one (Cell.bool false)], r2.2)))
  (cond (s8.toList == (bs [117, 115, 101]).toList)
  (cond ((n10 : Int) == 2)
  (some ([.agg [Cell.str s8, c9, Cell.str (bs [])], .one (Cell.bool (!((bs []).toList == (bs []).toList)))], r2.2))
  (some ([.agg [Cell.str s8, c9, Cell.str (bs [])], .one (Cell.bool false)], r2.2)))
  (cond (s8.toList == (bs [108, 111, 103]).toList)
  (cond (decide ((n10 : Int) > 0))
  (some ([.agg [Cell.str s8, c9, Cell.str (bs [])], .one (Cell.bool ((bs []).toList == (bs []).toList))], r2.2))
  (some ([.agg [Cell.str s8, c9, Cell.str (bs [])], .one (Cell.bool false)], r2.2)))
  (cond (s8.toList == (bs [102, 97, 105, 108]).toList)
  (cond ((n10 : Int) == 0)
  (some ([.agg [Cell.str s8, c9, Cell.str (bs [])], .one (Cell.bool ((bs []).toList == (bs []).toList))], r2.2))
  (some ([.agg [Cell.str s8, c9, Cell.str (bs [])], .one (Cell.bool false)], r2.2)))
  (some ([.agg [Cell.str s8, c9, Cell.str (bs [])], .one (Cell.bool false)], r2.2))))))))))
  none)
  none
theorem impl_actOf_code (k m : Nat) (s1 : ByteArray) : evC G_impl_actOf fi_impl_actOf (evF G_impl_actOf (k + 1)) m fi_impl_actOf.code none (retK G_impl_actOf fi_impl_actOf) (enter fi_impl_actOf [.one (Cell.str s1)] []) = impl_actOf (k + 1) m s1 := by
  kernel_rfl
theorem impl_actOf_eq (k : Nat) (s1 : ByteArray) : evF G_impl_actOf (k + 2) fid_impl_actOf [.one (Cell.str s1)] [] = impl_actOf (k + 1) (k + 1) s1 :=
  Eq.trans (by kernel_rfl) (impl_actOf_code k (k + 1) s1)
theorem run_impl_actOf_of {s1 : ByteArray} {r : Res} (k : Nat) (h : impl_actOf (k + 1) (k + 1) s1 = some r) : run_impl_actOf [.one (Cell.str s1)] [] = some r := lim_of ((impl_actOf_eq k s1).trans h)
noncomputable def pl_impl_ActOk : List (Nat × Run) := [(fid_impl_actOf, run_impl_actOf)]
noncomputable def G_impl_ActOk : Ctx := ctx tyTab fiTab pl_impl_ActOk
noncomputable def run_impl_ActOk : Run := lim G_impl_ActOk fid_impl_ActOk
theorem ok_impl_ActOk : FnOk Tryd.prog OkT fid_impl_ActOk run_impl_ActOk := lim_ok (l := pl_impl_ActOk) Tryd_mix tyTab_ok fiTab_ok okT (.cons ok_impl_actOf .nil) fid_impl_ActOk
noncomputable def impl_ActOk (k m : Nat) (s1 : ByteArray) : Option Res :=
  (callL run_impl_actOf [.one (Cell.str s1)] []).bind fun r2 =>
  cond (shapeOk rk_impl_actOf r2.1)
  ((cS (cellsAt r2.1 0) 0).bind fun s3 =>
  (cC (cellsAt r2.1 0) 1).bind fun c4 =>
  (cS (cellsAt r2.1 0) 2).bind fun s5 =>
  (cB (cellsAt r2.1 1) 0).bind fun b6 =>
  some ([.one (Cell.bool b6)], r2.2))
  none
theorem impl_ActOk_code (k m : Nat) (s1 : ByteArray) : evC G_impl_ActOk fi_impl_ActOk (evF G_impl_ActOk (k + 1)) m fi_impl_ActOk.code none (retK G_impl_ActOk fi_impl_ActOk) (enter fi_impl_ActOk [.one (Cell.str s1)] []) = impl_ActOk (k + 1) m s1 := by
  kernel_rfl
theorem impl_ActOk_eq (k : Nat) (s1 : ByteArray) : evF G_impl_ActOk (k + 2) fid_impl_ActOk [.one (Cell.str s1)] [] = impl_ActOk (k + 1) (k + 1) s1 :=
  Eq.trans (by kernel_rfl) (impl_ActOk_code k (k + 1) s1)
theorem run_impl_ActOk_of {s1 : ByteArray} {r : Res} (k : Nat) (h : impl_ActOk (k + 1) (k + 1) s1 = some r) : run_impl_ActOk [.one (Cell.str s1)] [] = some r := lim_of ((impl_ActOk_eq k s1).trans h)
noncomputable def pl_laws_FnExactActOk : List (Nat × Run) := [(fid_spec_ActOk, run_spec_ActOk), (fid_impl_ActOk, run_impl_ActOk)]
noncomputable def G_laws_FnExactActOk : Ctx := ctx tyTab fiTab pl_laws_FnExactActOk
noncomputable def run_laws_FnExactActOk : Run := lim G_laws_FnExactActOk fid_laws_FnExactActOk
theorem ok_laws_FnExactActOk : FnOk Tryd.prog OkT fid_laws_FnExactActOk run_laws_FnExactActOk := lim_ok (l := pl_laws_FnExactActOk) Tryd_mix tyTab_ok fiTab_ok okT (.cons ok_spec_ActOk (.cons ok_impl_ActOk .nil)) fid_laws_FnExactActOk
noncomputable def laws_FnExactActOk (k m : Nat) (s1 : ByteArray) : Option Res :=
  cond (decide ((s1.size : Int) > 1048576))
  (some ([.one (Cell.bool true)], []))
  ((callS run_spec_ActOk [.one (Cell.str s1)] []).bind fun r2 =>
  cond (shapeOk rk_spec_ActOk r2)
  ((cB (cellsAt r2 0) 0).bind fun b3 =>
  (callS run_impl_ActOk [.one (Cell.str s1)] []).bind fun r4 =>
  cond (shapeOk rk_impl_ActOk r4)
  ((cB (cellsAt r4 0) 0).bind fun b5 =>
  cond (!(b5 == b3))
  (some ([.one (Cell.bool false)], []))
  (some ([.one (Cell.bool true)], [])))
  none)
  none)
theorem laws_FnExactActOk_code (k m : Nat) (s1 : ByteArray) : evC G_laws_FnExactActOk fi_laws_FnExactActOk (evF G_laws_FnExactActOk (k + 1)) m fi_laws_FnExactActOk.code none (retK G_laws_FnExactActOk fi_laws_FnExactActOk) (enter fi_laws_FnExactActOk [.one (Cell.str s1)] []) = laws_FnExactActOk (k + 1) m s1 := by
  kernel_rfl
theorem laws_FnExactActOk_eq (k : Nat) (s1 : ByteArray) : evF G_laws_FnExactActOk (k + 2) fid_laws_FnExactActOk [.one (Cell.str s1)] [] = laws_FnExactActOk (k + 1) (k + 1) s1 :=
  Eq.trans (by kernel_rfl) (laws_FnExactActOk_code k (k + 1) s1)
theorem run_laws_FnExactActOk_of {s1 : ByteArray} {r : Res} (k : Nat) (h : laws_FnExactActOk (k + 1) (k + 1) s1 = some r) : run_laws_FnExactActOk [.one (Cell.str s1)] [] = some r := lim_of ((laws_FnExactActOk_eq k s1).trans h)
end Go.Ev
