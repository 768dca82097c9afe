/- What the evaluator says of the functions, each as a Lean function over cells. Printed by a program of this claim. Conditions: none. -/
import Derived.Test.YtaigckobkcihgaaDoorSh0
import Derived.KernelRfl
namespace Go.Ev
open Go Go.Proofs
set_option maxRecDepth 100000
set_option linter.unusedVariables false
set_option linter.unusedSimpArgs false
noncomputable def pl_strings_genSplit : List (Nat × Run) := [(fid_strings_explode, run_strings_explode), (fid_strings_Count, run_strings_Count), (fid_strings_Index, run_strings_Index)]
noncomputable def G_strings_genSplit : Ctx := ctx tyTab fiTab pl_strings_genSplit
noncomputable def run_strings_genSplit : Run := lim G_strings_genSplit fid_strings_genSplit
theorem ok_strings_genSplit : FnOk Tryd.prog OkT fid_strings_genSplit run_strings_genSplit := lim_ok (l := pl_strings_genSplit) Tryd_mix tyTab_ok fiTab_ok okT (.cons ok_strings_explode (.cons ok_strings_Count (.cons ok_strings_Index .nil))) fid_strings_genSplit
noncomputable def strings_genSplit_l0 (k m : Nat) : Nat → ByteArray → ByteArray → Int → Int → Cell → Int → List Entry → Option Res
  | 0, _, _, _, _, _, _, _ => none
  | n + 1, s9, s10, i11, i12, c13, i14, H15 =>
    cond (decide (i14 < i12))
    ((callS run_strings_Index [.one (Cell.str s9), .one (Cell.str s10)] H15).bind fun r16 =>
    cond (shapeOk rk_strings_Index r16)
    ((cI .i64 (cellsAt r16 0) 0).bind fun i17 =>
    cond (decide (i17 < 0))
    ((idxA 1 (c13) i14).bind fun c18 =>
    (hStore H15 (c18) [Cell.str s9]).bind fun h19 =>
    (slcC 1 (c13) 0 (some (IntKind.i64.wrap (i14 + 1))) none).bind fun c20 =>
    some ([.one (c20)], h19))
    ((subS s9 0 (IntKind.i64.wrap (i17 + i11))).bind fun s21 =>
    (idxA 1 (c13) i14).bind fun c22 =>
    (hStore H15 (c22) [Cell.str s21]).bind fun h23 =>
    (subS s9 (IntKind.i64.wrap (i17 + (s10.size : Int))) (s9.size : Int)).bind fun s24 =>
    strings_genSplit_l0 k m n s24 s10 i11 i12 (c13) (IntKind.i64.wrap (i14 + 1)) h23))
    none)
    ((idxA 1 (c13) i14).bind fun c25 =>
    (hStore H15 (c25) [Cell.str s9]).bind fun h26 =>
    (slcC 1 (c13) 0 (some (IntKind.i64.wrap (i14 + 1))) none).bind fun c27 =>
    some ([.one (c27)], h26))
noncomputable def strings_genSplit (k m : Nat) (s1 : ByteArray) (s2 : ByteArray) (i3 : Int) (i4 : Int) : Option Res :=
  cond (i4 == 0)
  (some ([.one (.lst true 1 [])], []))
  (cond (s2.toList == (bs []).toList)
  ((callL run_strings_explode [.one (Cell.str s1), .one (Cell.int i4)] []).bind fun r5 =>
  cond (shapeOk rk_strings_explode r5.1)
  ((cC (cellsAt r5.1 0) 0).bind fun c6 =>
  some ([.one (c6)], r5.2))
  none)
  (cond (decide (i4 < 0))
  ((callS run_strings_Count [.one (Cell.str s1), .one (Cell.str s2)] []).bind fun r7 =>
  cond (shapeOk rk_strings_Count r7)
  ((cI .i64 (cellsAt r7 0) 0).bind fun i8 =>
  if 0 ≤ (if (IntKind.i64.wrap ((s1.size : Int) + 1)) < (IntKind.i64.wrap (i8 + 1)) then (IntKind.i64.wrap ((s1.size : Int) + 1)) else (IntKind.i64.wrap (i8 + 1))) ∧ (if (IntKind.i64.wrap ((s1.size : Int) + 1)) < (IntKind.i64.wrap (i8 + 1)) then (IntKind.i64.wrap ((s1.size : Int) + 1)) else (IntKind.i64.wrap (i8 + 1))) ≤ (if (IntKind.i64.wrap ((s1.size : Int) + 1)) < (IntKind.i64.wrap (i8 + 1)) then (IntKind.i64.wrap ((s1.size : Int) + 1)) else (IntKind.i64.wrap (i8 + 1))) ∧ (if (IntKind.i64.wrap ((s1.size : Int) + 1)) < (IntKind.i64.wrap (i8 + 1)) then (IntKind.i64.wrap ((s1.size : Int) + 1)) else (IntKind.i64.wrap (i8 + 1))) * 16 ≤ bound ∧ (if (IntKind.i64.wrap ((s1.size : Int) + 1)) < (IntKind.i64.wrap (i8 + 1)) then (IntKind.i64.wrap ((s1.size : Int) + 1)) else (IntKind.i64.wrap (i8 + 1))) ≤ bound then
  (strings_genSplit_l0 k m m s1 s2 i3 (IntKind.i64.wrap ((if (IntKind.i64.wrap ((s1.size : Int) + 1)) < (IntKind.i64.wrap (i8 + 1)) then (IntKind.i64.wrap ((s1.size : Int) + 1)) else (IntKind.i64.wrap (i8 + 1))) - 1)) ((.vs 0 1 0 (if (IntKind.i64.wrap ((s1.size : Int) + 1)) < (IntKind.i64.wrap (i8 + 1)) then (IntKind.i64.wrap ((s1.size : Int) + 1)) else (IntKind.i64.wrap (i8 + 1))).toNat 0)) 0 [Entry.mk 1 (mkRows (if (IntKind.i64.wrap ((s1.size : Int) + 1)) < (IntKind.i64.wrap (i8 + 1)) then (IntKind.i64.wrap ((s1.size : Int) + 1)) else (IntKind.i64.wrap (i8 + 1))).toNat [Cell.str (bs [])]) 0 false]) else none)
  none)
  (if 0 ≤ (if (IntKind.i64.wrap ((s1.size : Int) + 1)) < i4 then (IntKind.i64.wrap ((s1.size : Int) + 1)) else i4) ∧ (if (IntKind.i64.wrap ((s1.size : Int) + 1)) < i4 then (IntKind.i64.wrap ((s1.size : Int) + 1)) else i4) ≤ (if (IntKind.i64.wrap ((s1.size : Int) + 1)) < i4 then (IntKind.i64.wrap ((s1.size : Int) + 1)) else i4) ∧ (if (IntKind.i64.wrap ((s1.size : Int) + 1)) < i4 then (IntKind.i64.wrap ((s1.size : Int) + 1)) else i4) * 16 ≤ bound ∧ (if (IntKind.i64.wrap ((s1.size : Int) + 1)) < i4 then (IntKind.i64.wrap ((s1.size : Int) + 1)) else i4) ≤ bound then
  (strings_genSplit_l0 k m m s1 s2 i3 (IntKind.i64.wrap ((if (IntKind.i64.wrap ((s1.size : Int) + 1)) < i4 then (IntKind.i64.wrap ((s1.size : Int) + 1)) else i4) - 1)) ((.vs 0 1 0 (if (IntKind.i64.wrap ((s1.size : Int) + 1)) < i4 then (IntKind.i64.wrap ((s1.size : Int) + 1)) else i4).toNat 0)) 0 [Entry.mk 1 (mkRows (if (IntKind.i64.wrap ((s1.size : Int) + 1)) < i4 then (IntKind.i64.wrap ((s1.size : Int) + 1)) else i4).toNat [Cell.str (bs [])]) 0 false]) else none)))
noncomputable abbrev strings_genSplit_l0_B (k m : Nat) : (Ex → Fr → Option Res) → Fr → Option Res := evC G_strings_genSplit fi_strings_genSplit (evF G_strings_genSplit (k + 1)) m (sub [1, 1, 1, 1, 1, 1, 1, 1, 0, 2, 3] fi_strings_genSplit.code) none
noncomputable abbrev strings_genSplit_l0_K (k m : Nat) : Ex → Fr → Option Res := blockK 0 (seqK (evC G_strings_genSplit fi_strings_genSplit (evF G_strings_genSplit (k + 1)) m (sub [1, 1, 1, 1, 1, 1, 1, 1, 1] fi_strings_genSplit.code) none) (retK G_strings_genSplit fi_strings_genSplit))
theorem strings_genSplit_l0_eq (k m : Nat) : ∀ (n : Nat) (s9 : ByteArray) (s10 : ByteArray) (i11 : Int) (i12 : Int) (c13 : Cell) (i14 : Int) (H15 : List Entry), loopK (some [0, 1, 2, 3, 9, 10]) (strings_genSplit_l0_B k m) (strings_genSplit_l0_K k m) n ⟨fT 66 0 [(0, .av (.one (Cell.str s9))), (1, .av (.one (Cell.str s10))), (2, .av (.one (Cell.int i11))), (3, .av (.one (Cell.int i12))), (9, .av (.one (c13))), (10, .av (.one (Cell.int i14)))], fX 66 0 [], H15⟩ = strings_genSplit_l0 (k + 1) m n s9 s10 i11 i12 c13 i14 H15 := by
  intro n
  induction n with
  | zero => intros; rfl
  | succ n ih =>
    intros
    simp only [strings_genSplit_l0, ← ih]
    kernel_rfl
theorem strings_genSplit_code (k m : Nat) (s1 : ByteArray) (s2 : ByteArray) (i3 : Int) (i4 : Int) : evC G_strings_genSplit fi_strings_genSplit (evF G_strings_genSplit (k + 1)) m fi_strings_genSplit.code none (retK G_strings_genSplit fi_strings_genSplit) (enter fi_strings_genSplit [.one (Cell.str s1), .one (Cell.str s2), .one (Cell.int i3), .one (Cell.int i4)] []) = strings_genSplit (k + 1) m s1 s2 i3 i4 := by
  simp only [strings_genSplit, ← strings_genSplit_l0_eq k m]
  kernel_rfl
theorem strings_genSplit_eq (k : Nat) (s1 : ByteArray) (s2 : ByteArray) (i3 : Int) (i4 : Int) : evF G_strings_genSplit (k + 2) fid_strings_genSplit [.one (Cell.str s1), .one (Cell.str s2), .one (Cell.int i3), .one (Cell.int i4)] [] = strings_genSplit (k + 1) (k + 1) s1 s2 i3 i4 :=
  Eq.trans (by kernel_rfl) (strings_genSplit_code k (k + 1) s1 s2 i3 i4)
theorem run_strings_genSplit_of {s1 : ByteArray} {s2 : ByteArray} {i3 : Int} {i4 : Int} {r : Res} (k : Nat) (h : strings_genSplit (k + 1) (k + 1) s1 s2 i3 i4 = some r) : run_strings_genSplit [.one (Cell.str s1), .one (Cell.str s2), .one (Cell.int i3), .one (Cell.int i4)] [] = some r := lim_of ((strings_genSplit_eq k s1 s2 i3 i4).trans h)
noncomputable def pl_strings_Split : List (Nat × Run) := [(fid_strings_genSplit, run_strings_genSplit)]
noncomputable def G_strings_Split : Ctx := ctx tyTab fiTab pl_strings_Split
noncomputable def run_strings_Split : Run := lim G_strings_Split fid_strings_Split
theorem ok_strings_Split : FnOk Tryd.prog OkT fid_strings_Split run_strings_Split := lim_ok (l := pl_strings_Split) Tryd_mix tyTab_ok fiTab_ok okT (.cons ok_strings_genSplit .nil) fid_strings_Split
noncomputable def strings_Split (k m : Nat) (s1 : ByteArray) (s2 : ByteArray) : Option Res :=
  (callL run_strings_genSplit [.one (Cell.str s1), .one (Cell.str s2), .one (Cell.int 0), .one (Cell.int (-1))] []).bind fun r3 =>
  cond (shapeOk rk_strings_genSplit r3.1)
  ((cC (cellsAt r3.1 0) 0).bind fun c4 =>
  some ([.one (c4)], r3.2))
  none
theorem strings_Split_code (k m : Nat) (s1 : ByteArray) (s2 : ByteArray) : evC G_strings_Split fi_strings_Split (evF G_strings_Split (k + 1)) m fi_strings_Split.code none (retK G_strings_Split fi_strings_Split) (enter fi_strings_Split [.one (Cell.str s1), .one (Cell.str s2)] []) = strings_Split (k + 1) m s1 s2 := by
  kernel_rfl
theorem strings_Split_eq (k : Nat) (s1 : ByteArray) (s2 : ByteArray) : evF G_strings_Split (k + 2) fid_strings_Split [.one (Cell.str s1), .one (Cell.str s2)] [] = strings_Split (k + 1) (k + 1) s1 s2 :=
  Eq.trans (by kernel_rfl) (strings_Split_code k (k + 1) s1 s2)
theorem run_strings_Split_of {s1 : ByteArray} {s2 : ByteArray} {r : Res} (k : Nat) (h : strings_Split (k + 1) (k + 1) s1 s2 = some r) : run_strings_Split [.one (Cell.str s1), .one (Cell.str s2)] [] = some r := lim_of ((strings_Split_eq k s1 s2).trans h)
noncomputable def pl_internal_stringslite_HasPrefix : List (Nat × Run) := []
noncomputable def G_internal_stringslite_HasPrefix : Ctx := ctx tyTab fiTab pl_internal_stringslite_HasPrefix
noncomputable def run_internal_stringslite_HasPrefix : Run := lim G_internal_stringslite_HasPrefix fid_internal_stringslite_HasPrefix
theorem ok_internal_stringslite_HasPrefix : FnOk Tryd.prog OkT fid_internal_stringslite_HasPrefix run_internal_stringslite_HasPrefix := lim_ok (l := pl_internal_stringslite_HasPrefix) Tryd_mix tyTab_ok fiTab_ok okT .nil fid_internal_stringslite_HasPrefix
noncomputable def internal_stringslite_HasPrefix (k m : Nat) (s1 : ByteArray) (s2 : ByteArray) : Option Res :=
  cond (decide ((s1.size : Int) ≥ (s2.size : Int)))
  ((subS s1 0 (s2.size : Int)).bind fun s3 =>
  some ([.one (Cell.bool (s3.toList == s2.toList))], []))
  (some ([.one (Cell.bool false)], []))
theorem internal_stringslite_HasPrefix_code (k m : Nat) (s1 : ByteArray) (s2 : ByteArray) : evC G_internal_stringslite_HasPrefix fi_internal_stringslite_HasPrefix (evF G_internal_stringslite_HasPrefix (k + 1)) m fi_internal_stringslite_HasPrefix.code none (retK G_internal_stringslite_HasPrefix fi_internal_stringslite_HasPrefix) (enter fi_internal_stringslite_HasPrefix [.one (Cell.str s1), .one (Cell.str s2)] []) = internal_stringslite_HasPrefix (k + 1) m s1 s2 := by
  kernel_rfl
theorem internal_stringslite_HasPrefix_eq (k : Nat) (s1 : ByteArray) (s2 : ByteArray) : evF G_internal_stringslite_HasPrefix (k + 2) fid_internal_stringslite_HasPrefix [.one (Cell.str s1), .one (Cell.str s2)] [] = internal_stringslite_HasPrefix (k + 1) (k + 1) s1 s2 :=
  Eq.trans (by kernel_rfl) (internal_stringslite_HasPrefix_code k (k + 1) s1 s2)
theorem run_internal_stringslite_HasPrefix_of {s1 : ByteArray} {s2 : ByteArray} {r : Res} (k : Nat) (h : internal_stringslite_HasPrefix (k + 1) (k + 1) s1 s2 = some r) : run_internal_stringslite_HasPrefix [.one (Cell.str s1), .one (Cell.str s2)] [] = some r := lim_of ((internal_stringslite_HasPrefix_eq k s1 s2).trans h)
noncomputable def pl_internal_stringslite_CutPrefix : List (Nat × Run) := [(fid_internal_stringslite_HasPrefix, run_internal_stringslite_HasPrefix)]
noncomputable def G_internal_stringslite_CutPrefix : Ctx := ctx tyTab fiTab pl_internal_stringslite_CutPrefix
noncomputable def run_internal_stringslite_CutPrefix : Run := lim G_internal_stringslite_CutPrefix fid_internal_stringslite_CutPrefix
theorem ok_internal_stringslite_CutPrefix : FnOk Tryd.prog OkT fid_internal_stringslite_CutPrefix run_internal_stringslite_CutPrefix := lim_ok (l := pl_internal_stringslite_CutPrefix) Tryd_mix tyTab_ok fiTab_ok okT (.cons ok_internal_stringslite_HasPrefix .nil) fid_internal_stringslite_CutPrefix
noncomputable def internal_stringslite_CutPrefix (k m : Nat) (s1 : ByteArray) (s2 : ByteArray) : Option Res :=
  (callS run_internal_stringslite_HasPrefix [.one (Cell.str s1), .one (Cell.str s2)] []).bind fun r3 =>
  cond (shapeOk rk_internal_stringslite_HasPrefix r3)
  ((cB (cellsAt r3 0) 0).bind fun b4 =>
  cond (!b4)
  (some ([.one (Cell.str s1), .one (Cell.bool false)], []))
  ((subS s1 (s2.size : Int) (s1.size : Int)).bind fun s5 =>
  some ([.one (Cell.str s5), .one (Cell.bool true)], [])))
  none
theorem internal_stringslite_CutPrefix_code (k m : Nat) (s1 : ByteArray) (s2 : ByteArray) : evC G_internal_stringslite_CutPrefix fi_internal_stringslite_CutPrefix (evF G_internal_stringslite_CutPrefix (k + 1)) m fi_internal_stringslite_CutPrefix.code none (retK G_internal_stringslite_CutPrefix fi_internal_stringslite_CutPrefix) (enter fi_internal_stringslite_CutPrefix [.one (Cell.str s1), .one (Cell.str s2)] []) = internal_stringslite_CutPrefix (k + 1) m s1 s2 := by
  kernel_rfl
theorem internal_stringslite_CutPrefix_eq (k : Nat) (s1 : ByteArray) (s2 : ByteArray) : evF G_internal_stringslite_CutPrefix (k + 2) fid_internal_stringslite_CutPrefix [.one (Cell.str s1), .one (Cell.str s2)] [] = internal_stringslite_CutPrefix (k + 1) (k + 1) s1 s2 :=
  Eq.trans (by kernel_rfl) (internal_stringslite_CutPrefix_code k (k + 1) s1 s2)
theorem run_internal_stringslite_CutPrefix_of {s1 : ByteArray} {s2 : ByteArray} {r : Res} (k : Nat) (h : internal_stringslite_CutPrefix (k + 1) (k + 1) s1 s2 = some r) : run_internal_stringslite_CutPrefix [.one (Cell.str s1), .one (Cell.str s2)] [] = some r := lim_of ((internal_stringslite_CutPrefix_eq k s1 s2).trans h)
noncomputable def pl_strings_CutPrefix : List (Nat × Run) := [(fid_internal_stringslite_CutPrefix, run_internal_stringslite_CutPrefix)]
noncomputable def G_strings_CutPrefix : Ctx := ctx tyTab fiTab pl_strings_CutPrefix
noncomputable def run_strings_CutPrefix : Run := lim G_strings_CutPrefix fid_strings_CutPrefix
theorem ok_strings_CutPrefix : FnOk Tryd.prog OkT fid_strings_CutPrefix run_strings_CutPrefix := lim_ok (l := pl_strings_CutPrefix) Tryd_mix tyTab_ok fiTab_ok okT (.cons ok_internal_stringslite_CutPrefix .nil) fid_strings_CutPrefix
noncomputable def strings_CutPrefix (k m : Nat) (s1 : ByteArray) (s2 : ByteArray) : Option Res :=
  (callS run_internal_stringslite_CutPrefix [.one (Cell.str s1), .one (Cell.str s2)] []).bind fun r3 =>
  cond (shapeOk rk_internal_stringslite_CutPrefix r3)
  ((cS (cellsAt r3 0) 0).bind fun s4 =>
  (cB (cellsAt r3 1) 0).bind fun b5 =>
  some ([.one (Cell.str s4), .one (Cell.bool b5)], []))
  none
theorem strings_CutPrefix_code (k m : Nat) (s1 : ByteArray) (s2 : ByteArray) : evC G_strings_CutPrefix fi_strings_CutPrefix (evF G_strings_CutPrefix (k + 1)) m fi_strings_CutPrefix.code none (retK G_strings_CutPrefix fi_strings_CutPrefix) (enter fi_strings_CutPrefix [.one (Cell.str s1), .one (Cell.str s2)] []) = strings_CutPrefix (k + 1) m s1 s2 := by
  kernel_rfl
theorem strings_CutPrefix_eq (k : Nat) (s1 : ByteArray) (s2 : ByteArray) : evF G_strings_CutPrefix (k + 2) fid_strings_CutPrefix [.one (Cell.str s1), .one (Cell.str s2)] [] = strings_CutPrefix (k + 1) (k + 1) s1 s2 :=
  Eq.trans (by kernel_rfl) (strings_CutPrefix_code k (k + 1) s1 s2)
theorem run_strings_CutPrefix_of {s1 : ByteArray} {s2 : ByteArray} {r : Res} (k : Nat) (h : strings_CutPrefix (k + 1) (k + 1) s1 s2 = some r) : run_strings_CutPrefix [.one (Cell.str s1), .one (Cell.str s2)] [] = some r := lim_of ((strings_CutPrefix_eq k s1 s2).trans h)
noncomputable def pl_impl_inRange : List (Nat × Run) := []
noncomputable def G_impl_inRange : Ctx := ctx tyTab fiTab pl_impl_inRange
noncomputable def run_impl_inRange : Run := lim G_impl_inRange fid_impl_inRange
theorem ok_impl_inRange : FnOk Tryd.prog OkT fid_impl_inRange run_impl_inRange := lim_ok (l := pl_impl_inRange) Tryd_mix tyTab_ok fiTab_ok okT .nil fid_impl_inRange
noncomputable def impl_inRange (k m : Nat) (i1 : Int) (i2 : Int) (i3 : Int) : Option Res :=
  cond (decide (i1 ≥ i2))
  (some ([.one (Cell.bool (decide (i1 ≤ i3)))], []))
  (some ([.one (Cell.bool false)], []))
theorem impl_inRange_code (k m : Nat) (i1 : Int) (i2 : Int) (i3 : Int) : evC G_impl_inRange fi_impl_inRange (evF G_impl_inRange (k + 1)) m fi_impl_inRange.code none (retK G_impl_inRange fi_impl_inRange) (enter fi_impl_inRange [.one (Cell.int i1), .one (Cell.int i2), .one (Cell.int i3)] []) = impl_inRange (k + 1) m i1 i2 i3 := by
  kernel_rfl
theorem impl_inRange_eq (k : Nat) (i1 : Int) (i2 : Int) (i3 : Int) : evF G_impl_inRange (k + 2) fid_impl_inRange [.one (Cell.int i1), .one (Cell.int i2), .one (Cell.int i3)] [] = impl_inRange (k + 1) (k + 1) i1 i2 i3 :=
  Eq.trans (by kernel_rfl) (impl_inRange_code k (k + 1) i1 i2 i3)
theorem run_impl_inRange_of {i1 : Int} {i2 : Int} {i3 : Int} {r : Res} (k : Nat) (h : impl_inRange (k + 1) (k + 1) i1 i2 i3 = some r) : run_impl_inRange [.one (Cell.int i1), .one (Cell.int i2), .one (Cell.int i3)] [] = some r := lim_of ((impl_inRange_eq k i1 i2 i3).trans h)
noncomputable def pl_impl_isFigure : List (Nat × Run) := []
noncomputable def G_impl_isFigure : Ctx := ctx tyTab fiTab pl_impl_isFigure
noncomputable def run_impl_isFigure : Run := lim G_impl_isFigure fid_impl_isFigure
theorem ok_impl_isFigure : FnOk Tryd.prog OkT fid_impl_isFigure run_impl_isFigure := lim_ok (l := pl_impl_isFigure) Tryd_mix tyTab_ok fiTab_ok okT .nil fid_impl_isFigure
noncomputable def impl_isFigure (k m : Nat) (i1 : Int) : Option Res :=
  cond (decide (i1 ≥ 48))
  (some ([.one (Cell.bool (decide (i1 ≤ 57)))], []))
  (some ([.one (Cell.bool false)], []))
theorem impl_isFigure_code (k m : Nat) (i1 : Int) : evC G_impl_isFigure fi_impl_isFigure (evF G_impl_isFigure (k + 1)) m fi_impl_isFigure.code none (retK G_impl_isFigure fi_impl_isFigure) (enter fi_impl_isFigure [.one (.sc (.int .u8 i1))] []) = impl_isFigure (k + 1) m i1 := by
  kernel_rfl
theorem impl_isFigure_eq (k : Nat) (i1 : Int) : evF G_impl_isFigure (k + 2) fid_impl_isFigure [.one (.sc (.int .u8 i1))] [] = impl_isFigure (k + 1) (k + 1) i1 :=
  Eq.trans (by kernel_rfl) (impl_isFigure_code k (k + 1) i1)
theorem run_impl_isFigure_of {i1 : Int} {r : Res} (k : Nat) (h : impl_isFigure (k + 1) (k + 1) i1 = some r) : run_impl_isFigure [.one (.sc (.int .u8 i1))] [] = some r := lim_of ((impl_isFigure_eq k i1).trans h)
noncomputable def pl_impl_isSmall : List (Nat × Run) := []
noncomputable def G_impl_isSmall : Ctx := ctx tyTab fiTab pl_impl_isSmall
noncomputable def run_impl_isSmall : Run := lim G_impl_isSmall fid_impl_isSmall
theorem ok_impl_isSmall : FnOk Tryd.prog OkT fid_impl_isSmall run_impl_isSmall := lim_ok (l := pl_impl_isSmall) Tryd_mix tyTab_ok fiTab_ok okT .nil fid_impl_isSmall
noncomputable def impl_isSmall (k m : Nat) (i1 : Int) : Option Res :=
  cond (decide (i1 ≥ 97))
  (some ([.one (Cell.bool (decide (i1 ≤ 122)))], []))
  (some ([.one (Cell.bool false)], []))
theorem impl_isSmall_code (k m : Nat) (i1 : Int) : evC G_impl_isSmall fi_impl_isSmall (evF G_impl_isSmall (k + 1)) m fi_impl_isSmall.code none (retK G_impl_isSmall fi_impl_isSmall) (enter fi_impl_isSmall [.one (.sc (.int .u8 i1))] []) = impl_isSmall (k + 1) m i1 := by
  kernel_rfl
theorem impl_isSmall_eq (k : Nat) (i1 : Int) : evF G_impl_isSmall (k + 2) fid_impl_isSmall [.one (.sc (.int .u8 i1))] [] = impl_isSmall (k + 1) (k + 1) i1 :=
  Eq.trans (by kernel_rfl) (impl_isSmall_code k (k + 1) i1)
theorem run_impl_isSmall_of {i1 : Int} {r : Res} (k : Nat) (h : impl_isSmall (k + 1) (k + 1) i1 = some r) : run_impl_isSmall [.one (.sc (.int .u8 i1))] [] = some r := lim_of ((impl_isSmall_eq k i1).trans h)
noncomputable def pl_strings_HasPrefix : List (Nat × Run) := [(fid_internal_stringslite_HasPrefix, run_internal_stringslite_HasPrefix)]
noncomputable def G_strings_HasPrefix : Ctx := ctx tyTab fiTab pl_strings_HasPrefix
noncomputable def run_strings_HasPrefix : Run := lim G_strings_HasPrefix fid_strings_HasPrefix
theorem ok_strings_HasPrefix : FnOk Tryd.prog OkT fid_strings_HasPrefix run_strings_HasPrefix := lim_ok (l := pl_strings_HasPrefix) Tryd_mix tyTab_ok fiTab_ok okT (.cons ok_internal_stringslite_HasPrefix .nil) fid_strings_HasPrefix
noncomputable def strings_HasPrefix (k m : Nat) (s1 : ByteArray) (s2 : ByteArray) : Option Res :=
  (callS run_internal_stringslite_HasPrefix [.one (Cell.str s1), .one (Cell.str s2)] []).bind fun r3 =>
  cond (shapeOk rk_internal_stringslite_HasPrefix r3)
  ((cB (cellsAt r3 0) 0).bind fun b4 =>
  some ([.one (Cell.bool b4)], []))
  none
theorem strings_HasPrefix_code (k m : Nat) (s1 : ByteArray) (s2 : ByteArray) : evC G_strings_HasPrefix fi_strings_HasPrefix (evF G_strings_HasPrefix (k + 1)) m fi_strings_HasPrefix.code none (retK G_strings_HasPrefix fi_strings_HasPrefix) (enter fi_strings_HasPrefix [.one (Cell.str s1), .one (Cell.str s2)] []) = strings_HasPrefix (k + 1) m s1 s2 := by
  kernel_rfl
theorem strings_HasPrefix_eq (k : Nat) (s1 : ByteArray) (s2 : ByteArray) : evF G_strings_HasPrefix (k + 2) fid_strings_HasPrefix [.one (Cell.str s1), .one (Cell.str s2)] [] = strings_HasPrefix (k + 1) (k + 1) s1 s2 :=
  Eq.trans (by kernel_rfl) (strings_HasPrefix_code k (k + 1) s1 s2)
theorem run_strings_HasPrefix_of {s1 : ByteArray} {s2 : ByteArray} {r : Res} (k : Nat) (h : strings_HasPrefix (k + 1) (k + 1) s1 s2 = some r) : run_strings_HasPrefix [.one (Cell.str s1), .one (Cell.str s2)] [] = some r := lim_of ((strings_HasPrefix_eq k s1 s2).trans h)
noncomputable def pl_impl_isPathByte : List (Nat × Run) := [(fid_impl_isFigure, run_impl_isFigure), (fid_impl_isSmall, run_impl_isSmall)]
noncomputable def G_impl_isPathByte : Ctx := ctx tyTab fiTab pl_impl_isPathByte
noncomputable def run_impl_isPathByte : Run := lim G_impl_isPathByte fid_impl_isPathByte
theorem ok_impl_isPathByte : FnOk Tryd.prog OkT fid_impl_isPathByte run_impl_isPathByte := lim_ok (l := pl_impl_isPathByte) Tryd_mix tyTab_ok fiTab_ok okT (.cons ok_impl_isFigure (.cons ok_impl_isSmall .nil)) fid_impl_isPathByte
noncomputable def impl_isPathByte (k m : Nat) (i1 : Int) : Option Res :=
  (callS run_impl_isSmall [.one (.sc (.int .u8 i1))] []).bind fun r2 =>
  cond (shapeOk rk_impl_isSmall r2)
  ((cB (cellsAt r2 0) 0).bind fun b3 =>
  cond b3
  (some ([.one (Cell.bool true)], []))
  ((callS run_impl_isFigure [.one (.sc (.int .u8 i1))] []).bind fun r4 =>
  cond (shapeOk rk_impl_isFigure r4)
  ((cB (cellsAt r4 0) 0).bind fun b5 =>
  cond b5
  (some ([.one (Cell.bool true)], []))
  (cond (i1 == 46)
  (some ([.one (Cell.bool true)], []))
  (cond (i1 == 45)
  (some ([.one (Cell.bool true)], []))
  (some ([.one (Cell.bool (i1 == 95))], [])))))
  none))
  none
theorem impl_isPathByte_code (k m : Nat) (i1 : Int) : evC G_impl_isPathByte fi_impl_isPathByte (evF G_impl_isPathByte (k + 1)) m fi_impl_isPathByte.code none (retK G_impl_isPathByte fi_impl_isPathByte) (enter fi_impl_isPathByte [.one (.sc (.int .u8 i1))] []) = impl_isPathByte (k + 1) m i1 := by
  kernel_rfl
theorem impl_isPathByte_eq (k : Nat) (i1 : Int) : evF G_impl_isPathByte (k + 2) fid_impl_isPathByte [.one (.sc (.int .u8 i1))] [] = impl_isPathByte (k + 1) (k + 1) i1 :=
  Eq.trans (by kernel_rfl) (impl_isPathByte_code k (k + 1) i1)
theorem run_impl_isPathByte_of {i1 : Int} {r : Res} (k : Nat) (h : impl_isPathByte (k + 1) (k + 1) i1 = some r) : run_impl_isPathByte [.one (.sc (.int .u8 i1))] [] = some r := lim_of ((impl_isPathByte_eq k i1).trans h)
noncomputable def pl_impl_unitOf : List (Nat × Run) := [(fid_impl_inRange, run_impl_inRange), (fid_impl_isFigure, run_impl_isFigure), (fid_impl_isSmall, run_impl_isSmall), (fid_strings_HasPrefix, run_strings_HasPrefix), (fid_impl_isPathByte, run_impl_isPathByte)]
noncomputable def G_impl_unitOf : Ctx := ctx tyTab fiTab pl_impl_unitOf
noncomputable def run_impl_unitOf : Run := lim G_impl_unitOf fid_impl_unitOf
theorem ok_impl_unitOf : FnOk Tryd.prog OkT fid_impl_unitOf run_impl_unitOf := lim_ok (l := pl_impl_unitOf) Tryd_mix tyTab_ok fiTab_ok okT (.cons ok_impl_inRange (.cons ok_impl_isFigure (.cons ok_impl_isSmall (.cons ok_strings_HasPrefix (.cons ok_impl_isPathByte .nil))))) fid_impl_unitOf
noncomputable def impl_unitOf_l1 (k m : Nat) : Nat → ByteArray → Int → Option Res
  | 0, _, _ => none
  | n + 1, s25, i26 =>
    cond (decide (i26 < (s25.size : Int)))
    ((bytS s25 i26).bind fun i27 =>
    (callS run_impl_isSmall [.one (.sc (.int .u8 i27))] []).bind fun r28 =>
    cond (shapeOk rk_impl_isSmall r28)
    ((cB (cellsAt r28 0) 0).bind fun b29 =>
    cond b29
    (impl_unitOf_l1 k m n s25 (IntKind.i64.wrap (i26 + 1)))
    ((bytS s25 i26).bind fun i30 =>
    (callS run_impl_isFigure [.one (.sc (.int .u8 i30))] []).bind fun r31 =>
    cond (shapeOk rk_impl_isFigure r31)
    ((cB (cellsAt r31 0) 0).bind fun b32 =>
    cond b32
    (impl_unitOf_l1 k m n s25 (IntKind.i64.wrap (i26 + 1)))
    ((callS run_impl_inRange [.one (Cell.int (IntKind.i64.wrap (i26 - 1))), .one (Cell.int 1), .one (Cell.int 5)] []).bind fun r33 =>
    cond (shapeOk rk_impl_inRange r33)
    ((cB (cellsAt r33 0) 0).bind fun b34 =>
    cond (!b34)
    (some ([.one (Cell.int 0)], []))
    (cond (i26 == (s25.size : Int))
    (some ([.one (Cell.int 0)], []))
    ((bytS s25 i26).bind fun i35 =>
    cond (i35 != 93)
    (some ([.one (Cell.int 0)], []))
    (some ([.one (Cell.int (IntKind.i64.wrap (i26 + 1)))], [])))))
    none))
    none))
    none)
    ((callS run_impl_inRange [.one (Cell.int (IntKind.i64.wrap (i26 - 1))), .one (Cell.int 1), .one (Cell.int 5)] []).bind fun r36 =>
    cond (shapeOk rk_impl_inRange r36)
    ((cB (cellsAt r36 0) 0).bind fun b37 =>
    cond (!b37)
    (some ([.one (Cell.int 0)], []))
    (cond (i26 == (s25.size : Int))
    (some ([.one (Cell.int 0)], []))
    ((bytS s25 i26).bind fun i38 =>
    cond (i38 != 93)
    (some ([.one (Cell.int 0)], []))
    (some ([.one (Cell.int (IntKind.i64.wrap (i26 + 1)))], [])))))
    none)
noncomputable def impl_unitOf_l0 (k m : Nat) : Nat → ByteArray → Int → Option Res
  | 0, _, _ => none
  | n + 1, s11, i12 =>
    cond (decide (i12 < (s11.size : Int)))
    ((bytS s11 i12).bind fun i13 =>
    (callS run_impl_isSmall [.one (.sc (.int .u8 i13))] []).bind fun r14 =>
    cond (shapeOk rk_impl_isSmall r14)
    ((cB (cellsAt r14 0) 0).bind fun b15 =>
    cond b15
    (impl_unitOf_l0 k m n s11 (IntKind.i64.wrap (i12 + 1)))
    ((bytS s11 i12).bind fun i16 =>
    (callS run_impl_isFigure [.one (.sc (.int .u8 i16))] []).bind fun r17 =>
    cond (shapeOk rk_impl_isFigure r17)
    ((cB (cellsAt r17 0) 0).bind fun b18 =>
    cond b18
    (impl_unitOf_l0 k m n s11 (IntKind.i64.wrap (i12 + 1)))
    ((callS run_impl_inRange [.one (Cell.int (IntKind.i64.wrap (i12 - 2))), .one (Cell.int 1), .one (Cell.int 5)] []).bind fun r19 =>
    cond (shapeOk rk_impl_inRange r19)
    ((cB (cellsAt r19 0) 0).bind fun b20 =>
    cond (!b20)
    (some ([.one (Cell.int 0)], []))
    (cond (i12 == (s11.size : Int))
    (some ([.one (Cell.int 0)], []))
    ((bytS s11 i12).bind fun i21 =>
    cond (i21 != 93)
    (some ([.one (Cell.int 0)], []))
    (some ([.one (Cell.int (IntKind.i64.wrap (i12 + 1)))], [])))))
    none))
    none))
    none)
    ((callS run_impl_inRange [.one (Cell.int (IntKind.i64.wrap (i12 - 2))), .one (Cell.int 1), .one (Cell.int 5)] []).bind fun r22 =>
    cond (shapeOk rk_impl_inRange r22)
    ((cB (cellsAt r22 0) 0).bind fun b23 =>
    cond (!b23)
    (some ([.one (Cell.int 0)], []))
    (cond (i12 == (s11.size : Int))
    (some ([.one (Cell.int 0)], []))
    ((bytS s11 i12).bind fun i24 =>
    cond (i24 != 93)
    (some ([.one (Cell.int 0)], []))
    (some ([.one (Cell.int (IntKind.i64.wrap (i12 + 1)))], [])))))
    none)
noncomputable def impl_unitOf (k m : Nat) (s1 : ByteArray) : Option Res :=
  (bytS s1 0).bind fun i2 =>
  (callS run_impl_isPathByte [.one (.sc (.int .u8 i2))] []).bind fun r3 =>
  cond (shapeOk rk_impl_isPathByte r3)
  ((cB (cellsAt r3 0) 0).bind fun b4 =>
  cond b4
  (some ([.one (Cell.int 1)], []))
  ((bytS s1 0).bind fun i5 =>
  cond (i5 == 63)
  (some ([.one (Cell.int 1)], []))
  ((bytS s1 0).bind fun i6 =>
  cond (i6 == 42)
  (some ([.one (Cell.int 1)], []))
  ((bytS s1 0).bind fun i7 =>
  cond (i7 != 91)
  (some ([.one (Cell.int 0)], []))
  ((subS s1 1 (s1.size : Int)).bind fun s8 =>
  (callS run_strings_HasPrefix [.one (Cell.str s8), .one (Cell.str (bs [33]))] []).bind fun r9 =>
  cond (shapeOk rk_strings_HasPrefix r9)
  ((cB (cellsAt r9 0) 0).bind fun b10 =>
  cond b10
  (impl_unitOf_l0 k m m s1 2)
  (impl_unitOf_l1 k m m s1 1))
  none)))))
  none
noncomputable abbrev impl_unitOf_l0_B (k m : Nat) : (Ex → Fr → Option Res) → Fr → Option Res := evC G_impl_unitOf fi_impl_unitOf (evF G_impl_unitOf (k + 1)) m (sub [1, 1, 1, 1, 1, 1, 0, 2, 3] fi_impl_unitOf.code) none
noncomputable abbrev impl_unitOf_l0_K (k m : Nat) : Ex → Fr → Option Res := blockK 0 (seqK (evC G_impl_unitOf fi_impl_unitOf (evF G_impl_unitOf (k + 1)) m (sub [1, 1, 1, 1, 1, 1, 1] fi_impl_unitOf.code) none) (retK G_impl_unitOf fi_impl_unitOf))
noncomputable abbrev impl_unitOf_l1_B (k m : Nat) : (Ex → Fr → Option Res) → Fr → Option Res := evC G_impl_unitOf fi_impl_unitOf (evF G_impl_unitOf (k + 1)) m (sub [1, 1, 1, 1, 1, 1, 0, 2, 3] fi_impl_unitOf.code) none
noncomputable abbrev impl_unitOf_l1_K (k m : Nat) : Ex → Fr → Option Res := blockK 0 (seqK (evC G_impl_unitOf fi_impl_unitOf (evF G_impl_unitOf (k + 1)) m (sub [1, 1, 1, 1, 1, 1, 1] fi_impl_unitOf.code) none) (retK G_impl_unitOf fi_impl_unitOf))
theorem impl_unitOf_l1_eq (k m : Nat) : ∀ (n : Nat) (s25 : ByteArray) (i26 : Int), loopK (some [0, 3, 4]) (impl_unitOf_l0_B k m) (impl_unitOf_l0_K k m) n ⟨fT 65 0 [(0, .av (.one (Cell.str s25))), (3, .av (.one (Cell.int i26))), (4, .av (.one (Cell.int 1)))], fX 65 0 [], []⟩ = impl_unitOf_l1 (k + 1) m n s25 i26 := by
  intro n
  induction n with
  | zero => intros; rfl
  | succ n ih =>
    intros
    simp only [impl_unitOf_l1, ← ih]
    kernel_rfl
theorem impl_unitOf_l0_eq (k m : Nat) : ∀ (n : Nat) (s11 : ByteArray) (i12 : Int), loopK (some [0, 3, 4]) (impl_unitOf_l0_B k m) (impl_unitOf_l0_K k m) n ⟨fT 65 0 [(0, .av (.one (Cell.str s11))), (3, .av (.one (Cell.int i12))), (4, .av (.one (Cell.int 2)))], fX 65 0 [], []⟩ = impl_unitOf_l0 (k + 1) m n s11 i12 := by
  intro n
  induction n with
  | zero => intros; rfl
  | succ n ih =>
    intros
    simp only [impl_unitOf_l0, ← ih]
    kernel_rfl
theorem impl_unitOf_code (k m : Nat) (s1 : ByteArray) : evC G_impl_unitOf fi_impl_unitOf (evF G_impl_unitOf (k + 1)) m fi_impl_unitOf.code none (retK G_impl_unitOf fi_impl_unitOf) (enter fi_impl_unitOf [.one (Cell.str s1)] []) = impl_unitOf (k + 1) m s1 := by
  simp only [impl_unitOf, ← impl_unitOf_l0_eq k m, ← impl_unitOf_l1_eq k m]
  kernel_rfl
theorem impl_unitOf_eq (k : Nat) (s1 : ByteArray) : evF G_impl_unitOf (k + 2) fid_impl_unitOf [.one (Cell.str s1)] [] = impl_unitOf (k + 1) (k + 1) s1 :=
  Eq.trans (by kernel_rfl) (impl_unitOf_code k (k + 1) s1)
theorem run_impl_unitOf_of {s1 : ByteArray} {r : Res} (k : Nat) (h : impl_unitOf (k + 1) (k + 1) s1 = some r) : run_impl_unitOf [.one (Cell.str s1)] [] = some r := lim_of ((impl_unitOf_eq k s1).trans h)
noncomputable def pl_impl_pieceOk : List (Nat × Run) := [(fid_impl_inRange, run_impl_inRange), (fid_impl_unitOf, run_impl_unitOf)]
noncomputable def G_impl_pieceOk : Ctx := ctx tyTab fiTab pl_impl_pieceOk
noncomputable def run_impl_pieceOk : Run := lim G_impl_pieceOk fid_impl_pieceOk
theorem ok_impl_pieceOk : FnOk Tryd.prog OkT fid_impl_pieceOk run_impl_pieceOk := lim_ok (l := pl_impl_pieceOk) Tryd_mix tyTab_ok fiTab_ok okT (.cons ok_impl_inRange (.cons ok_impl_unitOf .nil)) fid_impl_pieceOk
noncomputable def impl_pieceOk_l0 (k m : Nat) : Nat → Int → ByteArray → Option Res
  | 0, _, _ => none
  | n + 1, i2, s3 =>
    cond (!(s3.toList == (bs []).toList))
    ((callS run_impl_unitOf [.one (Cell.str s3)] []).bind fun r4 =>
    cond (shapeOk rk_impl_unitOf r4)
    ((cI .i64 (cellsAt r4 0) 0).bind fun i5 =>
    cond (i5 == 0)
    (some ([.one (Cell.bool false)], []))
    ((subS s3 i5 (s3.size : Int)).bind fun s6 =>
    impl_pieceOk_l0 k m n (IntKind.i64.wrap (i2 + 1)) s6))
    none)
    ((callS run_impl_inRange [.one (Cell.int i2), .one (Cell.int 1), .one (Cell.int 12)] []).bind fun r7 =>
    cond (shapeOk rk_impl_inRange r7)
    ((cB (cellsAt r7 0) 0).bind fun b8 =>
    some ([.one (Cell.bool b8)], []))
    none)
noncomputable def impl_pieceOk (k m : Nat) (s1 : ByteArray) : Option Res :=
  impl_pieceOk_l0 k m m 0 s1
noncomputable abbrev impl_pieceOk_l0_B (k m : Nat) : (Ex → Fr → Option Res) → Fr → Option Res := evC G_impl_pieceOk fi_impl_pieceOk (evF G_impl_pieceOk (k + 1)) m (sub [1, 1, 0, 1, 2, 3] fi_impl_pieceOk.code) none
noncomputable abbrev impl_pieceOk_l0_K (k m : Nat) : Ex → Fr → Option Res := blockK 0 (seqK (evC G_impl_pieceOk fi_impl_pieceOk (evF G_impl_pieceOk (k + 1)) m (sub [1, 1, 1] fi_impl_pieceOk.code) none) (retK G_impl_pieceOk fi_impl_pieceOk))
theorem impl_pieceOk_l0_eq (k m : Nat) : ∀ (n : Nat) (i2 : Int) (s3 : ByteArray), loopK (some [3, 4]) (impl_pieceOk_l0_B k m) (impl_pieceOk_l0_K k m) n ⟨fT 20 0 [(3, .av (.one (Cell.int i2))), (4, .av (.one (Cell.str s3)))], fX 20 0 [], []⟩ = impl_pieceOk_l0 (k + 1) m n i2 s3 := by
  intro n
  induction n with
  | zero => intros; rfl
  | succ n ih =>
    intros
    simp only [impl_pieceOk_l0, ← ih]
    kernel_rfl
theorem impl_pieceOk_code (k m : Nat) (s1 : ByteArray) : evC G_impl_pieceOk fi_impl_pieceOk (evF G_impl_pieceOk (k + 1)) m fi_impl_pieceOk.code none (retK G_impl_pieceOk fi_impl_pieceOk) (enter fi_impl_pieceOk [.one (Cell.str s1)] []) = impl_pieceOk (k + 1) m s1 := by
  simp only [impl_pieceOk, ← impl_pieceOk_l0_eq k m]
  kernel_rfl
theorem impl_pieceOk_eq (k : Nat) (s1 : ByteArray) : evF G_impl_pieceOk (k + 2) fid_impl_pieceOk [.one (Cell.str s1)] [] = impl_pieceOk (k + 1) (k + 1) s1 :=
  Eq.trans (by kernel_rfl) (impl_pieceOk_code k (k + 1) s1)
theorem run_impl_pieceOk_of {s1 : ByteArray} {r : Res} (k : Nat) (h : impl_pieceOk (k + 1) (k + 1) s1 = some r) : run_impl_pieceOk [.one (Cell.str s1)] [] = some r := lim_of ((impl_pieceOk_eq k s1).trans h)
noncomputable def pl_impl_GlobOk : List (Nat × Run) := [(fid_strings_Split, run_strings_Split), (fid_impl_pieceOk, run_impl_pieceOk)]
noncomputable def G_impl_GlobOk : Ctx := ctx tyTab fiTab pl_impl_GlobOk
noncomputable def run_impl_GlobOk : Run := lim G_impl_GlobOk fid_impl_GlobOk
theorem ok_impl_GlobOk : FnOk Tryd.prog OkT fid_impl_GlobOk run_impl_GlobOk := lim_ok (l := pl_impl_GlobOk) Tryd_mix tyTab_ok fiTab_ok okT (.cons ok_strings_Split (.cons ok_impl_pieceOk .nil)) fid_impl_GlobOk
noncomputable def impl_GlobOk_l0 (k m : Nat) : Nat → Cell → Cell → Int → Int → List Entry → Option Res
  | 0, _, _, _, _, _ => none
  | n + 1, c5, c6, i7, i8, H9 =>
    cond (decide (i8 < i7))
    ((idxA 1 (c6) i8).bind fun c10 =>
    (deref H9 (c10)).bind fun p11 =>
    (cS p11.1 p11.2).bind fun s12 =>
    (callS run_impl_pieceOk [.one (Cell.str s12)] H9).bind fun r13 =>
    cond (shapeOk rk_impl_pieceOk r13)
    ((cB (cellsAt r13 0) 0).bind fun b14 =>
    cond (!b14)
    (some ([.one (Cell.bool false)], H9))
    (impl_GlobOk_l0 k m n (c5) (c6) i7 (IntKind.i64.wrap (i8 + 1)) H9))
    none)
    ((lenC c5).bind fun n15 =>
    some ([.one (Cell.bool (decide ((n15 : Int) ≤ 4)))], H9))
noncomputable def impl_GlobOk (k m : Nat) (s1 : ByteArray) : Option Res :=
  (callL run_strings_Split [.one (Cell.str s1), .one (Cell.str (bs [47]))] []).bind fun r2 =>
  cond (shapeOk rk_strings_Split r2.1)
  ((cC (cellsAt r2.1 0) 0).bind fun c3 =>
  (lenC c3).bind fun n4 =>
  impl_GlobOk_l0 k m m (c3) (c3) (n4 : Int) 0 r2.2)
  none
noncomputable abbrev impl_GlobOk_l0_B (k m : Nat) : (Ex → Fr → Option Res) → Fr → Option Res := evC G_impl_GlobOk fi_impl_GlobOk (evF G_impl_GlobOk (k + 1)) m (sub [1, 1, 0, 1, 2, 3] fi_impl_GlobOk.code) none
noncomputable abbrev impl_GlobOk_l0_K (k m : Nat) : Ex → Fr → Option Res := blockK 0 (seqK (evC G_impl_GlobOk fi_impl_GlobOk (evF G_impl_GlobOk (k + 1)) m (sub [1, 1, 1] fi_impl_GlobOk.code) none) (retK G_impl_GlobOk fi_impl_GlobOk))
theorem impl_GlobOk_l0_eq (k m : Nat) : ∀ (n : Nat) (c5 : Cell) (c6 : Cell) (i7 : Int) (i8 : Int) (H9 : List Entry), loopK (some [3, 8, 9, 10]) (impl_GlobOk_l0_B k m) (impl_GlobOk_l0_K k m) n ⟨fT 21 0 [(3, .av (.one (c5))), (8, .av (.one (c6))), (9, .av (.one (Cell.int i7))), (10, .av (.one (Cell.int i8)))], fX 21 0 [], H9⟩ = impl_GlobOk_l0 (k + 1) m n c5 c6 i7 i8 H9 := by
  intro n
  induction n with
  | zero => intros; rfl
  | succ n ih =>
    intros
    simp only [impl_GlobOk_l0, ← ih]
    kernel_rfl
theorem impl_GlobOk_code (k m : Nat) (s1 : ByteArray) : evC G_impl_GlobOk fi_impl_GlobOk (evF G_impl_GlobOk (k + 1)) m fi_impl_GlobOk.code none (retK G_impl_GlobOk fi_impl_GlobOk) (enter fi_impl_GlobOk [.one (Cell.str s1)] []) = impl_GlobOk (k + 1) m s1 := by
  simp only [impl_GlobOk, ← impl_GlobOk_l0_eq k m]
  kernel_rfl
theorem impl_GlobOk_eq (k : Nat) (s1 : ByteArray) : evF G_impl_GlobOk (k + 2) fid_impl_GlobOk [.one (Cell.str s1)] [] = impl_GlobOk (k + 1) (k + 1) s1 :=
  Eq.trans (by kernel_rfl) (impl_GlobOk_code k (k + 1) s1)
theorem run_impl_GlobOk_of {s1 : ByteArray} {r : Res} (k : Nat) (h : impl_GlobOk (k + 1) (k + 1) s1 = some r) : run_impl_GlobOk [.one (Cell.str s1)] [] = some r := lim_of ((impl_GlobOk_eq k s1).trans h)
noncomputable def pl_slices_Index_string : List (Nat × Run) := []
noncomputable def G_slices_Index_string : Ctx := ctx tyTab fiTab pl_slices_Index_string
noncomputable def run_slices_Index_string : Run := lim G_slices_Index_string fid_slices_Index_string
theorem ok_slices_Index_string : FnOk Tryd.prog OkT fid_slices_Index_string run_slices_Index_string := lim_ok (l := pl_slices_Index_string) Tryd_mix tyTab_ok fiTab_ok okT .nil fid_slices_Index_string
noncomputable def slices_Index_string_l0 (k m : Nat) : Nat → Cell → ByteArray → Int → Int → Option Res
  | 0, _, _, _, _ => none
  | n + 1, c4, s5, i6, i7 =>
    cond (decide (i7 < i6))
    ((idxA 1 (c4) i7).bind fun c8 =>
    (deref [] (c8)).bind fun p9 =>
    (cS p9.1 p9.2).bind fun s10 =>
    cond (s5.toList == s10.toList)
    (some ([.one (Cell.int i7)], []))
    (slices_Index_string_l0 k m n (c4) s5 i6 (IntKind.i64.wrap (i7 + 1))))
    (some ([.one (Cell.int (-1))], []))
noncomputable def slices_Index_string (k m : Nat) (c1 : Cell) (s2 : ByteArray) : Option Res :=
  (lenC c1).bind fun n3 =>
  slices_Index_string_l0 k m m (c1) s2 (n3 : Int) 0
noncomputable abbrev slices_Index_string_l0_B (k m : Nat) : (Ex → Fr → Option Res) → Fr → Option Res := evC G_slices_Index_string fi_slices_Index_string (evF G_slices_Index_string (k + 1)) m (sub [1, 0, 1, 2, 3] fi_slices_Index_string.code) none
noncomputable abbrev slices_Index_string_l0_K (k m : Nat) : Ex → Fr → Option Res := blockK 0 (seqK (evC G_slices_Index_string fi_slices_Index_string (evF G_slices_Index_string (k + 1)) m (sub [1, 1] fi_slices_Index_string.code) none) (retK G_slices_Index_string fi_slices_Index_string))
theorem slices_Index_string_l0_eq (k m : Nat) : ∀ (n : Nat) (c4 : Cell) (s5 : ByteArray) (i6 : Int) (i7 : Int), loopK (some [0, 1, 7, 8]) (slices_Index_string_l0_B k m) (slices_Index_string_l0_K k m) n ⟨fT 19 0 [(0, .av (.one (c4))), (1, .av (.one (Cell.str s5))), (7, .av (.one (Cell.int i6))), (8, .av (.one (Cell.int i7)))], fX 19 0 [], []⟩ = slices_Index_string_l0 (k + 1) m n c4 s5 i6 i7 := by
  intro n
  induction n with
  | zero => intros; rfl
  | succ n ih =>
    intros
    simp only [slices_Index_string_l0, ← ih]
    kernel_rfl
theorem slices_Index_string_code (k m : Nat) (c1 : Cell) (s2 : ByteArray) : evC G_slices_Index_string fi_slices_Index_string (evF G_slices_Index_string (k + 1)) m fi_slices_Index_string.code none (retK G_slices_Index_string fi_slices_Index_string) (enter fi_slices_Index_string [.one (c1), .one (Cell.str s2)] []) = slices_Index_string (k + 1) m c1 s2 := by
  simp only [slices_Index_string, ← slices_Index_string_l0_eq k m]
  kernel_rfl
theorem slices_Index_string_eq (k : Nat) (c1 : Cell) (s2 : ByteArray) : evF G_slices_Index_string (k + 2) fid_slices_Index_string [.one (c1), .one (Cell.str s2)] [] = slices_Index_string (k + 1) (k + 1) c1 s2 :=
  Eq.trans (by kernel_rfl) (slices_Index_string_code k (k + 1) c1 s2)
theorem run_slices_Index_string_of {c1 : Cell} {s2 : ByteArray} {r : Res} (k : Nat) (h : slices_Index_string (k + 1) (k + 1) c1 s2 = some r) : run_slices_Index_string [.one (c1), .one (Cell.str s2)] [] = some r := lim_of ((slices_Index_string_eq k c1 s2).trans h)
noncomputable def pl_slices_Contains_string : List (Nat × Run) := [(fid_slices_Index_string, run_slices_Index_string)]
noncomputable def G_slices_Contains_string : Ctx := ctx tyTab fiTab pl_slices_Contains_string
noncomputable def run_slices_Contains_string : Run := lim G_slices_Contains_string fid_slices_Contains_string
theorem ok_slices_Contains_string : FnOk Tryd.prog OkT fid_slices_Contains_string run_slices_Contains_string := lim_ok (l := pl_slices_Contains_string) Tryd_mix tyTab_ok fiTab_ok okT (.cons ok_slices_Index_string .nil) fid_slices_Contains_string
noncomputable def slices_Contains_string (k m : Nat) (c1 : Cell) (s2 : ByteArray) : Option Res :=
  (callS run_slices_Index_string [.one (c1), .one (Cell.str s2)] []).bind fun r3 =>
  cond (shapeOk rk_slices_Index_string r3)
  ((cI .i64 (cellsAt r3 0) 0).bind fun i4 =>
  some ([.one (Cell.bool (decide (i4 ≥ 0)))], []))
  none
theorem slices_Contains_string_code (k m : Nat) (c1 : Cell) (s2 : ByteArray) : evC G_slices_Contains_string fi_slices_Contains_string (evF G_slices_Contains_string (k + 1)) m fi_slices_Contains_string.code none (retK G_slices_Contains_string fi_slices_Contains_string) (enter fi_slices_Contains_string [.one (c1), .one (Cell.str s2)] []) = slices_Contains_string (k + 1) m c1 s2 := by
  kernel_rfl
theorem slices_Contains_string_eq (k : Nat) (c1 : Cell) (s2 : ByteArray) : evF G_slices_Contains_string (k + 2) fid_slices_Contains_string [.one (c1), .one (Cell.str s2)] [] = slices_Contains_string (k + 1) (k + 1) c1 s2 :=
  Eq.trans (by kernel_rfl) (slices_Contains_string_code k (k + 1) c1 s2)
theorem run_slices_Contains_string_of {c1 : Cell} {s2 : ByteArray} {r : Res} (k : Nat) (h : slices_Contains_string (k + 1) (k + 1) c1 s2 = some r) : run_slices_Contains_string [.one (c1), .one (Cell.str s2)] [] = some r := lim_of ((slices_Contains_string_eq k c1 s2).trans h)
noncomputable def pl_impl_less : List (Nat × Run) := [(fid_slices_Contains_string, run_slices_Contains_string)]
noncomputable def G_impl_less : Ctx := ctx tyTab fiTab pl_impl_less
noncomputable def run_impl_less : Run := lim G_impl_less fid_impl_less
theorem ok_impl_less : FnOk Tryd.prog OkT fid_impl_less run_impl_less := lim_ok (l := pl_impl_less) Tryd_mix tyTab_ok fiTab_ok okT (.cons ok_slices_Contains_string .nil) fid_impl_less
noncomputable def impl_less_l0 (k m : Nat) : Nat → Cell → Cell → Cell → Int → Int → List Entry → Option Res
  | 0, _, _, _, _, _, _ => none
  | n + 1, c4, c5, c6, i7, i8, H9 =>
    cond (decide (i8 < i7))
    ((idxA 1 (c6) i8).bind fun c10 =>
    (deref H9 (c10)).bind fun p11 =>
    (cS p11.1 p11.2).bind fun s12 =>
    (callS run_slices_Contains_string [.one (c4), .one (Cell.str s12)] H9).bind fun r13 =>
    cond (shapeOk rk_slices_Contains_string r13)
    ((cB (cellsAt r13 0) 0).bind fun b14 =>
    cond (!b14)
    ((app H9 1 16 (c5) [[Cell.str s12]]).bind fun p15 =>
    impl_less_l0 k m n (c4) (p15.1) (c6) i7 (IntKind.i64.wrap (i8 + 1)) p15.2)
    (impl_less_l0 k m n (c4) (c5) (c6) i7 (IntKind.i64.wrap (i8 + 1)) H9))
    none)
    (some ([.one (c5)], H9))
noncomputable def impl_less (k m : Nat) (c1 : Cell) (c2 : Cell) : Option Res :=
  (lenC c1).bind fun n3 =>
  impl_less_l0 k m m (c2) (.lst true 1 []) (c1) (n3 : Int) 0 []
noncomputable abbrev impl_less_l0_B (k m : Nat) : (Ex → Fr → Option Res) → Fr → Option Res := evC G_impl_less fi_impl_less (evF G_impl_less (k + 1)) m (sub [1, 1, 0, 1, 2, 3] fi_impl_less.code) none
noncomputable abbrev impl_less_l0_K (k m : Nat) : Ex → Fr → Option Res := blockK 0 (seqK (evC G_impl_less fi_impl_less (evF G_impl_less (k + 1)) m (sub [1, 1, 1] fi_impl_less.code) none) (retK G_impl_less fi_impl_less))
theorem impl_less_l0_eq (k m : Nat) : ∀ (n : Nat) (c4 : Cell) (c5 : Cell) (c6 : Cell) (i7 : Int) (i8 : Int) (H9 : List Entry), loopK (some [1, 5, 8, 9, 10]) (impl_less_l0_B k m) (impl_less_l0_K k m) n ⟨fT 24 0 [(1, .av (.one (c4))), (5, .av (.one (c5))), (8, .av (.one (c6))), (9, .av (.one (Cell.int i7))), (10, .av (.one (Cell.int i8)))], fX 24 0 [], H9⟩ = impl_less_l0 (k + 1) m n c4 c5 c6 i7 i8 H9 := by
  intro n
  induction n with
  | zero => intros; rfl
  | succ n ih =>
    intros
    simp only [impl_less_l0, ← ih]
    kernel_rfl
theorem impl_less_code (k m : Nat) (c1 : Cell) (c2 : Cell) : evC G_impl_less fi_impl_less (evF G_impl_less (k + 1)) m fi_impl_less.code none (retK G_impl_less fi_impl_less) (enter fi_impl_less [.one (c1), .one (c2)] []) = impl_less (k + 1) m c1 c2 := by
  simp only [impl_less, ← impl_less_l0_eq k m]
  kernel_rfl
theorem impl_less_eq (k : Nat) (c1 : Cell) (c2 : Cell) : evF G_impl_less (k + 2) fid_impl_less [.one (c1), .one (c2)] [] = impl_less (k + 1) (k + 1) c1 c2 :=
  Eq.trans (by kernel_rfl) (impl_less_code k (k + 1) c1 c2)
theorem run_impl_less_of {c1 : Cell} {c2 : Cell} {r : Res} (k : Nat) (h : impl_less (k + 1) (k + 1) c1 c2 = some r) : run_impl_less [.one (c1), .one (c2)] [] = some r := lim_of ((impl_less_eq k c1 c2).trans h)
noncomputable def pl_impl_graphOf : List (Nat × Run) := []
noncomputable def G_impl_graphOf : Ctx := ctx tyTab fiTab pl_impl_graphOf
noncomputable def run_impl_graphOf : Run := lim G_impl_graphOf fid_impl_graphOf
theorem ok_impl_graphOf : FnOk Tryd.prog OkT fid_impl_graphOf run_impl_graphOf := lim_ok (l := pl_impl_graphOf) Tryd_mix tyTab_ok fiTab_ok okT .nil fid_impl_graphOf
noncomputable def impl_graphOf_l0 (k m : Nat) : Nat → Cell → Cell → Int → Int → List Entry → Option Res
  | 0, _, _, _, _, _ => none
  | n + 1, c3, c4, i5, i6, H7 =>
    cond (decide (i6 < i5))
    ((idxA 4 (c4) i6).bind fun c8 =>
    (deref H7 (c8)).bind fun p9 =>
    (cS p9.1 p9.2).bind fun s10 =>
    (cC p9.1 (p9.2 + 1)).bind fun c11 =>
    (cC p9.1 ((p9.2 + 1) + 1)).bind fun c12 =>
    (cC p9.1 (((p9.2 + 1) + 1) + 1)).bind fun c13 =>
    (ptrC c3).bind fun c14 =>
    (fldA c14 0).bind fun c15 =>
    (deref H7 (c15)).bind fun p16 =>
    (cC p16.1 p16.2).bind fun c17 =>
    (app H7 1 16 (c17) [[Cell.str s10]]).bind fun p18 =>
    (ptrC c3).bind fun c19 =>
    (fldA c19 0).bind fun c20 =>
    (hStore p18.2 (c20) [p18.1]).bind fun h21 =>
    (ptrC c3).bind fun c22 =>
    (fldA c22 1).bind fun c23 =>
    (deref h21 (c23)).bind fun p24 =>
    (cC p24.1 p24.2).bind fun c25 =>
    restK [c11] fun d26 =>
    (srcRows h21 1 (.lst true 1 (chunks 1 1 d26))).bind fun r27 =>
    (app h21 1 24 (c25) r27).bind fun p28 =>
    (ptrC c3).bind fun c29 =>
    (fldA c29 1).bind fun c30 =>
    (hStore p28.2 (c30) [p28.1]).bind fun h31 =>
    impl_graphOf_l0 k m n (c3) (c4) i5 (IntKind.i64.wrap (i6 + 1)) h31)
    (some ([.one (c3)], H7))
noncomputable def impl_graphOf (k m : Nat) (c1 : Cell) (H : List Entry) : Option Res :=
  (lenC c1).bind fun n2 =>
  impl_graphOf_l0 k m m (.ptr H.length 2 0 0 0) (c1) (n2 : Int) 0 (H ++ [Entry.mk 2 [[.lst true 1 [], .lst true 1 []]] 0 false])
noncomputable abbrev impl_graphOf_l0_B (k m : Nat) : (Ex → Fr → Option Res) → Fr → Option Res := evC G_impl_graphOf fi_impl_graphOf (evF G_impl_graphOf (k + 1)) m (sub [1, 1, 0, 1, 2, 3] fi_impl_graphOf.code) none
noncomputable abbrev impl_graphOf_l0_K (k m : Nat) : Ex → Fr → Option Res := blockK 0 (seqK (evC G_impl_graphOf fi_impl_graphOf (evF G_impl_graphOf (k + 1)) m (sub [1, 1, 1] fi_impl_graphOf.code) none) (retK G_impl_graphOf fi_impl_graphOf))
theorem impl_graphOf_l0_eq (k m : Nat) : ∀ (n : Nat) (c3 : Cell) (c4 : Cell) (i5 : Int) (i6 : Int) (H7 : List Entry), loopK (some [3, 8, 9, 10]) (impl_graphOf_l0_B k m) (impl_graphOf_l0_K k m) n ⟨fT 38 0 [(3, .av (.one (c3))), (8, .av (.one (c4))), (9, .av (.one (Cell.int i5))), (10, .av (.one (Cell.int i6)))], fX 38 0 [], H7⟩ = impl_graphOf_l0 (k + 1) m n c3 c4 i5 i6 H7 := by
  intro n
  induction n with
  | zero => intros; rfl
  | succ n ih =>
    intros
    simp only [impl_graphOf_l0, ← ih]
    kernel_rfl
theorem impl_graphOf_code (k m : Nat) (c1 : Cell) (H : List Entry) : evC G_impl_graphOf fi_impl_graphOf (evF G_impl_graphOf (k + 1)) m fi_impl_graphOf.code none (retK G_impl_graphOf fi_impl_graphOf) (enter fi_impl_graphOf [.one (c1)] H) = impl_graphOf (k + 1) m c1 H := by
  simp only [impl_graphOf, ← impl_graphOf_l0_eq k m]
  kernel_rfl
theorem impl_graphOf_eq (k : Nat) (c1 : Cell) (H : List Entry) : evF G_impl_graphOf (k + 2) fid_impl_graphOf [.one (c1)] H = impl_graphOf (k + 1) (k + 1) c1 H :=
  Eq.trans (by kernel_rfl) (impl_graphOf_code k (k + 1) c1 H)
theorem run_impl_graphOf_of {c1 : Cell} {H : List Entry} {r : Res} (k : Nat) (h : impl_graphOf (k + 1) (k + 1) c1 H = some r) : run_impl_graphOf [.one (c1)] H = some r := lim_of ((impl_graphOf_eq k c1 H).trans h)
noncomputable def pl_impl_sieve_all : List (Nat × Run) := []
noncomputable def G_impl_sieve_all : Ctx := ctx tyTab fiTab pl_impl_sieve_all
noncomputable def run_impl_sieve_all : Run := lim G_impl_sieve_all fid_impl_sieve_all
theorem ok_impl_sieve_all : FnOk Tryd.prog OkT fid_impl_sieve_all run_impl_sieve_all := lim_ok (l := pl_impl_sieve_all) Tryd_mix tyTab_ok fiTab_ok okT .nil fid_impl_sieve_all
noncomputable def impl_sieve_all_l0 (k m : Nat) : Nat → Cell → Cell → Int → Int → List Entry → Option Res
  | 0, _, _, _, _, _ => none
  | n + 1, c7, c8, i9, i10, H11 =>
    cond (decide (i10 < i9))
    ((idxA 4 (c8) i10).bind fun c12 =>
    (deref H11 (c12)).bind fun p13 =>
    (cS p13.1 p13.2).bind fun s14 =>
    (cC p13.1 (p13.2 + 1)).bind fun c15 =>
    (cC p13.1 ((p13.2 + 1) + 1)).bind fun c16 =>
    (cC p13.1 (((p13.2 + 1) + 1) + 1)).bind fun c17 =>
    (app H11 1 16 (c7) [[Cell.str s14]]).bind fun p18 =>
    impl_sieve_all_l0 k m n (p18.1) (c8) i9 (IntKind.i64.wrap (i10 + 1)) p18.2)
    (some ([.one (c7)], H11))
noncomputable def impl_sieve_all (k m : Nat) (c1 : Cell) (H : List Entry) : Option Res :=
  (ptrC c1).bind fun c2 =>
  (fldA c2 0).bind fun c3 =>
  (deref H (c3)).bind fun p4 =>
  (cC p4.1 p4.2).bind fun c5 =>
  (lenC c5).bind fun n6 =>
  impl_sieve_all_l0 k m m (.lst true 1 []) (c5) (n6 : Int) 0 H
noncomputable abbrev impl_sieve_all_l0_B (k m : Nat) : (Ex → Fr → Option Res) → Fr → Option Res := evC G_impl_sieve_all fi_impl_sieve_all (evF G_impl_sieve_all (k + 1)) m (sub [1, 1, 0, 1, 2, 3] fi_impl_sieve_all.code) none
noncomputable abbrev impl_sieve_all_l0_K (k m : Nat) : Ex → Fr → Option Res := blockK 0 (seqK (evC G_impl_sieve_all fi_impl_sieve_all (evF G_impl_sieve_all (k + 1)) m (sub [1, 1, 1] fi_impl_sieve_all.code) none) (retK G_impl_sieve_all fi_impl_sieve_all))
theorem impl_sieve_all_l0_eq (k m : Nat) : ∀ (n : Nat) (c7 : Cell) (c8 : Cell) (i9 : Int) (i10 : Int) (H11 : List Entry), loopK (some [3, 9, 10, 11]) (impl_sieve_all_l0_B k m) (impl_sieve_all_l0_K k m) n ⟨fT 22 0 [(3, .av (.one (c7))), (9, .av (.one (c8))), (10, .av (.one (Cell.int i9))), (11, .av (.one (Cell.int i10)))], fX 22 0 [], H11⟩ = impl_sieve_all_l0 (k + 1) m n c7 c8 i9 i10 H11 := by
  intro n
  induction n with
  | zero => intros; rfl
  | succ n ih =>
    intros
    simp only [impl_sieve_all_l0, ← ih]
    kernel_rfl
theorem impl_sieve_all_code (k m : Nat) (c1 : Cell) (H : List Entry) : evC G_impl_sieve_all fi_impl_sieve_all (evF G_impl_sieve_all (k + 1)) m fi_impl_sieve_all.code none (retK G_impl_sieve_all fi_impl_sieve_all) (enter fi_impl_sieve_all [.one (c1)] H) = impl_sieve_all (k + 1) m c1 H := by
  simp only [impl_sieve_all, ← impl_sieve_all_l0_eq k m]
  kernel_rfl
theorem impl_sieve_all_eq (k : Nat) (c1 : Cell) (H : List Entry) : evF G_impl_sieve_all (k + 2) fid_impl_sieve_all [.one (c1)] H = impl_sieve_all (k + 1) (k + 1) c1 H :=
  Eq.trans (by kernel_rfl) (impl_sieve_all_code k (k + 1) c1 H)
theorem run_impl_sieve_all_of {c1 : Cell} {H : List Entry} {r : Res} (k : Nat) (h : impl_sieve_all (k + 1) (k + 1) c1 H = some r) : run_impl_sieve_all [.one (c1)] H = some r := lim_of ((impl_sieve_all_eq k c1 H).trans h)
noncomputable def pl_slices_Clone_string : List (Nat × Run) := []
noncomputable def G_slices_Clone_string : Ctx := ctx tyTab fiTab pl_slices_Clone_string
noncomputable def run_slices_Clone_string : Run := lim G_slices_Clone_string fid_slices_Clone_string
theorem ok_slices_Clone_string : FnOk Tryd.prog OkT fid_slices_Clone_string run_slices_Clone_string := lim_ok (l := pl_slices_Clone_string) Tryd_mix tyTab_ok fiTab_ok okT .nil fid_slices_Clone_string
noncomputable def slices_Clone_string (k m : Nat) (c1 : Cell) : Option Res :=
  nilC (c1)
  (both
  (some ([.one (.lst true 1 [])], []))
  ((srcRows [] 1 c1).bind fun r2 =>
  (app [] 1 16 (.lst true 1 []) r2).bind fun p3 =>
  some ([.one (p3.1)], p3.2)))
  ((srcRows [] 1 c1).bind fun r4 =>
  (app [] 1 16 (.lst true 1 []) r4).bind fun p5 =>
  some ([.one (p5.1)], p5.2))
theorem slices_Clone_string_code (k m : Nat) (c1 : Cell) : evC G_slices_Clone_string fi_slices_Clone_string (evF G_slices_Clone_string (k + 1)) m fi_slices_Clone_string.code none (retK G_slices_Clone_string fi_slices_Clone_string) (enter fi_slices_Clone_string [.one (c1)] []) = slices_Clone_string (k + 1) m c1 := by
  kernel_rfl
theorem slices_Clone_string_eq (k : Nat) (c1 : Cell) : evF G_slices_Clone_string (k + 2) fid_slices_Clone_string [.one (c1)] [] = slices_Clone_string (k + 1) (k + 1) c1 :=
  Eq.trans (by kernel_rfl) (slices_Clone_string_code k (k + 1) c1)
theorem run_slices_Clone_string_of {c1 : Cell} {r : Res} (k : Nat) (h : slices_Clone_string (k + 1) (k + 1) c1 = some r) : run_slices_Clone_string [.one (c1)] [] = some r := lim_of ((slices_Clone_string_eq k c1).trans h)
noncomputable def pl_slices_Clip_string : List (Nat × Run) := []
noncomputable def G_slices_Clip_string : Ctx := ctx tyTab fiTab pl_slices_Clip_string
noncomputable def run_slices_Clip_string : Run := lim G_slices_Clip_string fid_slices_Clip_string
theorem ok_slices_Clip_string : FnOk Tryd.prog OkT fid_slices_Clip_string run_slices_Clip_string := lim_ok (l := pl_slices_Clip_string) Tryd_mix tyTab_ok fiTab_ok okT .nil fid_slices_Clip_string
noncomputable def slices_Clip_string (k m : Nat) (c1 : Cell) (H : List Entry) : Option Res :=
  (lenC c1).bind fun n2 =>
  (lenC c1).bind fun n3 =>
  (slcC 1 (c1) 0 (some (n2 : Int)) (some (n3 : Int))).bind fun c4 =>
  some ([.one (c4)], H)
theorem slices_Clip_string_code (k m : Nat) (c1 : Cell) (H : List Entry) : evC G_slices_Clip_string fi_slices_Clip_string (evF G_slices_Clip_string (k + 1)) m fi_slices_Clip_string.code none (retK G_slices_Clip_string fi_slices_Clip_string) (enter fi_slices_Clip_string [.one (c1)] H) = slices_Clip_string (k + 1) m c1 H := by
  kernel_rfl
theorem slices_Clip_string_eq (k : Nat) (c1 : Cell) (H : List Entry) : evF G_slices_Clip_string (k + 2) fid_slices_Clip_string [.one (c1)] H = slices_Clip_string (k + 1) (k + 1) c1 H :=
  Eq.trans (by kernel_rfl) (slices_Clip_string_code k (k + 1) c1 H)
theorem run_slices_Clip_string_of {c1 : Cell} {H : List Entry} {r : Res} (k : Nat) (h : slices_Clip_string (k + 1) (k + 1) c1 H = some r) : run_slices_Clip_string [.one (c1)] H = some r := lim_of ((slices_Clip_string_eq k c1 H).trans h)
noncomputable def pl_impl_Sorted : List (Nat × Run) := [(fid_slices_Clone_string, run_slices_Clone_string), (fid_slices_Sort_string, run_slices_Sort_string), (fid_slices_Clip_string, run_slices_Clip_string), (fid_slices_Compact_string, run_slices_Compact_string)]
noncomputable def G_impl_Sorted : Ctx := ctx tyTab fiTab pl_impl_Sorted
noncomputable def run_impl_Sorted : Run := lim G_impl_Sorted fid_impl_Sorted
theorem ok_impl_Sorted : FnOk Tryd.prog OkT fid_impl_Sorted run_impl_Sorted := lim_ok (l := pl_impl_Sorted) Tryd_mix tyTab_ok fiTab_ok okT (.cons ok_slices_Clone_string (.cons ok_slices_Sort_string (.cons ok_slices_Clip_string (.cons ok_slices_Compact_string .nil)))) fid_impl_Sorted
noncomputable def impl_Sorted (k m : Nat) (c1 : Cell) : Option Res :=
  (callF run_slices_Clone_string [.one (c1)] []).bind fun r2 =>
  cond (shapeOk rk_slices_Clone_string r2.1)
  ((cC (cellsAt r2.1 0) 0).bind fun c3 =>
  (run_slices_Sort_string [.one (c3)] r2.2).bind fun r4 =>
  cond (shapeOk rk_slices_Sort_string r4.1)
  ((run_slices_Compact_string [.one (c3)] r4.2).bind fun r5 =>
  cond (shapeOk rk_slices_Compact_string r5.1)
  ((cC (cellsAt r5.1 0) 0).bind fun c6 =>
  (run_slices_Clip_string [.one (c6)] r5.2).bind fun r7 =>
  cond (shapeOk rk_slices_Clip_string r7.1)
  ((cC (cellsAt r7.1 0) 0).bind fun c8 =>
  some ([.one (c8)], r7.2))
  none)
  none)
  none)
  none
theorem impl_Sorted_code (k m : Nat) (c1 : Cell) : evC G_impl_Sorted fi_impl_Sorted (evF G_impl_Sorted (k + 1)) m fi_impl_Sorted.code none (retK G_impl_Sorted fi_impl_Sorted) (enter fi_impl_Sorted [.one (c1)] []) = impl_Sorted (k + 1) m c1 := by
  kernel_rfl
theorem impl_Sorted_eq (k : Nat) (c1 : Cell) : evF G_impl_Sorted (k + 2) fid_impl_Sorted [.one (c1)] [] = impl_Sorted (k + 1) (k + 1) c1 :=
  Eq.trans (by kernel_rfl) (impl_Sorted_code k (k + 1) c1)
theorem run_impl_Sorted_of {c1 : Cell} {r : Res} (k : Nat) (h : impl_Sorted (k + 1) (k + 1) c1 = some r) : run_impl_Sorted [.one (c1)] [] = some r := lim_of ((impl_Sorted_eq k c1).trans h)
end Go.Ev
