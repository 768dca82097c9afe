/- What the evaluator says of the functions, each as a Lean function over cells. Printed by a program of this claim. Conditions: none. -/
import Derived.Test.YtholafaogipaiaaDoorSh0
import Derived.KernelRfl
namespace Go.Ev
open Go Go.Proofs
set_option maxRecDepth 100000
set_option linter.unusedVariables false
set_option linter.unusedSimpArgs false
noncomputable def pl_internal_bytealg_IndexRabinKarp_string : List (Nat × Run) := [(fid_internal_bytealg_hashStr_string, run_internal_bytealg_hashStr_string)]
noncomputable def G_internal_bytealg_IndexRabinKarp_string : Ctx := ctx tyTab fiTab pl_internal_bytealg_IndexRabinKarp_string
noncomputable def run_internal_bytealg_IndexRabinKarp_string : Run := lim G_internal_bytealg_IndexRabinKarp_string fid_internal_bytealg_IndexRabinKarp_string
theorem ok_internal_bytealg_IndexRabinKarp_string : FnOk Tryd.prog OkT fid_internal_bytealg_IndexRabinKarp_string run_internal_bytealg_IndexRabinKarp_string := lim_ok (l := pl_internal_bytealg_IndexRabinKarp_string) Tryd_mix tyTab_ok fiTab_ok okT (.cons ok_internal_bytealg_hashStr_string .nil) fid_internal_bytealg_IndexRabinKarp_string
noncomputable def internal_bytealg_IndexRabinKarp_string_l1 (k m : Nat) : Nat → ByteArray → ByteArray → Int → Int → Int → Int → Int → Option Res
  | 0, _, _, _, _, _, _, _ => none
  | n + 1, s15, s16, i17, i18, i19, i20, i21 =>
    cond (decide (i21 < (s15.size : Int)))
    ((bytS s15 i21).bind fun i22 =>
    (bytS s15 (IntKind.i64.wrap (i21 - i19))).bind fun i23 =>
    cond ((IntKind.u32.wrap ((IntKind.u32.wrap ((IntKind.u32.wrap (i20 * 16777619)) + (IntKind.u32.wrap i22))) - (IntKind.u32.wrap (i18 * (IntKind.u32.wrap i23))))) == i17)
    ((subS s15 (IntKind.i64.wrap ((IntKind.i64.wrap (i21 + 1)) - i19)) (IntKind.i64.wrap (i21 + 1))).bind fun s24 =>
    cond (s24.toList == s16.toList)
    (some ([.one (Cell.int (IntKind.i64.wrap ((IntKind.i64.wrap (i21 + 1)) - i19)))], []))
    (internal_bytealg_IndexRabinKarp_string_l1 k m n s15 s16 i17 i18 i19 (IntKind.u32.wrap ((IntKind.u32.wrap ((IntKind.u32.wrap (i20 * 16777619)) + (IntKind.u32.wrap i22))) - (IntKind.u32.wrap (i18 * (IntKind.u32.wrap i23))))) (IntKind.i64.wrap (i21 + 1))))
    (internal_bytealg_IndexRabinKarp_string_l1 k m n s15 s16 i17 i18 i19 (IntKind.u32.wrap ((IntKind.u32.wrap ((IntKind.u32.wrap (i20 * 16777619)) + (IntKind.u32.wrap i22))) - (IntKind.u32.wrap (i18 * (IntKind.u32.wrap i23))))) (IntKind.i64.wrap (i21 + 1))))
    (some ([.one (Cell.int (-1))], []))
noncomputable def internal_bytealg_IndexRabinKarp_string_l0 (k m : Nat) : Nat → ByteArray → ByteArray → Int → Int → Int → Int → Int → Option Res
  | 0, _, _, _, _, _, _, _ => none
  | n + 1, s6, s7, i8, i9, i10, i11, i12 =>
    cond (decide (i12 < i10))
    ((bytS s6 i12).bind fun i13 =>
    internal_bytealg_IndexRabinKarp_string_l0 k m n s6 s7 i8 i9 i10 (IntKind.u32.wrap ((IntKind.u32.wrap (i11 * 16777619)) + (IntKind.u32.wrap i13))) (IntKind.i64.wrap (i12 + 1)))
    (cond (i11 == i8)
    ((subS s6 0 i10).bind fun s14 =>
    cond (s14.toList == s7.toList)
    (some ([.one (Cell.int 0)], []))
    (internal_bytealg_IndexRabinKarp_string_l1 k m m s6 s7 i8 i9 i10 i11 i10))
    (internal_bytealg_IndexRabinKarp_string_l1 k m m s6 s7 i8 i9 i10 i11 i10))
noncomputable def internal_bytealg_IndexRabinKarp_string (k m : Nat) (s1 : ByteArray) (s2 : ByteArray) : Option Res :=
  (callS run_internal_bytealg_hashStr_string [.one (Cell.str s2)] []).bind fun r3 =>
  cond (shapeOk rk_internal_bytealg_hashStr_string r3)
  ((cI .u32 (cellsAt r3 0) 0).bind fun i4 =>
  (cI .u32 (cellsAt r3 1) 0).bind fun i5 =>
  internal_bytealg_IndexRabinKarp_string_l0 k m m s1 s2 i4 i5 (s2.size : Int) 0 0)
  none
noncomputable abbrev internal_bytealg_IndexRabinKarp_string_l0_B (k m : Nat) : (Ex → Fr → Option Res) → Fr → Option Res := evC G_internal_bytealg_IndexRabinKarp_string fi_internal_bytealg_IndexRabinKarp_string (evF G_internal_bytealg_IndexRabinKarp_string (k + 1)) m (sub [1, 1, 1, 1, 0, 1, 2, 3] fi_internal_bytealg_IndexRabinKarp_string.code) none
noncomputable abbrev internal_bytealg_IndexRabinKarp_string_l0_K (k m : Nat) : Ex → Fr → Option Res := blockK 0 (seqK (evC G_internal_bytealg_IndexRabinKarp_string fi_internal_bytealg_IndexRabinKarp_string (evF G_internal_bytealg_IndexRabinKarp_string (k + 1)) m (sub [1, 1, 1, 1, 1] fi_internal_bytealg_IndexRabinKarp_string.code) none) (retK G_internal_bytealg_IndexRabinKarp_string fi_internal_bytealg_IndexRabinKarp_string))
noncomputable abbrev internal_bytealg_IndexRabinKarp_string_l1_B (k m : Nat) : (Ex → Fr → Option Res) → Fr → Option Res := evC G_internal_bytealg_IndexRabinKarp_string fi_internal_bytealg_IndexRabinKarp_string (evF G_internal_bytealg_IndexRabinKarp_string (k + 1)) m (sub [1, 1, 1, 1, 1, 1, 0, 1, 2, 3] fi_internal_bytealg_IndexRabinKarp_string.code) none
noncomputable abbrev internal_bytealg_IndexRabinKarp_string_l1_K (k m : Nat) : Ex → Fr → Option Res := blockK 2 (seqK (evC G_internal_bytealg_IndexRabinKarp_string fi_internal_bytealg_IndexRabinKarp_string (evF G_internal_bytealg_IndexRabinKarp_string (k + 1)) m (sub [1, 1, 1, 1, 1, 1, 1] fi_internal_bytealg_IndexRabinKarp_string.code) none) (retK G_internal_bytealg_IndexRabinKarp_string fi_internal_bytealg_IndexRabinKarp_string))
theorem internal_bytealg_IndexRabinKarp_string_l1_eq (k m : Nat) : ∀ (n : Nat) (s15 : ByteArray) (s16 : ByteArray) (i17 : Int) (i18 : Int) (i19 : Int) (i20 : Int) (i21 : Int), loopK (some [0, 1, 5, 6, 7, 8, 10]) (internal_bytealg_IndexRabinKarp_string_l1_B k m) (internal_bytealg_IndexRabinKarp_string_l1_K k m) n ⟨fT 81 0 [(0, .av (.one (Cell.str s15))), (1, .av (.one (Cell.str s16))), (5, .av (.one (.sc (.int .u32 i17)))), (6, .av (.one (.sc (.int .u32 i18)))), (7, .av (.one (Cell.int i19))), (8, .av (.one (.sc (.int .u32 i20)))), (10, .av (.one (Cell.int i21)))], fX 81 0 [], []⟩ = internal_bytealg_IndexRabinKarp_string_l1 (k + 1) m n s15 s16 i17 i18 i19 i20 i21 := by
  intro n
  induction n with
  | zero => intros; rfl
  | succ n ih =>
    intros
    simp only [internal_bytealg_IndexRabinKarp_string_l1, ← ih]
    kernel_rfl
theorem internal_bytealg_IndexRabinKarp_string_l0_eq (k m : Nat) : ∀ (n : Nat) (s6 : ByteArray) (s7 : ByteArray) (i8 : Int) (i9 : Int) (i10 : Int) (i11 : Int) (i12 : Int), loopK (some [0, 1, 5, 6, 7, 8, 9]) (internal_bytealg_IndexRabinKarp_string_l0_B k m) (internal_bytealg_IndexRabinKarp_string_l0_K k m) n ⟨fT 81 0 [(0, .av (.one (Cell.str s6))), (1, .av (.one (Cell.str s7))), (5, .av (.one (.sc (.int .u32 i8)))), (6, .av (.one (.sc (.int .u32 i9)))), (7, .av (.one (Cell.int i10))), (8, .av (.one (.sc (.int .u32 i11)))), (9, .av (.one (Cell.int i12)))], fX 81 0 [], []⟩ = internal_bytealg_IndexRabinKarp_string_l0 (k + 1) m n s6 s7 i8 i9 i10 i11 i12 := by
  intro n
  induction n with
  | zero => intros; rfl
  | succ n ih =>
    intros
    simp only [internal_bytealg_IndexRabinKarp_string_l0, ← internal_bytealg_IndexRabinKarp_string_l1_eq k m, ← ih]
    kernel_rfl
theorem internal_bytealg_IndexRabinKarp_string_code (k m : Nat) (s1 : ByteArray) (s2 : ByteArray) : evC G_internal_bytealg_IndexRabinKarp_string fi_internal_bytealg_IndexRabinKarp_string (evF G_internal_bytealg_IndexRabinKarp_string (k + 1)) m fi_internal_bytealg_IndexRabinKarp_string.code none (retK G_internal_bytealg_IndexRabinKarp_string fi_internal_bytealg_IndexRabinKarp_string) (enter fi_internal_bytealg_IndexRabinKarp_string [.one (Cell.str s1), .one (Cell.str s2)] []) = internal_bytealg_IndexRabinKarp_string (k + 1) m s1 s2 := by
  simp only [internal_bytealg_IndexRabinKarp_string, ← internal_bytealg_IndexRabinKarp_string_l0_eq k m]
  kernel_rfl
theorem internal_bytealg_IndexRabinKarp_string_eq (k : Nat) (s1 : ByteArray) (s2 : ByteArray) : evF G_internal_bytealg_IndexRabinKarp_string (k + 2) fid_internal_bytealg_IndexRabinKarp_string [.one (Cell.str s1), .one (Cell.str s2)] [] = internal_bytealg_IndexRabinKarp_string (k + 1) (k + 1) s1 s2 :=
  Eq.trans (by kernel_rfl) (internal_bytealg_IndexRabinKarp_string_code k (k + 1) s1 s2)
theorem run_internal_bytealg_IndexRabinKarp_string_of {s1 : ByteArray} {s2 : ByteArray} {r : Res} (k : Nat) (h : internal_bytealg_IndexRabinKarp_string (k + 1) (k + 1) s1 s2 = some r) : run_internal_bytealg_IndexRabinKarp_string [.one (Cell.str s1), .one (Cell.str s2)] [] = some r := lim_of ((internal_bytealg_IndexRabinKarp_string_eq k s1 s2).trans h)
noncomputable def pl_internal_stringslite_Index : List (Nat × Run) := [(fid_internal_stringslite_IndexByte, run_internal_stringslite_IndexByte), (fid_internal_bytealg_Cutover, run_internal_bytealg_Cutover), (fid_internal_bytealg_IndexRabinKarp_string, run_internal_bytealg_IndexRabinKarp_string)]
noncomputable def G_internal_stringslite_Index : Ctx := ctx tyTab fiTab pl_internal_stringslite_Index
noncomputable def run_internal_stringslite_Index : Run := lim G_internal_stringslite_Index fid_internal_stringslite_Index
theorem ok_internal_stringslite_Index : FnOk Tryd.prog OkT fid_internal_stringslite_Index run_internal_stringslite_Index := lim_ok (l := pl_internal_stringslite_Index) Tryd_mix tyTab_ok fiTab_ok okT (.cons ok_internal_stringslite_IndexByte (.cons ok_internal_bytealg_Cutover (.cons ok_internal_bytealg_IndexRabinKarp_string .nil))) fid_internal_stringslite_Index
noncomputable def internal_stringslite_Index (k m : Nat) (s1 : ByteArray) (s2 : ByteArray) : Option Res :=
  cond ((s2.size : Int) == 0)
  (some ([.one (Cell.int 0)], []))
  (cond (s2.toList == s1.toList)
  (some ([.one (Cell.int 0)], []))
  (cond ((s2.size : Int) == 1)
  ((bytS s2 0).bind fun i3 =>
  (callS run_internal_stringslite_IndexByte [.one (Cell.str s1), .one (.sc (.int .u8 i3))] []).bind fun r4 =>
  cond (shapeOk rk_internal_stringslite_IndexByte r4)
  ((cI .i64 (cellsAt r4 0) 0).bind fun i5 =>
  some ([.one (Cell.int i5)], []))
  none)
  (cond (decide ((s2.size : Int) ≥ (s1.size : Int)))
  (some ([.one (Cell.int (-1))], []))
  (none))))
theorem internal_stringslite_Index_code (k m : Nat) (s1 : ByteArray) (s2 : ByteArray) : evC G_internal_stringslite_Index fi_internal_stringslite_Index (evF G_internal_stringslite_Index (k + 1)) m fi_internal_stringslite_Index.code none (retK G_internal_stringslite_Index fi_internal_stringslite_Index) (enter fi_internal_stringslite_Index [.one (Cell.str s1), .one (Cell.str s2)] []) = internal_stringslite_Index (k + 1) m s1 s2 := by
  kernel_rfl
theorem internal_stringslite_Index_eq (k : Nat) (s1 : ByteArray) (s2 : ByteArray) : evF G_internal_stringslite_Index (k + 2) fid_internal_stringslite_Index [.one (Cell.str s1), .one (Cell.str s2)] [] = internal_stringslite_Index (k + 1) (k + 1) s1 s2 :=
  Eq.trans (by kernel_rfl) (internal_stringslite_Index_code k (k + 1) s1 s2)
theorem run_internal_stringslite_Index_of {s1 : ByteArray} {s2 : ByteArray} {r : Res} (k : Nat) (h : internal_stringslite_Index (k + 1) (k + 1) s1 s2 = some r) : run_internal_stringslite_Index [.one (Cell.str s1), .one (Cell.str s2)] [] = some r := lim_of ((internal_stringslite_Index_eq k s1 s2).trans h)
noncomputable def pl_internal_stringslite_Cut : List (Nat × Run) := [(fid_internal_stringslite_Index, run_internal_stringslite_Index)]
noncomputable def G_internal_stringslite_Cut : Ctx := ctx tyTab fiTab pl_internal_stringslite_Cut
noncomputable def run_internal_stringslite_Cut : Run := lim G_internal_stringslite_Cut fid_internal_stringslite_Cut
theorem ok_internal_stringslite_Cut : FnOk Tryd.prog OkT fid_internal_stringslite_Cut run_internal_stringslite_Cut := lim_ok (l := pl_internal_stringslite_Cut) Tryd_mix tyTab_ok fiTab_ok okT (.cons ok_internal_stringslite_Index .nil) fid_internal_stringslite_Cut
noncomputable def internal_stringslite_Cut (k m : Nat) (s1 : ByteArray) (s2 : ByteArray) : Option Res :=
  (callS run_internal_stringslite_Index [.one (Cell.str s1), .one (Cell.str s2)] []).bind fun r3 =>
  cond (shapeOk rk_internal_stringslite_Index r3)
  ((cI .i64 (cellsAt r3 0) 0).bind fun i4 =>
  cond (decide (i4 ≥ 0))
  ((subS s1 0 i4).bind fun s5 =>
  (subS s1 (IntKind.i64.wrap (i4 + (s2.size : Int))) (s1.size : Int)).bind fun s6 =>
  some ([.one (Cell.str s5), .one (Cell.str s6), .one (Cell.bool true)], []))
  (some ([.one (Cell.str s1), .one (Cell.str (bs [])), .one (Cell.bool false)], [])))
  none
theorem internal_stringslite_Cut_code (k m : Nat) (s1 : ByteArray) (s2 : ByteArray) : evC G_internal_stringslite_Cut fi_internal_stringslite_Cut (evF G_internal_stringslite_Cut (k + 1)) m fi_internal_stringslite_Cut.code none (retK G_internal_stringslite_Cut fi_internal_stringslite_Cut) (enter fi_internal_stringslite_Cut [.one (Cell.str s1), .one (Cell.str s2)] []) = internal_stringslite_Cut (k + 1) m s1 s2 := by
  kernel_rfl
theorem internal_stringslite_Cut_eq (k : Nat) (s1 : ByteArray) (s2 : ByteArray) : evF G_internal_stringslite_Cut (k + 2) fid_internal_stringslite_Cut [.one (Cell.str s1), .one (Cell.str s2)] [] = internal_stringslite_Cut (k + 1) (k + 1) s1 s2 :=
  Eq.trans (by kernel_rfl) (internal_stringslite_Cut_code k (k + 1) s1 s2)
theorem run_internal_stringslite_Cut_of {s1 : ByteArray} {s2 : ByteArray} {r : Res} (k : Nat) (h : internal_stringslite_Cut (k + 1) (k + 1) s1 s2 = some r) : run_internal_stringslite_Cut [.one (Cell.str s1), .one (Cell.str s2)] [] = some r := lim_of ((internal_stringslite_Cut_eq k s1 s2).trans h)
noncomputable def pl_strings_Cut : List (Nat × Run) := [(fid_internal_stringslite_Cut, run_internal_stringslite_Cut)]
noncomputable def G_strings_Cut : Ctx := ctx tyTab fiTab pl_strings_Cut
noncomputable def run_strings_Cut : Run := lim G_strings_Cut fid_strings_Cut
theorem ok_strings_Cut : FnOk Tryd.prog OkT fid_strings_Cut run_strings_Cut := lim_ok (l := pl_strings_Cut) Tryd_mix tyTab_ok fiTab_ok okT (.cons ok_internal_stringslite_Cut .nil) fid_strings_Cut
noncomputable def strings_Cut (k m : Nat) (s1 : ByteArray) (s2 : ByteArray) : Option Res :=
  (callS run_internal_stringslite_Cut [.one (Cell.str s1), .one (Cell.str s2)] []).bind fun r3 =>
  cond (shapeOk rk_internal_stringslite_Cut r3)
  ((cS (cellsAt r3 0) 0).bind fun s4 =>
  (cS (cellsAt r3 1) 0).bind fun s5 =>
  (cB (cellsAt r3 2) 0).bind fun b6 =>
  some ([.one (Cell.str s4), .one (Cell.str s5), .one (Cell.bool b6)], []))
  none
theorem strings_Cut_code (k m : Nat) (s1 : ByteArray) (s2 : ByteArray) : evC G_strings_Cut fi_strings_Cut (evF G_strings_Cut (k + 1)) m fi_strings_Cut.code none (retK G_strings_Cut fi_strings_Cut) (enter fi_strings_Cut [.one (Cell.str s1), .one (Cell.str s2)] []) = strings_Cut (k + 1) m s1 s2 := by
  kernel_rfl
theorem strings_Cut_eq (k : Nat) (s1 : ByteArray) (s2 : ByteArray) : evF G_strings_Cut (k + 2) fid_strings_Cut [.one (Cell.str s1), .one (Cell.str s2)] [] = strings_Cut (k + 1) (k + 1) s1 s2 :=
  Eq.trans (by kernel_rfl) (strings_Cut_code k (k + 1) s1 s2)
theorem run_strings_Cut_of {s1 : ByteArray} {s2 : ByteArray} {r : Res} (k : Nat) (h : strings_Cut (k + 1) (k + 1) s1 s2 = some r) : run_strings_Cut [.one (Cell.str s1), .one (Cell.str s2)] [] = some r := lim_of ((strings_Cut_eq k s1 s2).trans h)
noncomputable def pl_unicode_utf8_RuneCountInString : List (Nat × Run) := []
noncomputable def G_unicode_utf8_RuneCountInString : Ctx := ctx tyTab fiTab pl_unicode_utf8_RuneCountInString
noncomputable def run_unicode_utf8_RuneCountInString : Run := lim G_unicode_utf8_RuneCountInString fid_unicode_utf8_RuneCountInString
theorem ok_unicode_utf8_RuneCountInString : FnOk Tryd.prog OkT fid_unicode_utf8_RuneCountInString run_unicode_utf8_RuneCountInString := lim_ok (l := pl_unicode_utf8_RuneCountInString) Tryd_mix tyTab_ok fiTab_ok okT .nil fid_unicode_utf8_RuneCountInString
noncomputable def unicode_utf8_RuneCountInString (k m : Nat) (s1 : ByteArray) : Option Res :=
  none
theorem unicode_utf8_RuneCountInString_code (k m : Nat) (s1 : ByteArray) : evC G_unicode_utf8_RuneCountInString fi_unicode_utf8_RuneCountInString (evF G_unicode_utf8_RuneCountInString (k + 1)) m fi_unicode_utf8_RuneCountInString.code none (retK G_unicode_utf8_RuneCountInString fi_unicode_utf8_RuneCountInString) (enter fi_unicode_utf8_RuneCountInString [.one (Cell.str s1)] []) = unicode_utf8_RuneCountInString (k + 1) m s1 := by
  kernel_rfl
theorem unicode_utf8_RuneCountInString_eq (k : Nat) (s1 : ByteArray) : evF G_unicode_utf8_RuneCountInString (k + 2) fid_unicode_utf8_RuneCountInString [.one (Cell.str s1)] [] = unicode_utf8_RuneCountInString (k + 1) (k + 1) s1 :=
  Eq.trans (by kernel_rfl) (unicode_utf8_RuneCountInString_code k (k + 1) s1)
theorem run_unicode_utf8_RuneCountInString_of {s1 : ByteArray} {r : Res} (k : Nat) (h : unicode_utf8_RuneCountInString (k + 1) (k + 1) s1 = some r) : run_unicode_utf8_RuneCountInString [.one (Cell.str s1)] [] = some r := lim_of ((unicode_utf8_RuneCountInString_eq k s1).trans h)
noncomputable def pl_unicode_utf8_decodeRuneInStringSlow : List (Nat × Run) := []
noncomputable def G_unicode_utf8_decodeRuneInStringSlow : Ctx := ctx tyTab fiTab pl_unicode_utf8_decodeRuneInStringSlow
noncomputable def run_unicode_utf8_decodeRuneInStringSlow : Run := lim G_unicode_utf8_decodeRuneInStringSlow fid_unicode_utf8_decodeRuneInStringSlow
theorem ok_unicode_utf8_decodeRuneInStringSlow : FnOk Tryd.prog OkT fid_unicode_utf8_decodeRuneInStringSlow run_unicode_utf8_decodeRuneInStringSlow := lim_ok (l := pl_unicode_utf8_decodeRuneInStringSlow) Tryd_mix tyTab_ok fiTab_ok okT .nil fid_unicode_utf8_decodeRuneInStringSlow
noncomputable def unicode_utf8_decodeRuneInStringSlow (k m : Nat) (s1 : ByteArray) : Option Res :=
  cond (decide ((s1.size : Int) < 1))
  (some ([.one (.sc (.int .i32 65533)), .one (Cell.int 0)], []))
  ((bytS s1 0).bind fun i2 =>
  none)
theorem unicode_utf8_decodeRuneInStringSlow_code (k m : Nat) (s1 : ByteArray) : evC G_unicode_utf8_decodeRuneInStringSlow fi_unicode_utf8_decodeRuneInStringSlow (evF G_unicode_utf8_decodeRuneInStringSlow (k + 1)) m fi_unicode_utf8_decodeRuneInStringSlow.code none (retK G_unicode_utf8_decodeRuneInStringSlow fi_unicode_utf8_decodeRuneInStringSlow) (enter fi_unicode_utf8_decodeRuneInStringSlow [.one (Cell.str s1)] []) = unicode_utf8_decodeRuneInStringSlow (k + 1) m s1 := by
  kernel_rfl
theorem unicode_utf8_decodeRuneInStringSlow_eq (k : Nat) (s1 : ByteArray) : evF G_unicode_utf8_decodeRuneInStringSlow (k + 2) fid_unicode_utf8_decodeRuneInStringSlow [.one (Cell.str s1)] [] = unicode_utf8_decodeRuneInStringSlow (k + 1) (k + 1) s1 :=
  Eq.trans (by kernel_rfl) (unicode_utf8_decodeRuneInStringSlow_code k (k + 1) s1)
theorem run_unicode_utf8_decodeRuneInStringSlow_of {s1 : ByteArray} {r : Res} (k : Nat) (h : unicode_utf8_decodeRuneInStringSlow (k + 1) (k + 1) s1 = some r) : run_unicode_utf8_decodeRuneInStringSlow [.one (Cell.str s1)] [] = some r := lim_of ((unicode_utf8_decodeRuneInStringSlow_eq k s1).trans h)
noncomputable def pl_unicode_utf8_DecodeRuneInString : List (Nat × Run) := [(fid_unicode_utf8_decodeRuneInStringSlow, run_unicode_utf8_decodeRuneInStringSlow)]
noncomputable def G_unicode_utf8_DecodeRuneInString : Ctx := ctx tyTab fiTab pl_unicode_utf8_DecodeRuneInString
noncomputable def run_unicode_utf8_DecodeRuneInString : Run := lim G_unicode_utf8_DecodeRuneInString fid_unicode_utf8_DecodeRuneInString
theorem ok_unicode_utf8_DecodeRuneInString : FnOk Tryd.prog OkT fid_unicode_utf8_DecodeRuneInString run_unicode_utf8_DecodeRuneInString := lim_ok (l := pl_unicode_utf8_DecodeRuneInString) Tryd_mix tyTab_ok fiTab_ok okT (.cons ok_unicode_utf8_decodeRuneInStringSlow .nil) fid_unicode_utf8_DecodeRuneInString
noncomputable def unicode_utf8_DecodeRuneInString (k m : Nat) (s1 : ByteArray) : Option Res :=
  cond (!(s1.toList == (bs []).toList))
  ((bytS s1 0).bind fun i2 =>
  cond (decide (i2 < 128))
  ((bytS s1 0).bind fun i3 =>
  some ([.one (.sc (.int .i32 (IntKind.i32.wrap i3))), .one (Cell.int 1)], []))
  ((callS run_unicode_utf8_decodeRuneInStringSlow [.one (Cell.str s1)] []).bind fun r4 =>
  cond (shapeOk rk_unicode_utf8_decodeRuneInStringSlow r4)
  ((cI .i32 (cellsAt r4 0) 0).bind fun i5 =>
  (cI .i64 (cellsAt r4 1) 0).bind fun i6 =>
  some ([.one (.sc (.int .i32 i5)), .one (Cell.int i6)], []))
  none))
  ((callS run_unicode_utf8_decodeRuneInStringSlow [.one (Cell.str s1)] []).bind fun r7 =>
  cond (shapeOk rk_unicode_utf8_decodeRuneInStringSlow r7)
  ((cI .i32 (cellsAt r7 0) 0).bind fun i8 =>
  (cI .i64 (cellsAt r7 1) 0).bind fun i9 =>
  some ([.one (.sc (.int .i32 i8)), .one (Cell.int i9)], []))
  none)
theorem unicode_utf8_DecodeRuneInString_code (k m : Nat) (s1 : ByteArray) : evC G_unicode_utf8_DecodeRuneInString fi_unicode_utf8_DecodeRuneInString (evF G_unicode_utf8_DecodeRuneInString (k + 1)) m fi_unicode_utf8_DecodeRuneInString.code none (retK G_unicode_utf8_DecodeRuneInString fi_unicode_utf8_DecodeRuneInString) (enter fi_unicode_utf8_DecodeRuneInString [.one (Cell.str s1)] []) = unicode_utf8_DecodeRuneInString (k + 1) m s1 := by
  kernel_rfl
theorem unicode_utf8_DecodeRuneInString_eq (k : Nat) (s1 : ByteArray) : evF G_unicode_utf8_DecodeRuneInString (k + 2) fid_unicode_utf8_DecodeRuneInString [.one (Cell.str s1)] [] = unicode_utf8_DecodeRuneInString (k + 1) (k + 1) s1 :=
  Eq.trans (by kernel_rfl) (unicode_utf8_DecodeRuneInString_code k (k + 1) s1)
theorem run_unicode_utf8_DecodeRuneInString_of {s1 : ByteArray} {r : Res} (k : Nat) (h : unicode_utf8_DecodeRuneInString (k + 1) (k + 1) s1 = some r) : run_unicode_utf8_DecodeRuneInString [.one (Cell.str s1)] [] = some r := lim_of ((unicode_utf8_DecodeRuneInString_eq k s1).trans h)
noncomputable def pl_strings_explode : List (Nat × Run) := [(fid_unicode_utf8_RuneCountInString, run_unicode_utf8_RuneCountInString), (fid_unicode_utf8_DecodeRuneInString, run_unicode_utf8_DecodeRuneInString)]
noncomputable def G_strings_explode : Ctx := ctx tyTab fiTab pl_strings_explode
noncomputable def run_strings_explode : Run := lim G_strings_explode fid_strings_explode
theorem ok_strings_explode : FnOk Tryd.prog OkT fid_strings_explode run_strings_explode := lim_ok (l := pl_strings_explode) Tryd_mix tyTab_ok fiTab_ok okT (.cons ok_unicode_utf8_RuneCountInString (.cons ok_unicode_utf8_DecodeRuneInString .nil)) fid_strings_explode
noncomputable def strings_explode_l0 (k m : Nat) : Nat → ByteArray → Int → Cell → Int → List Entry → Option Res
  | 0, _, _, _, _, _ => none
  | n + 1, s5, i6, c7, i8, H9 =>
    cond (decide (i8 < (IntKind.i64.wrap (i6 - 1))))
    ((callS run_unicode_utf8_DecodeRuneInString [.one (Cell.str s5)] H9).bind fun r10 =>
    cond (shapeOk rk_unicode_utf8_DecodeRuneInString r10)
    ((cI .i32 (cellsAt r10 0) 0).bind fun i11 =>
    (cI .i64 (cellsAt r10 1) 0).bind fun i12 =>
    (subS s5 0 i12).bind fun s13 =>
    (idxA 1 (c7) i8).bind fun c14 =>
    (hStore H9 (c14) [Cell.str s13]).bind fun h15 =>
    (subS s5 i12 (s5.size : Int)).bind fun s16 =>
    strings_explode_l0 k m n s16 i6 (c7) (IntKind.i64.wrap (i8 + 1)) h15)
    none)
    (cond (decide (i6 > 0))
    ((idxA 1 (c7) (IntKind.i64.wrap (i6 - 1))).bind fun c17 =>
    (hStore H9 (c17) [Cell.str s5]).bind fun h18 =>
    some ([.one (c7)], h18))
    (some ([.one (c7)], H9)))
noncomputable def strings_explode (k m : Nat) (s1 : ByteArray) (i2 : Int) : Option Res :=
  (callS run_unicode_utf8_RuneCountInString [.one (Cell.str s1)] []).bind fun r3 =>
  cond (shapeOk rk_unicode_utf8_RuneCountInString r3)
  ((cI .i64 (cellsAt r3 0) 0).bind fun i4 =>
  cond (decide (i2 < 0))
  (if 0 ≤ i4 ∧ i4 ≤ i4 ∧ i4 * 16 ≤ bound ∧ i4 ≤ bound then
  (strings_explode_l0 k m m s1 i4 ((.vs 0 1 0 i4.toNat 0)) 0 [Entry.mk 1 (mkRows i4.toNat [Cell.str (bs [])]) 0 false]) else none)
  (cond (decide (i2 > i4))
  (if 0 ≤ i4 ∧ i4 ≤ i4 ∧ i4 * 16 ≤ bound ∧ i4 ≤ bound then
  (strings_explode_l0 k m m s1 i4 ((.vs 0 1 0 i4.toNat 0)) 0 [Entry.mk 1 (mkRows i4.toNat [Cell.str (bs [])]) 0 false]) else none)
  (if 0 ≤ i2 ∧ i2 ≤ i2 ∧ i2 * 16 ≤ bound ∧ i2 ≤ bound then
  (strings_explode_l0 k m m s1 i2 ((.vs 0 1 0 i2.toNat 0)) 0 [Entry.mk 1 (mkRows i2.toNat [Cell.str (bs [])]) 0 false]) else none)))
  none
noncomputable abbrev strings_explode_l0_B (k m : Nat) : (Ex → Fr → Option Res) → Fr → Option Res := evC G_strings_explode fi_strings_explode (evF G_strings_explode (k + 1)) m (sub [1, 1, 1, 1, 0, 1, 2, 3] fi_strings_explode.code) none
noncomputable abbrev strings_explode_l0_K (k m : Nat) : Ex → Fr → Option Res := blockK 0 (seqK (evC G_strings_explode fi_strings_explode (evF G_strings_explode (k + 1)) m (sub [1, 1, 1, 1, 1] fi_strings_explode.code) none) (retK G_strings_explode fi_strings_explode))
theorem strings_explode_l0_eq (k m : Nat) : ∀ (n : Nat) (s5 : ByteArray) (i6 : Int) (c7 : Cell) (i8 : Int) (H9 : List Entry), loopK (some [0, 1, 6, 7]) (strings_explode_l0_B k m) (strings_explode_l0_K k m) n ⟨fT 50 0 [(0, .av (.one (Cell.str s5))), (1, .av (.one (Cell.int i6))), (6, .av (.one (c7))), (7, .av (.one (Cell.int i8)))], fX 50 0 [], H9⟩ = strings_explode_l0 (k + 1) m n s5 i6 c7 i8 H9 := by
  intro n
  induction n with
  | zero => intros; rfl
  | succ n ih =>
    intros
    simp only [strings_explode_l0, ← ih]
    kernel_rfl
theorem strings_explode_code (k m : Nat) (s1 : ByteArray) (i2 : Int) : evC G_strings_explode fi_strings_explode (evF G_strings_explode (k + 1)) m fi_strings_explode.code none (retK G_strings_explode fi_strings_explode) (enter fi_strings_explode [.one (Cell.str s1), .one (Cell.int i2)] []) = strings_explode (k + 1) m s1 i2 := by
  simp only [strings_explode, ← strings_explode_l0_eq k m]
  kernel_rfl
theorem strings_explode_eq (k : Nat) (s1 : ByteArray) (i2 : Int) : evF G_strings_explode (k + 2) fid_strings_explode [.one (Cell.str s1), .one (Cell.int i2)] [] = strings_explode (k + 1) (k + 1) s1 i2 :=
  Eq.trans (by kernel_rfl) (strings_explode_code k (k + 1) s1 i2)
theorem run_strings_explode_of {s1 : ByteArray} {i2 : Int} {r : Res} (k : Nat) (h : strings_explode (k + 1) (k + 1) s1 i2 = some r) : run_strings_explode [.one (Cell.str s1), .one (Cell.int i2)] [] = some r := lim_of ((strings_explode_eq k s1 i2).trans h)
noncomputable def pl_strings_Index : List (Nat × Run) := [(fid_internal_stringslite_Index, run_internal_stringslite_Index)]
noncomputable def G_strings_Index : Ctx := ctx tyTab fiTab pl_strings_Index
noncomputable def run_strings_Index : Run := lim G_strings_Index fid_strings_Index
theorem ok_strings_Index : FnOk Tryd.prog OkT fid_strings_Index run_strings_Index := lim_ok (l := pl_strings_Index) Tryd_mix tyTab_ok fiTab_ok okT (.cons ok_internal_stringslite_Index .nil) fid_strings_Index
noncomputable def strings_Index (k m : Nat) (s1 : ByteArray) (s2 : ByteArray) : Option Res :=
  (callS run_internal_stringslite_Index [.one (Cell.str s1), .one (Cell.str s2)] []).bind fun r3 =>
  cond (shapeOk rk_internal_stringslite_Index r3)
  ((cI .i64 (cellsAt r3 0) 0).bind fun i4 =>
  some ([.one (Cell.int i4)], []))
  none
theorem strings_Index_code (k m : Nat) (s1 : ByteArray) (s2 : ByteArray) : evC G_strings_Index fi_strings_Index (evF G_strings_Index (k + 1)) m fi_strings_Index.code none (retK G_strings_Index fi_strings_Index) (enter fi_strings_Index [.one (Cell.str s1), .one (Cell.str s2)] []) = strings_Index (k + 1) m s1 s2 := by
  kernel_rfl
theorem strings_Index_eq (k : Nat) (s1 : ByteArray) (s2 : ByteArray) : evF G_strings_Index (k + 2) fid_strings_Index [.one (Cell.str s1), .one (Cell.str s2)] [] = strings_Index (k + 1) (k + 1) s1 s2 :=
  Eq.trans (by kernel_rfl) (strings_Index_code k (k + 1) s1 s2)
theorem run_strings_Index_of {s1 : ByteArray} {s2 : ByteArray} {r : Res} (k : Nat) (h : strings_Index (k + 1) (k + 1) s1 s2 = some r) : run_strings_Index [.one (Cell.str s1), .one (Cell.str s2)] [] = some r := lim_of ((strings_Index_eq k s1 s2).trans h)
noncomputable def pl_strings_genSplit : List (Nat × Run) := [(fid_strings_explode, run_strings_explode), (fid_strings_Count, run_strings_Count), (fid_strings_Index, run_strings_Index)]
noncomputable def G_strings_genSplit : Ctx := ctx tyTab fiTab pl_strings_genSplit
noncomputable def run_strings_genSplit : Run := lim G_strings_genSplit fid_strings_genSplit
theorem ok_strings_genSplit : FnOk Tryd.prog OkT fid_strings_genSplit run_strings_genSplit := lim_ok (l := pl_strings_genSplit) Tryd_mix tyTab_ok fiTab_ok okT (.cons ok_strings_explode (.cons ok_strings_Count (.cons ok_strings_Index .nil))) fid_strings_genSplit
noncomputable def strings_genSplit_l0 (k m : Nat) : Nat → ByteArray → ByteArray → Int → Int → Cell → Int → List Entry → Option Res
  | 0, _, _, _, _, _, _, _ => none
  | n + 1, s9, s10, i11, i12, c13, i14, H15 =>
    cond (decide (i14 < i12))
    ((callS run_strings_Index [.one (Cell.str s9), .one (Cell.str s10)] H15).bind fun r16 =>
    cond (shapeOk rk_strings_Index r16)
    ((cI .i64 (cellsAt r16 0) 0).bind fun i17 =>
    cond (decide (i17 < 0))
    ((idxA 1 (c13) i14).bind fun c18 =>
    (hStore H15 (c18) [Cell.str s9]).bind fun h19 =>
    (slcC 1 (c13) 0 (some (IntKind.i64.wrap (i14 + 1))) none).bind fun c20 =>
    some ([.one (c20)], h19))
    ((subS s9 0 (IntKind.i64.wrap (i17 + i11))).bind fun s21 =>
    (idxA 1 (c13) i14).bind fun c22 =>
    (hStore H15 (c22) [Cell.str s21]).bind fun h23 =>
    (subS s9 (IntKind.i64.wrap (i17 + (s10.size : Int))) (s9.size : Int)).bind fun s24 =>
    strings_genSplit_l0 k m n s24 s10 i11 i12 (c13) (IntKind.i64.wrap (i14 + 1)) h23))
    none)
    ((idxA 1 (c13) i14).bind fun c25 =>
    (hStore H15 (c25) [Cell.str s9]).bind fun h26 =>
    (slcC 1 (c13) 0 (some (IntKind.i64.wrap (i14 + 1))) none).bind fun c27 =>
    some ([.one (c27)], h26))
noncomputable def strings_genSplit (k m : Nat) (s1 : ByteArray) (s2 : ByteArray) (i3 : Int) (i4 : Int) : Option Res :=
  cond (i4 == 0)
  (some ([.one (.lst true 1 [])], []))
  (cond (s2.toList == (bs []).toList)
  ((callL run_strings_explode [.one (Cell.str s1), .one (Cell.int i4)] []).bind fun r5 =>
  cond (shapeOk rk_strings_explode r5.1)
  ((cC (cellsAt r5.1 0) 0).bind fun c6 =>
  some ([.one (c6)], r5.2))
  none)
  (cond (decide (i4 < 0))
  ((callS run_strings_Count [.one (Cell.str s1), .one (Cell.str s2)] []).bind fun r7 =>
  cond (shapeOk rk_strings_Count r7)
  ((cI .i64 (cellsAt r7 0) 0).bind fun i8 =>
  if 0 ≤ (if (IntKind.i64.wrap ((s1.size : Int) + 1)) < (IntKind.i64.wrap (i8 + 1)) then (IntKind.i64.wrap ((s1.size : Int) + 1)) else (IntKind.i64.wrap (i8 + 1))) ∧ (if (IntKind.i64.wrap ((s1.size : Int) + 1)) < (IntKind.i64.wrap (i8 + 1)) then (IntKind.i64.wrap ((s1.size : Int) + 1)) else (IntKind.i64.wrap (i8 + 1))) ≤ (if (IntKind.i64.wrap ((s1.size : Int) + 1)) < (IntKind.i64.wrap (i8 + 1)) then (IntKind.i64.wrap ((s1.size : Int) + 1)) else (IntKind.i64.wrap (i8 + 1))) ∧ (if (IntKind.i64.wrap ((s1.size : Int) + 1)) < (IntKind.i64.wrap (i8 + 1)) then (IntKind.i64.wrap ((s1.size : Int) + 1)) else (IntKind.i64.wrap (i8 + 1))) * 16 ≤ bound ∧ (if (IntKind.i64.wrap ((s1.size : Int) + 1)) < (IntKind.i64.wrap (i8 + 1)) then (IntKind.i64.wrap ((s1.size : Int) + 1)) else (IntKind.i64.wrap (i8 + 1))) ≤ bound then
  (strings_genSplit_l0 k m m s1 s2 i3 (IntKind.i64.wrap ((if (IntKind.i64.wrap ((s1.size : Int) + 1)) < (IntKind.i64.wrap (i8 + 1)) then (IntKind.i64.wrap ((s1.size : Int) + 1)) else (IntKind.i64.wrap (i8 + 1))) - 1)) ((.vs 0 1 0 (if (IntKind.i64.wrap ((s1.size : Int) + 1)) < (IntKind.i64.wrap (i8 + 1)) then (IntKind.i64.wrap ((s1.size : Int) + 1)) else (IntKind.i64.wrap (i8 + 1))).toNat 0)) 0 [Entry.mk 1 (mkRows (if (IntKind.i64.wrap ((s1.size : Int) + 1)) < (IntKind.i64.wrap (i8 + 1)) then (IntKind.i64.wrap ((s1.size : Int) + 1)) else (IntKind.i64.wrap (i8 + 1))).toNat [Cell.str (bs [])]) 0 false]) else none)
  none)
  (if 0 ≤ (if (IntKind.i64.wrap ((s1.size : Int) + 1)) < i4 then (IntKind.i64.wrap ((s1.size : Int) + 1)) else i4) ∧ (if (IntKind.i64.wrap ((s1.size : Int) + 1)) < i4 then (IntKind.i64.wrap ((s1.size : Int) + 1)) else i4) ≤ (if (IntKind.i64.wrap ((s1.size : Int) + 1)) < i4 then (IntKind.i64.wrap ((s1.size : Int) + 1)) else i4) ∧ (if (IntKind.i64.wrap ((s1.size : Int) + 1)) < i4 then (IntKind.i64.wrap ((s1.size : Int) + 1)) else i4) * 16 ≤ bound ∧ (if (IntKind.i64.wrap ((s1.size : Int) + 1)) < i4 then (IntKind.i64.wrap ((s1.size : Int) + 1)) else i4) ≤ bound then
  (strings_genSplit_l0 k m m s1 s2 i3 (IntKind.i64.wrap ((if (IntKind.i64.wrap ((s1.size : Int) + 1)) < i4 then (IntKind.i64.wrap ((s1.size : Int) + 1)) else i4) - 1)) ((.vs 0 1 0 (if (IntKind.i64.wrap ((s1.size : Int) + 1)) < i4 then (IntKind.i64.wrap ((s1.size : Int) + 1)) else i4).toNat 0)) 0 [Entry.mk 1 (mkRows (if (IntKind.i64.wrap ((s1.size : Int) + 1)) < i4 then (IntKind.i64.wrap ((s1.size : Int) + 1)) else i4).toNat [Cell.str (bs [])]) 0 false]) else none)))
noncomputable abbrev strings_genSplit_l0_B (k m : Nat) : (Ex → Fr → Option Res) → Fr → Option Res := evC G_strings_genSplit fi_strings_genSplit (evF G_strings_genSplit (k + 1)) m (sub [1, 1, 1, 1, 1, 1, 1, 1, 0, 2, 3] fi_strings_genSplit.code) none
noncomputable abbrev strings_genSplit_l0_K (k m : Nat) : Ex → Fr → Option Res := blockK 0 (seqK (evC G_strings_genSplit fi_strings_genSplit (evF G_strings_genSplit (k + 1)) m (sub [1, 1, 1, 1, 1, 1, 1, 1, 1] fi_strings_genSplit.code) none) (retK G_strings_genSplit fi_strings_genSplit))
theorem strings_genSplit_l0_eq (k m : Nat) : ∀ (n : Nat) (s9 : ByteArray) (s10 : ByteArray) (i11 : Int) (i12 : Int) (c13 : Cell) (i14 : Int) (H15 : List Entry), loopK (some [0, 1, 2, 3, 9, 10]) (strings_genSplit_l0_B k m) (strings_genSplit_l0_K k m) n ⟨fT 66 0 [(0, .av (.one (Cell.str s9))), (1, .av (.one (Cell.str s10))), (2, .av (.one (Cell.int i11))), (3, .av (.one (Cell.int i12))), (9, .av (.one (c13))), (10, .av (.one (Cell.int i14)))], fX 66 0 [], H15⟩ = strings_genSplit_l0 (k + 1) m n s9 s10 i11 i12 c13 i14 H15 := by
  intro n
  induction n with
  | zero => intros; rfl
  | succ n ih =>
    intros
    simp only [strings_genSplit_l0, ← ih]
    kernel_rfl
theorem strings_genSplit_code (k m : Nat) (s1 : ByteArray) (s2 : ByteArray) (i3 : Int) (i4 : Int) : evC G_strings_genSplit fi_strings_genSplit (evF G_strings_genSplit (k + 1)) m fi_strings_genSplit.code none (retK G_strings_genSplit fi_strings_genSplit) (enter fi_strings_genSplit [.one (Cell.str s1), .one (Cell.str s2), .one (Cell.int i3), .one (Cell.int i4)] []) = strings_genSplit (k + 1) m s1 s2 i3 i4 := by
  simp only [strings_genSplit, ← strings_genSplit_l0_eq k m]
  kernel_rfl
theorem strings_genSplit_eq (k : Nat) (s1 : ByteArray) (s2 : ByteArray) (i3 : Int) (i4 : Int) : evF G_strings_genSplit (k + 2) fid_strings_genSplit [.one (Cell.str s1), .one (Cell.str s2), .one (Cell.int i3), .one (Cell.int i4)] [] = strings_genSplit (k + 1) (k + 1) s1 s2 i3 i4 :=
  Eq.trans (by kernel_rfl) (strings_genSplit_code k (k + 1) s1 s2 i3 i4)
theorem run_strings_genSplit_of {s1 : ByteArray} {s2 : ByteArray} {i3 : Int} {i4 : Int} {r : Res} (k : Nat) (h : strings_genSplit (k + 1) (k + 1) s1 s2 i3 i4 = some r) : run_strings_genSplit [.one (Cell.str s1), .one (Cell.str s2), .one (Cell.int i3), .one (Cell.int i4)] [] = some r := lim_of ((strings_genSplit_eq k s1 s2 i3 i4).trans h)
noncomputable def pl_strings_Split : List (Nat × Run) := [(fid_strings_genSplit, run_strings_genSplit)]
noncomputable def G_strings_Split : Ctx := ctx tyTab fiTab pl_strings_Split
noncomputable def run_strings_Split : Run := lim G_strings_Split fid_strings_Split
theorem ok_strings_Split : FnOk Tryd.prog OkT fid_strings_Split run_strings_Split := lim_ok (l := pl_strings_Split) Tryd_mix tyTab_ok fiTab_ok okT (.cons ok_strings_genSplit .nil) fid_strings_Split
noncomputable def strings_Split (k m : Nat) (s1 : ByteArray) (s2 : ByteArray) : Option Res :=
  (callF run_strings_genSplit [.one (Cell.str s1), .one (Cell.str s2), .one (Cell.int 0), .one (Cell.int (-1))] []).bind fun r3 =>
  cond (shapeOk rk_strings_genSplit r3.1)
  ((cC (cellsAt r3.1 0) 0).bind fun c4 =>
  some ([.one (c4)], r3.2))
  none
theorem strings_Split_code (k m : Nat) (s1 : ByteArray) (s2 : ByteArray) : evC G_strings_Split fi_strings_Split (evF G_strings_Split (k + 1)) m fi_strings_Split.code none (retK G_strings_Split fi_strings_Split) (enter fi_strings_Split [.one (Cell.str s1), .one (Cell.str s2)] []) = strings_Split (k + 1) m s1 s2 := by
  kernel_rfl
theorem strings_Split_eq (k : Nat) (s1 : ByteArray) (s2 : ByteArray) : evF G_strings_Split (k + 2) fid_strings_Split [.one (Cell.str s1), .one (Cell.str s2)] [] = strings_Split (k + 1) (k + 1) s1 s2 :=
  Eq.trans (by kernel_rfl) (strings_Split_code k (k + 1) s1 s2)
theorem run_strings_Split_of {s1 : ByteArray} {s2 : ByteArray} {r : Res} (k : Nat) (h : strings_Split (k + 1) (k + 1) s1 s2 = some r) : run_strings_Split [.one (Cell.str s1), .one (Cell.str s2)] [] = some r := lim_of ((strings_Split_eq k s1 s2).trans h)
noncomputable def pl_impl_inRange : List (Nat × Run) := []
noncomputable def G_impl_inRange : Ctx := ctx tyTab fiTab pl_impl_inRange
noncomputable def run_impl_inRange : Run := lim G_impl_inRange fid_impl_inRange
theorem ok_impl_inRange : FnOk Tryd.prog OkT fid_impl_inRange run_impl_inRange := lim_ok (l := pl_impl_inRange) Tryd_mix tyTab_ok fiTab_ok okT .nil fid_impl_inRange
noncomputable def impl_inRange (k m : Nat) (i1 : Int) (i2 : Int) (i3 : Int) : Option Res :=
  cond (decide (i1 ≥ i2))
  (some ([.one (Cell.bool (decide (i1 ≤ i3)))], []))
  (some ([.one (Cell.bool false)], []))
theorem impl_inRange_code (k m : Nat) (i1 : Int) (i2 : Int) (i3 : Int) : evC G_impl_inRange fi_impl_inRange (evF G_impl_inRange (k + 1)) m fi_impl_inRange.code none (retK G_impl_inRange fi_impl_inRange) (enter fi_impl_inRange [.one (Cell.int i1), .one (Cell.int i2), .one (Cell.int i3)] []) = impl_inRange (k + 1) m i1 i2 i3 := by
  kernel_rfl
theorem impl_inRange_eq (k : Nat) (i1 : Int) (i2 : Int) (i3 : Int) : evF G_impl_inRange (k + 2) fid_impl_inRange [.one (Cell.int i1), .one (Cell.int i2), .one (Cell.int i3)] [] = impl_inRange (k + 1) (k + 1) i1 i2 i3 :=
  Eq.trans (by kernel_rfl) (impl_inRange_code k (k + 1) i1 i2 i3)
theorem run_impl_inRange_of {i1 : Int} {i2 : Int} {i3 : Int} {r : Res} (k : Nat) (h : impl_inRange (k + 1) (k + 1) i1 i2 i3 = some r) : run_impl_inRange [.one (Cell.int i1), .one (Cell.int i2), .one (Cell.int i3)] [] = some r := lim_of ((impl_inRange_eq k i1 i2 i3).trans h)
noncomputable def pl_impl_isFigure : List (Nat × Run) := []
noncomputable def G_impl_isFigure : Ctx := ctx tyTab fiTab pl_impl_isFigure
noncomputable def run_impl_isFigure : Run := lim G_impl_isFigure fid_impl_isFigure
theorem ok_impl_isFigure : FnOk Tryd.prog OkT fid_impl_isFigure run_impl_isFigure := lim_ok (l := pl_impl_isFigure) Tryd_mix tyTab_ok fiTab_ok okT .nil fid_impl_isFigure
noncomputable def impl_isFigure (k m : Nat) (i1 : Int) : Option Res :=
  cond (decide (i1 ≥ 48))
  (some ([.one (Cell.bool (decide (i1 ≤ 57)))], []))
  (some ([.one (Cell.bool false)], []))
theorem impl_isFigure_code (k m : Nat) (i1 : Int) : evC G_impl_isFigure fi_impl_isFigure (evF G_impl_isFigure (k + 1)) m fi_impl_isFigure.code none (retK G_impl_isFigure fi_impl_isFigure) (enter fi_impl_isFigure [.one (.sc (.int .u8 i1))] []) = impl_isFigure (k + 1) m i1 := by
  kernel_rfl
theorem impl_isFigure_eq (k : Nat) (i1 : Int) : evF G_impl_isFigure (k + 2) fid_impl_isFigure [.one (.sc (.int .u8 i1))] [] = impl_isFigure (k + 1) (k + 1) i1 :=
  Eq.trans (by kernel_rfl) (impl_isFigure_code k (k + 1) i1)
theorem run_impl_isFigure_of {i1 : Int} {r : Res} (k : Nat) (h : impl_isFigure (k + 1) (k + 1) i1 = some r) : run_impl_isFigure [.one (.sc (.int .u8 i1))] [] = some r := lim_of ((impl_isFigure_eq k i1).trans h)
noncomputable def pl_impl_NumText : List (Nat × Run) := [(fid_strconv_Itoa, run_strconv_Itoa)]
noncomputable def G_impl_NumText : Ctx := ctx tyTab fiTab pl_impl_NumText
noncomputable def run_impl_NumText : Run := lim G_impl_NumText fid_impl_NumText
theorem ok_impl_NumText : FnOk Tryd.prog OkT fid_impl_NumText run_impl_NumText := lim_ok (l := pl_impl_NumText) Tryd_mix tyTab_ok fiTab_ok okT (.cons ok_strconv_Itoa .nil) fid_impl_NumText
noncomputable def impl_NumText (k m : Nat) (i1 : Int) : Option Res :=
  (callS run_strconv_Itoa [.one (Cell.int (if i1 < 0 then 0 else i1))] []).bind fun r2 =>
  cond (shapeOk rk_strconv_Itoa r2)
  ((cS (cellsAt r2 0) 0).bind fun s3 =>
  some ([.one (Cell.str s3)], []))
  none
theorem impl_NumText_code (k m : Nat) (i1 : Int) : evC G_impl_NumText fi_impl_NumText (evF G_impl_NumText (k + 1)) m fi_impl_NumText.code none (retK G_impl_NumText fi_impl_NumText) (enter fi_impl_NumText [.one (Cell.int i1)] []) = impl_NumText (k + 1) m i1 := by
  kernel_rfl
theorem impl_NumText_eq (k : Nat) (i1 : Int) : evF G_impl_NumText (k + 2) fid_impl_NumText [.one (Cell.int i1)] [] = impl_NumText (k + 1) (k + 1) i1 :=
  Eq.trans (by kernel_rfl) (impl_NumText_code k (k + 1) i1)
theorem run_impl_NumText_of {i1 : Int} {r : Res} (k : Nat) (h : impl_NumText (k + 1) (k + 1) i1 = some r) : run_impl_NumText [.one (Cell.int i1)] [] = some r := lim_of ((impl_NumText_eq k i1).trans h)
noncomputable def pl_impl_ParseNum : List (Nat × Run) := [(fid_impl_inRange, run_impl_inRange), (fid_impl_isFigure, run_impl_isFigure), (fid_impl_NumText, run_impl_NumText)]
noncomputable def G_impl_ParseNum : Ctx := ctx tyTab fiTab pl_impl_ParseNum
noncomputable def run_impl_ParseNum : Run := lim G_impl_ParseNum fid_impl_ParseNum
theorem ok_impl_ParseNum : FnOk Tryd.prog OkT fid_impl_ParseNum run_impl_ParseNum := lim_ok (l := pl_impl_ParseNum) Tryd_mix tyTab_ok fiTab_ok okT (.cons ok_impl_inRange (.cons ok_impl_isFigure (.cons ok_impl_NumText .nil))) fid_impl_ParseNum
noncomputable def impl_ParseNum_l0 (k m : Nat) : Nat → ByteArray → Int → Int → Int → Option Res
  | 0, _, _, _, _ => none
  | n + 1, s5, i6, i7, i8 =>
    cond (decide (i8 < (s5.size : Int)))
    ((bytS s5 i8).bind fun i9 =>
    (callS run_impl_isFigure [.one (.sc (.int .u8 i9))] []).bind fun r10 =>
    cond (shapeOk rk_impl_isFigure r10)
    ((cB (cellsAt r10 0) 0).bind fun b11 =>
    cond (!b11)
    (some ([.one (Cell.int 0), .one (Cell.bool false)], []))
    ((bytS s5 i8).bind fun i12 =>
    impl_ParseNum_l0 k m n s5 i6 (IntKind.i64.wrap ((IntKind.i64.wrap (i7 * 10)) + (IntKind.i64.wrap (IntKind.u8.wrap (i12 - 48))))) (IntKind.i64.wrap (i8 + 1))))
    none)
    ((callS run_impl_NumText [.one (Cell.int i7)] []).bind fun r13 =>
    cond (shapeOk rk_impl_NumText r13)
    ((cS (cellsAt r13 0) 0).bind fun s14 =>
    cond (!(s14.toList == s5.toList))
    (some ([.one (Cell.int 0), .one (Cell.bool false)], []))
    (cond (decide (i7 > i6))
    (some ([.one (Cell.int 0), .one (Cell.bool false)], []))
    (some ([.one (Cell.int i7), .one (Cell.bool true)], []))))
    none)
noncomputable def impl_ParseNum (k m : Nat) (s1 : ByteArray) (i2 : Int) : Option Res :=
  (callS run_impl_inRange [.one (Cell.int (s1.size : Int)), .one (Cell.int 1), .one (Cell.int 7)] []).bind fun r3 =>
  cond (shapeOk rk_impl_inRange r3)
  ((cB (cellsAt r3 0) 0).bind fun b4 =>
  cond (!b4)
  (some ([.one (Cell.int 0), .one (Cell.bool false)], []))
  (impl_ParseNum_l0 k m m s1 i2 0 0))
  none
noncomputable abbrev impl_ParseNum_l0_B (k m : Nat) : (Ex → Fr → Option Res) → Fr → Option Res := evC G_impl_ParseNum fi_impl_ParseNum (evF G_impl_ParseNum (k + 1)) m (sub [1, 1, 1, 0, 1, 2, 3] fi_impl_ParseNum.code) none
noncomputable abbrev impl_ParseNum_l0_K (k m : Nat) : Ex → Fr → Option Res := blockK 0 (seqK (evC G_impl_ParseNum fi_impl_ParseNum (evF G_impl_ParseNum (k + 1)) m (sub [1, 1, 1, 1] fi_impl_ParseNum.code) none) (retK G_impl_ParseNum fi_impl_ParseNum))
theorem impl_ParseNum_l0_eq (k m : Nat) : ∀ (n : Nat) (s5 : ByteArray) (i6 : Int) (i7 : Int) (i8 : Int), loopK (some [0, 1, 6, 7]) (impl_ParseNum_l0_B k m) (impl_ParseNum_l0_K k m) n ⟨fT 41 0 [(0, .av (.one (Cell.str s5))), (1, .av (.one (Cell.int i6))), (6, .av (.one (Cell.int i7))), (7, .av (.one (Cell.int i8)))], fX 41 0 [], []⟩ = impl_ParseNum_l0 (k + 1) m n s5 i6 i7 i8 := by
  intro n
  induction n with
  | zero => intros; rfl
  | succ n ih =>
    intros
    simp only [impl_ParseNum_l0, ← ih]
    kernel_rfl
theorem impl_ParseNum_code (k m : Nat) (s1 : ByteArray) (i2 : Int) : evC G_impl_ParseNum fi_impl_ParseNum (evF G_impl_ParseNum (k + 1)) m fi_impl_ParseNum.code none (retK G_impl_ParseNum fi_impl_ParseNum) (enter fi_impl_ParseNum [.one (Cell.str s1), .one (Cell.int i2)] []) = impl_ParseNum (k + 1) m s1 i2 := by
  simp only [impl_ParseNum, ← impl_ParseNum_l0_eq k m]
  kernel_rfl
theorem impl_ParseNum_eq (k : Nat) (s1 : ByteArray) (i2 : Int) : evF G_impl_ParseNum (k + 2) fid_impl_ParseNum [.one (Cell.str s1), .one (Cell.int i2)] [] = impl_ParseNum (k + 1) (k + 1) s1 i2 :=
  Eq.trans (by kernel_rfl) (impl_ParseNum_code k (k + 1) s1 i2)
theorem run_impl_ParseNum_of {s1 : ByteArray} {i2 : Int} {r : Res} (k : Nat) (h : impl_ParseNum (k + 1) (k + 1) s1 i2 = some r) : run_impl_ParseNum [.one (Cell.str s1), .one (Cell.int i2)] [] = some r := lim_of ((impl_ParseNum_eq k s1 i2).trans h)
noncomputable def pl_impl_isSmall : List (Nat × Run) := []
noncomputable def G_impl_isSmall : Ctx := ctx tyTab fiTab pl_impl_isSmall
noncomputable def run_impl_isSmall : Run := lim G_impl_isSmall fid_impl_isSmall
theorem ok_impl_isSmall : FnOk Tryd.prog OkT fid_impl_isSmall run_impl_isSmall := lim_ok (l := pl_impl_isSmall) Tryd_mix tyTab_ok fiTab_ok okT .nil fid_impl_isSmall
noncomputable def impl_isSmall (k m : Nat) (i1 : Int) : Option Res :=
  cond (decide (i1 ≥ 97))
  (some ([.one (Cell.bool (decide (i1 ≤ 122)))], []))
  (some ([.one (Cell.bool false)], []))
theorem impl_isSmall_code (k m : Nat) (i1 : Int) : evC G_impl_isSmall fi_impl_isSmall (evF G_impl_isSmall (k + 1)) m fi_impl_isSmall.code none (retK G_impl_isSmall fi_impl_isSmall) (enter fi_impl_isSmall [.one (.sc (.int .u8 i1))] []) = impl_isSmall (k + 1) m i1 := by
  kernel_rfl
theorem impl_isSmall_eq (k : Nat) (i1 : Int) : evF G_impl_isSmall (k + 2) fid_impl_isSmall [.one (.sc (.int .u8 i1))] [] = impl_isSmall (k + 1) (k + 1) i1 :=
  Eq.trans (by kernel_rfl) (impl_isSmall_code k (k + 1) i1)
theorem run_impl_isSmall_of {i1 : Int} {r : Res} (k : Nat) (h : impl_isSmall (k + 1) (k + 1) i1 = some r) : run_impl_isSmall [.one (.sc (.int .u8 i1))] [] = some r := lim_of ((impl_isSmall_eq k i1).trans h)
noncomputable def pl_impl_isFigures : List (Nat × Run) := [(fid_impl_isFigure, run_impl_isFigure)]
noncomputable def G_impl_isFigures : Ctx := ctx tyTab fiTab pl_impl_isFigures
noncomputable def run_impl_isFigures : Run := lim G_impl_isFigures fid_impl_isFigures
theorem ok_impl_isFigures : FnOk Tryd.prog OkT fid_impl_isFigures run_impl_isFigures := lim_ok (l := pl_impl_isFigures) Tryd_mix tyTab_ok fiTab_ok okT (.cons ok_impl_isFigure .nil) fid_impl_isFigures
noncomputable def impl_isFigures_l0 (k m : Nat) : Nat → ByteArray → Int → Option Res
  | 0, _, _ => none
  | n + 1, s2, i3 =>
    cond (decide (i3 < (s2.size : Int)))
    ((bytS s2 i3).bind fun i4 =>
    (callS run_impl_isFigure [.one (.sc (.int .u8 i4))] []).bind fun r5 =>
    cond (shapeOk rk_impl_isFigure r5)
    ((cB (cellsAt r5 0) 0).bind fun b6 =>
    cond (!b6)
    (some ([.one (Cell.bool false)], []))
    (impl_isFigures_l0 k m n s2 (IntKind.i64.wrap (i3 + 1))))
    none)
    (some ([.one (Cell.bool (!(s2.toList == (bs []).toList)))], []))
noncomputable def impl_isFigures (k m : Nat) (s1 : ByteArray) : Option Res :=
  impl_isFigures_l0 k m m s1 0
noncomputable abbrev impl_isFigures_l0_B (k m : Nat) : (Ex → Fr → Option Res) → Fr → Option Res := evC G_impl_isFigures fi_impl_isFigures (evF G_impl_isFigures (k + 1)) m (sub [1, 0, 1, 2, 3] fi_impl_isFigures.code) none
noncomputable abbrev impl_isFigures_l0_K (k m : Nat) : Ex → Fr → Option Res := blockK 0 (seqK (evC G_impl_isFigures fi_impl_isFigures (evF G_impl_isFigures (k + 1)) m (sub [1, 1] fi_impl_isFigures.code) none) (retK G_impl_isFigures fi_impl_isFigures))
theorem impl_isFigures_l0_eq (k m : Nat) : ∀ (n : Nat) (s2 : ByteArray) (i3 : Int), loopK (some [0, 3]) (impl_isFigures_l0_B k m) (impl_isFigures_l0_K k m) n ⟨fT 17 0 [(0, .av (.one (Cell.str s2))), (3, .av (.one (Cell.int i3)))], fX 17 0 [], []⟩ = impl_isFigures_l0 (k + 1) m n s2 i3 := by
  intro n
  induction n with
  | zero => intros; rfl
  | succ n ih =>
    intros
    simp only [impl_isFigures_l0, ← ih]
    kernel_rfl
theorem impl_isFigures_code (k m : Nat) (s1 : ByteArray) : evC G_impl_isFigures fi_impl_isFigures (evF G_impl_isFigures (k + 1)) m fi_impl_isFigures.code none (retK G_impl_isFigures fi_impl_isFigures) (enter fi_impl_isFigures [.one (Cell.str s1)] []) = impl_isFigures (k + 1) m s1 := by
  simp only [impl_isFigures, ← impl_isFigures_l0_eq k m]
  kernel_rfl
theorem impl_isFigures_eq (k : Nat) (s1 : ByteArray) : evF G_impl_isFigures (k + 2) fid_impl_isFigures [.one (Cell.str s1)] [] = impl_isFigures (k + 1) (k + 1) s1 :=
  Eq.trans (by kernel_rfl) (impl_isFigures_code k (k + 1) s1)
theorem run_impl_isFigures_of {s1 : ByteArray} {r : Res} (k : Nat) (h : impl_isFigures (k + 1) (k + 1) s1 = some r) : run_impl_isFigures [.one (Cell.str s1)] [] = some r := lim_of ((impl_isFigures_eq k s1).trans h)
noncomputable def pl_impl_preOk : List (Nat × Run) := [(fid_impl_inRange, run_impl_inRange), (fid_impl_isFigure, run_impl_isFigure), (fid_impl_isSmall, run_impl_isSmall), (fid_impl_isFigures, run_impl_isFigures)]
noncomputable def G_impl_preOk : Ctx := ctx tyTab fiTab pl_impl_preOk
noncomputable def run_impl_preOk : Run := lim G_impl_preOk fid_impl_preOk
theorem ok_impl_preOk : FnOk Tryd.prog OkT fid_impl_preOk run_impl_preOk := lim_ok (l := pl_impl_preOk) Tryd_mix tyTab_ok fiTab_ok okT (.cons ok_impl_inRange (.cons ok_impl_isFigure (.cons ok_impl_isSmall (.cons ok_impl_isFigures .nil)))) fid_impl_preOk
noncomputable def impl_preOk_l0 (k m : Nat) : Nat → ByteArray → Int → Option Res
  | 0, _, _ => none
  | n + 1, s2, i3 =>
    cond (decide (i3 < (s2.size : Int)))
    ((bytS s2 i3).bind fun i4 =>
    (callS run_impl_isSmall [.one (.sc (.int .u8 i4))] []).bind fun r5 =>
    cond (shapeOk rk_impl_isSmall r5)
    ((cB (cellsAt r5 0) 0).bind fun b6 =>
    cond (!b6)
    (cond (decide (i4 ≥ 65))
    (cond (!(decide (i4 ≤ 90)))
    ((callS run_impl_isFigure [.one (.sc (.int .u8 i4))] []).bind fun r7 =>
    cond (shapeOk rk_impl_isFigure r7)
    ((cB (cellsAt r7 0) 0).bind fun b8 =>
    cond (!b8)
    (cond (i4 != 45)
    (some ([.one (Cell.bool false)], []))
    (impl_preOk_l0 k m n s2 (IntKind.i64.wrap (i3 + 1))))
    (impl_preOk_l0 k m n s2 (IntKind.i64.wrap (i3 + 1))))
    none)
    (impl_preOk_l0 k m n s2 (IntKind.i64.wrap (i3 + 1))))
    ((callS run_impl_isFigure [.one (.sc (.int .u8 i4))] []).bind fun r9 =>
    cond (shapeOk rk_impl_isFigure r9)
    ((cB (cellsAt r9 0) 0).bind fun b10 =>
    cond (!b10)
    (cond (i4 != 45)
    (some ([.one (Cell.bool false)], []))
    (impl_preOk_l0 k m n s2 (IntKind.i64.wrap (i3 + 1))))
    (impl_preOk_l0 k m n s2 (IntKind.i64.wrap (i3 + 1))))
    none))
    (impl_preOk_l0 k m n s2 (IntKind.i64.wrap (i3 + 1))))
    none)
    ((callS run_impl_inRange [.one (Cell.int (s2.size : Int)), .one (Cell.int 1), .one (Cell.int 8)] []).bind fun r11 =>
    cond (shapeOk rk_impl_inRange r11)
    ((cB (cellsAt r11 0) 0).bind fun b12 =>
    cond b12
    ((callS run_impl_isFigures [.one (Cell.str s2)] []).bind fun r13 =>
    cond (shapeOk rk_impl_isFigures r13)
    ((cB (cellsAt r13 0) 0).bind fun b14 =>
    cond (!b14)
    (some ([.one (Cell.bool true)], []))
    (cond (s2.toList == (bs [48]).toList)
    (some ([.one (Cell.bool true)], []))
    ((bytS s2 0).bind fun i15 =>
    some ([.one (Cell.bool (i15 != 48))], []))))
    none)
    (some ([.one (Cell.bool false)], [])))
    none)
noncomputable def impl_preOk (k m : Nat) (s1 : ByteArray) : Option Res :=
  impl_preOk_l0 k m m s1 0
noncomputable abbrev impl_preOk_l0_B (k m : Nat) : (Ex → Fr → Option Res) → Fr → Option Res := evC G_impl_preOk fi_impl_preOk (evF G_impl_preOk (k + 1)) m (sub [1, 0, 1, 2, 3] fi_impl_preOk.code) none
noncomputable abbrev impl_preOk_l0_K (k m : Nat) : Ex → Fr → Option Res := blockK 0 (seqK (evC G_impl_preOk fi_impl_preOk (evF G_impl_preOk (k + 1)) m (sub [1, 1] fi_impl_preOk.code) none) (retK G_impl_preOk fi_impl_preOk))
theorem impl_preOk_l0_eq (k m : Nat) : ∀ (n : Nat) (s2 : ByteArray) (i3 : Int), loopK (some [0, 3]) (impl_preOk_l0_B k m) (impl_preOk_l0_K k m) n ⟨fT 52 0 [(0, .av (.one (Cell.str s2))), (3, .av (.one (Cell.int i3)))], fX 52 0 [], []⟩ = impl_preOk_l0 (k + 1) m n s2 i3 := by
  intro n
  induction n with
  | zero => intros; rfl
  | succ n ih =>
    intros
    simp only [impl_preOk_l0, ← ih]
    kernel_rfl
theorem impl_preOk_code (k m : Nat) (s1 : ByteArray) : evC G_impl_preOk fi_impl_preOk (evF G_impl_preOk (k + 1)) m fi_impl_preOk.code none (retK G_impl_preOk fi_impl_preOk) (enter fi_impl_preOk [.one (Cell.str s1)] []) = impl_preOk (k + 1) m s1 := by
  simp only [impl_preOk, ← impl_preOk_l0_eq k m]
  kernel_rfl
theorem impl_preOk_eq (k : Nat) (s1 : ByteArray) : evF G_impl_preOk (k + 2) fid_impl_preOk [.one (Cell.str s1)] [] = impl_preOk (k + 1) (k + 1) s1 :=
  Eq.trans (by kernel_rfl) (impl_preOk_code k (k + 1) s1)
theorem run_impl_preOk_of {s1 : ByteArray} {r : Res} (k : Nat) (h : impl_preOk (k + 1) (k + 1) s1 = some r) : run_impl_preOk [.one (Cell.str s1)] [] = some r := lim_of ((impl_preOk_eq k s1).trans h)
noncomputable def pl_impl_VerOk : List (Nat × Run) := [(fid_impl_inRange, run_impl_inRange), (fid_impl_preOk, run_impl_preOk)]
noncomputable def G_impl_VerOk : Ctx := ctx tyTab fiTab pl_impl_VerOk
noncomputable def run_impl_VerOk : Run := lim G_impl_VerOk fid_impl_VerOk
theorem ok_impl_VerOk : FnOk Tryd.prog OkT fid_impl_VerOk run_impl_VerOk := lim_ok (l := pl_impl_VerOk) Tryd_mix tyTab_ok fiTab_ok okT (.cons ok_impl_inRange (.cons ok_impl_preOk .nil)) fid_impl_VerOk
noncomputable def impl_VerOk_l0 (k m : Nat) : Nat → Cell → Int → Int → Int → Int → Int → Cell → Option Res
  | 0, _, _, _, _, _, _, _ => none
  | n + 1, c6, i7, i8, i9, i10, i11, c12 =>
    cond (decide (i8 < i7))
    ((idxA 1 (c6) i8).bind fun c13 =>
    (deref [] (c13)).bind fun p14 =>
    (cS p14.1 p14.2).bind fun s15 =>
    (callS run_impl_preOk [.one (Cell.str s15)] []).bind fun r16 =>
    cond (shapeOk rk_impl_preOk r16)
    ((cB (cellsAt r16 0) 0).bind fun b17 =>
    cond (!b17)
    (some ([.one (Cell.bool false)], []))
    (impl_VerOk_l0 k m n (c6) i7 (IntKind.i64.wrap (i8 + 1)) i9 i10 i11 (c12)))
    none)
    ((callS run_impl_inRange [.one (Cell.int i9), .one (Cell.int 0), .one (Cell.int 9999)] []).bind fun r18 =>
    cond (shapeOk rk_impl_inRange r18)
    ((cB (cellsAt r18 0) 0).bind fun b19 =>
    cond b19
    ((callS run_impl_inRange [.one (Cell.int i10), .one (Cell.int 0), .one (Cell.int 9999)] []).bind fun r20 =>
    cond (shapeOk rk_impl_inRange r20)
    ((cB (cellsAt r20 0) 0).bind fun b21 =>
    cond b21
    ((callS run_impl_inRange [.one (Cell.int i11), .one (Cell.int 0), .one (Cell.int 9999)] []).bind fun r22 =>
    cond (shapeOk rk_impl_inRange r22)
    ((cB (cellsAt r22 0) 0).bind fun b23 =>
    cond b23
    ((lenC c12).bind fun n24 =>
    some ([.one (Cell.bool (decide ((n24 : Int) ≤ 3)))], []))
    (some ([.one (Cell.bool false)], [])))
    none)
    (some ([.one (Cell.bool false)], [])))
    none)
    (some ([.one (Cell.bool false)], [])))
    none)
noncomputable def impl_VerOk (k m : Nat) (i1 : Int) (i2 : Int) (i3 : Int) (c4 : Cell) : Option Res :=
  (lenC c4).bind fun n5 =>
  impl_VerOk_l0 k m m (c4) (n5 : Int) 0 i1 i2 i3 (c4)
noncomputable abbrev impl_VerOk_l0_B (k m : Nat) : (Ex → Fr → Option Res) → Fr → Option Res := evC G_impl_VerOk fi_impl_VerOk (evF G_impl_VerOk (k + 1)) m (sub [1, 0, 1, 2, 3] fi_impl_VerOk.code) none
noncomputable abbrev impl_VerOk_l0_K (k m : Nat) : Ex → Fr → Option Res := blockK 0 (seqK (evC G_impl_VerOk fi_impl_VerOk (evF G_impl_VerOk (k + 1)) m (sub [1, 1] fi_impl_VerOk.code) none) (retK G_impl_VerOk fi_impl_VerOk))
theorem impl_VerOk_l0_eq (k m : Nat) : ∀ (n : Nat) (c6 : Cell) (i7 : Int) (i8 : Int) (i9 : Int) (i10 : Int) (i11 : Int) (c12 : Cell), loopK (some [1, 6, 7, 8]) (impl_VerOk_l0_B k m) (impl_VerOk_l0_K k m) n ⟨fT 35 0 [(1, .loc 1 0), (6, .av (.one (c6))), (7, .av (.one (Cell.int i7))), (8, .av (.one (Cell.int i8)))], fX 35 0 [(1, [Cell.int i9, Cell.int i10, Cell.int i11, c12])], []⟩ = impl_VerOk_l0 (k + 1) m n c6 i7 i8 i9 i10 i11 c12 := by
  intro n
  induction n with
  | zero => intros; rfl
  | succ n ih =>
    intros
    simp only [impl_VerOk_l0, ← ih]
    kernel_rfl
theorem impl_VerOk_code (k m : Nat) (i1 : Int) (i2 : Int) (i3 : Int) (c4 : Cell) : evC G_impl_VerOk fi_impl_VerOk (evF G_impl_VerOk (k + 1)) m fi_impl_VerOk.code none (retK G_impl_VerOk fi_impl_VerOk) (enter fi_impl_VerOk [.agg [Cell.int i1, Cell.int i2, Cell.int i3, c4]] []) = impl_VerOk (k + 1) m i1 i2 i3 c4 := by
  simp only [impl_VerOk, ← impl_VerOk_l0_eq k m]
  kernel_rfl
theorem impl_VerOk_eq (k : Nat) (i1 : Int) (i2 : Int) (i3 : Int) (c4 : Cell) : evF G_impl_VerOk (k + 2) fid_impl_VerOk [.agg [Cell.int i1, Cell.int i2, Cell.int i3, c4]] [] = impl_VerOk (k + 1) (k + 1) i1 i2 i3 c4 :=
  Eq.trans (by kernel_rfl) (impl_VerOk_code k (k + 1) i1 i2 i3 c4)
theorem run_impl_VerOk_of {i1 : Int} {i2 : Int} {i3 : Int} {c4 : Cell} {r : Res} (k : Nat) (h : impl_VerOk (k + 1) (k + 1) i1 i2 i3 c4 = some r) : run_impl_VerOk [.agg [Cell.int i1, Cell.int i2, Cell.int i3, c4]] [] = some r := lim_of ((impl_VerOk_eq k i1 i2 i3 c4).trans h)
noncomputable def pl_impl_VerText : List (Nat × Run) := [(fid_impl_VerOk, run_impl_VerOk), (fid_impl_NumText, run_impl_NumText), (fid_strings_Join, run_strings_Join)]
noncomputable def G_impl_VerText : Ctx := ctx tyTab fiTab pl_impl_VerText
noncomputable def run_impl_VerText : Run := lim G_impl_VerText fid_impl_VerText
theorem ok_impl_VerText : FnOk Tryd.prog OkT fid_impl_VerText run_impl_VerText := lim_ok (l := pl_impl_VerText) Tryd_mix tyTab_ok fiTab_ok okT (.cons ok_impl_VerOk (.cons ok_impl_NumText (.cons ok_strings_Join .nil))) fid_impl_VerText
noncomputable def impl_VerText (k m : Nat) (i1 : Int) (i2 : Int) (i3 : Int) (c4 : Cell) : Option Res :=
  (callS run_impl_VerOk [.agg [Cell.int i1, Cell.int i2, Cell.int i3, c4]] []).bind fun r5 =>
  cond (shapeOk rk_impl_VerOk r5)
  ((cB (cellsAt r5 0) 0).bind fun b6 =>
  cond (!b6)
  (some ([.one (Cell.str (bs []))], []))
  ((callS run_impl_NumText [.one (Cell.int i1)] []).bind fun r7 =>
  cond (shapeOk rk_impl_NumText r7)
  ((cS (cellsAt r7 0) 0).bind fun s8 =>
  (catS s8 (bs [46])).bind fun s9 =>
  (callS run_impl_NumText [.one (Cell.int i2)] []).bind fun r10 =>
  cond (shapeOk rk_impl_NumText r10)
  ((cS (cellsAt r10 0) 0).bind fun s11 =>
  (catS s9 s11).bind fun s12 =>
  (catS s12 (bs [46])).bind fun s13 =>
  (callS run_impl_NumText [.one (Cell.int i3)] []).bind fun r14 =>
  cond (shapeOk rk_impl_NumText r14)
  ((cS (cellsAt r14 0) 0).bind fun s15 =>
  (catS s13 s15).bind fun s16 =>
  (lenC c4).bind fun n17 =>
  cond (decide ((n17 : Int) > 0))
  ((callS run_strings_Join [.one (c4), .one (Cell.str (bs [46]))] []).bind fun r18 =>
  cond (shapeOk rk_strings_Join r18)
  ((cS (cellsAt r18 0) 0).bind fun s19 =>
  (catS (bs [45]) s19).bind fun s20 =>
  (catS s16 s20).bind fun s21 =>
  some ([.one (Cell.str s21)], []))
  none)
  (some ([.one (Cell.str s16)], [])))
  none)
  none)
  none))
  none
theorem impl_VerText_code (k m : Nat) (i1 : Int) (i2 : Int) (i3 : Int) (c4 : Cell) : evC G_impl_VerText fi_impl_VerText (evF G_impl_VerText (k + 1)) m fi_impl_VerText.code none (retK G_impl_VerText fi_impl_VerText) (enter fi_impl_VerText [.agg [Cell.int i1, Cell.int i2, Cell.int i3, c4]] []) = impl_VerText (k + 1) m i1 i2 i3 c4 := by
  kernel_rfl
theorem impl_VerText_eq (k : Nat) (i1 : Int) (i2 : Int) (i3 : Int) (c4 : Cell) : evF G_impl_VerText (k + 2) fid_impl_VerText [.agg [Cell.int i1, Cell.int i2, Cell.int i3, c4]] [] = impl_VerText (k + 1) (k + 1) i1 i2 i3 c4 :=
  Eq.trans (by kernel_rfl) (impl_VerText_code k (k + 1) i1 i2 i3 c4)
theorem run_impl_VerText_of {i1 : Int} {i2 : Int} {i3 : Int} {c4 : Cell} {r : Res} (k : Nat) (h : impl_VerText (k + 1) (k + 1) i1 i2 i3 c4 = some r) : run_impl_VerText [.agg [Cell.int i1, Cell.int i2, Cell.int i3, c4]] [] = some r := lim_of ((impl_VerText_eq k i1 i2 i3 c4).trans h)
end Go.Ev
