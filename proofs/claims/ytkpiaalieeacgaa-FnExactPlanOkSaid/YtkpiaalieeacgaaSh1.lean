/- What the evaluator says of the functions, each as a Lean function over cells. Printed by a program of this claim. Conditions: none. -/
import Derived.Test.YtkpiaalieeacgaaSh0
import Derived.KernelRfl
namespace Go.Ev
open Go Go.Proofs
set_option maxRecDepth 100000
set_option linter.unusedVariables false
set_option linter.unusedSimpArgs false
noncomputable def pl_internal_bytealg_hashStr_string : List (Nat × Run) := []
noncomputable def G_internal_bytealg_hashStr_string : Ctx := ctx tyTab fiTab pl_internal_bytealg_hashStr_string
noncomputable def run_internal_bytealg_hashStr_string : Run := lim G_internal_bytealg_hashStr_string fid_internal_bytealg_hashStr_string
theorem ok_internal_bytealg_hashStr_string : FnOk Try.prog OkT fid_internal_bytealg_hashStr_string run_internal_bytealg_hashStr_string := lim_ok (l := pl_internal_bytealg_hashStr_string) Try_mix tyTab_ok fiTab_ok okT .nil fid_internal_bytealg_hashStr_string
noncomputable def internal_bytealg_hashStr_string_l1 (k m : Nat) : Nat → Int → Int → Int → Int → Option Res
  | 0, _, _, _, _ => none
  | n + 1, i6, i7, i8, i9 =>
    cond (decide (i9 > 0))
    (cond ((andI .i64 i9 1) != 0)
    (internal_bytealg_hashStr_string_l1 k m n i6 (IntKind.u32.wrap (i7 * i8)) (IntKind.u32.wrap (i8 * i8)) (shrI .i64 i9 1))
    (internal_bytealg_hashStr_string_l1 k m n i6 i7 (IntKind.u32.wrap (i8 * i8)) (shrI .i64 i9 1)))
    (some ([.one (.sc (.int .u32 i6)), .one (.sc (.int .u32 i7))], []))
noncomputable def internal_bytealg_hashStr_string_l0 (k m : Nat) : Nat → ByteArray → Int → Int → Option Res
  | 0, _, _, _ => none
  | n + 1, s2, i3, i4 =>
    cond (decide (i4 < (s2.size : Int)))
    ((bytS s2 i4).bind fun i5 =>
    internal_bytealg_hashStr_string_l0 k m n s2 (IntKind.u32.wrap ((IntKind.u32.wrap (i3 * 16777619)) + (IntKind.u32.wrap i5))) (IntKind.i64.wrap (i4 + 1)))
    (internal_bytealg_hashStr_string_l1 k m m i3 1 16777619 (s2.size : Int))
noncomputable def internal_bytealg_hashStr_string (k m : Nat) (s1 : ByteArray) : Option Res :=
  internal_bytealg_hashStr_string_l0 k m m s1 0 0
noncomputable abbrev internal_bytealg_hashStr_string_l0_B (k m : Nat) : (Ex → Fr → Option Res) → Fr → Option Res := evC G_internal_bytealg_hashStr_string fi_internal_bytealg_hashStr_string (evF G_internal_bytealg_hashStr_string (k + 1)) m (sub [1, 1, 0, 1, 2, 3] fi_internal_bytealg_hashStr_string.code) none
noncomputable abbrev internal_bytealg_hashStr_string_l0_K (k m : Nat) : Ex → Fr → Option Res := blockK 0 (seqK (evC G_internal_bytealg_hashStr_string fi_internal_bytealg_hashStr_string (evF G_internal_bytealg_hashStr_string (k + 1)) m (sub [1, 1, 1] fi_internal_bytealg_hashStr_string.code) none) (retK G_internal_bytealg_hashStr_string fi_internal_bytealg_hashStr_string))
noncomputable abbrev internal_bytealg_hashStr_string_l1_B (k m : Nat) : (Ex → Fr → Option Res) → Fr → Option Res := evC G_internal_bytealg_hashStr_string fi_internal_bytealg_hashStr_string (evF G_internal_bytealg_hashStr_string (k + 1)) m (sub [1, 1, 1, 1, 0, 1, 2, 3] fi_internal_bytealg_hashStr_string.code) none
noncomputable abbrev internal_bytealg_hashStr_string_l1_K (k m : Nat) : Ex → Fr → Option Res := blockK 2 (seqK (evC G_internal_bytealg_hashStr_string fi_internal_bytealg_hashStr_string (evF G_internal_bytealg_hashStr_string (k + 1)) m (sub [1, 1, 1, 1, 1] fi_internal_bytealg_hashStr_string.code) none) (retK G_internal_bytealg_hashStr_string fi_internal_bytealg_hashStr_string))
theorem internal_bytealg_hashStr_string_l1_eq (k m : Nat) : ∀ (n : Nat) (i6 : Int) (i7 : Int) (i8 : Int) (i9 : Int), loopK (some [4, 6, 7, 8]) (internal_bytealg_hashStr_string_l1_B k m) (internal_bytealg_hashStr_string_l1_K k m) n ⟨fT 39 0 [(4, .av (.one (.sc (.int .u32 i6)))), (6, .av (.one (.sc (.int .u32 i7)))), (7, .av (.one (.sc (.int .u32 i8)))), (8, .av (.one (Cell.int i9)))], fX 39 0 [], []⟩ = internal_bytealg_hashStr_string_l1 (k + 1) m n i6 i7 i8 i9 := by
  intro n
  induction n with
  | zero => intros; rfl
  | succ n ih =>
    intros
    simp only [internal_bytealg_hashStr_string_l1, ← ih]
    kernel_rfl
theorem internal_bytealg_hashStr_string_l0_eq (k m : Nat) : ∀ (n : Nat) (s2 : ByteArray) (i3 : Int) (i4 : Int), loopK (some [0, 4, 5]) (internal_bytealg_hashStr_string_l0_B k m) (internal_bytealg_hashStr_string_l0_K k m) n ⟨fT 39 0 [(0, .av (.one (Cell.str s2))), (4, .av (.one (.sc (.int .u32 i3)))), (5, .av (.one (Cell.int i4)))], fX 39 0 [], []⟩ = internal_bytealg_hashStr_string_l0 (k + 1) m n s2 i3 i4 := by
  intro n
  induction n with
  | zero => intros; rfl
  | succ n ih =>
    intros
    simp only [internal_bytealg_hashStr_string_l0, ← internal_bytealg_hashStr_string_l1_eq k m, ← ih]
    kernel_rfl
theorem internal_bytealg_hashStr_string_code (k m : Nat) (s1 : ByteArray) : evC G_internal_bytealg_hashStr_string fi_internal_bytealg_hashStr_string (evF G_internal_bytealg_hashStr_string (k + 1)) m fi_internal_bytealg_hashStr_string.code none (retK G_internal_bytealg_hashStr_string fi_internal_bytealg_hashStr_string) (enter fi_internal_bytealg_hashStr_string [.one (Cell.str s1)] []) = internal_bytealg_hashStr_string (k + 1) m s1 := by
  simp only [internal_bytealg_hashStr_string, ← internal_bytealg_hashStr_string_l0_eq k m]
  kernel_rfl
theorem internal_bytealg_hashStr_string_eq (k : Nat) (s1 : ByteArray) : evF G_internal_bytealg_hashStr_string (k + 2) fid_internal_bytealg_hashStr_string [.one (Cell.str s1)] [] = internal_bytealg_hashStr_string (k + 1) (k + 1) s1 :=
  Eq.trans (by kernel_rfl) (internal_bytealg_hashStr_string_code k (k + 1) s1)
theorem run_internal_bytealg_hashStr_string_of {s1 : ByteArray} {r : Res} (k : Nat) (h : internal_bytealg_hashStr_string (k + 1) (k + 1) s1 = some r) : run_internal_bytealg_hashStr_string [.one (Cell.str s1)] [] = some r := lim_of ((internal_bytealg_hashStr_string_eq k s1).trans h)
noncomputable def pl_internal_bytealg_IndexRabinKarp_string : List (Nat × Run) := [(fid_internal_bytealg_hashStr_string, run_internal_bytealg_hashStr_string)]
noncomputable def G_internal_bytealg_IndexRabinKarp_string : Ctx := ctx tyTab fiTab pl_internal_bytealg_IndexRabinKarp_string
noncomputable def run_internal_bytealg_IndexRabinKarp_string : Run := lim G_internal_bytealg_IndexRabinKarp_string fid_internal_bytealg_IndexRabinKarp_string
theorem ok_internal_bytealg_IndexRabinKarp_string : FnOk Try.prog OkT fid_internal_bytealg_IndexRabinKarp_string run_internal_bytealg_IndexRabinKarp_string := lim_ok (l := pl_internal_bytealg_IndexRabinKarp_string) Try_mix tyTab_ok fiTab_ok okT (.cons ok_internal_bytealg_hashStr_string .nil) fid_internal_bytealg_IndexRabinKarp_string
noncomputable def internal_bytealg_IndexRabinKarp_string_l1 (k m : Nat) : Nat → ByteArray → ByteArray → Int → Int → Int → Int → Int → Option Res
  | 0, _, _, _, _, _, _, _ => none
  | n + 1, s15, s16, i17, i18, i19, i20, i21 =>
    cond (decide (i21 < (s15.size : Int)))
    ((bytS s15 i21).bind fun i22 =>
    (bytS s15 (IntKind.i64.wrap (i21 - i19))).bind fun i23 =>
    cond ((IntKind.u32.wrap ((IntKind.u32.wrap ((IntKind.u32.wrap (i20 * 16777619)) + (IntKind.u32.wrap i22))) - (IntKind.u32.wrap (i18 * (IntKind.u32.wrap i23))))) == i17)
    ((subS s15 (IntKind.i64.wrap ((IntKind.i64.wrap (i21 + 1)) - i19)) (IntKind.i64.wrap (i21 + 1))).bind fun s24 =>
    cond (s24.toList == s16.toList)
    (some ([.one (Cell.int (IntKind.i64.wrap ((IntKind.i64.wrap (i21 + 1)) - i19)))], []))
    (internal_bytealg_IndexRabinKarp_string_l1 k m n s15 s16 i17 i18 i19 (IntKind.u32.wrap ((IntKind.u32.wrap ((IntKind.u32.wrap (i20 * 16777619)) + (IntKind.u32.wrap i22))) - (IntKind.u32.wrap (i18 * (IntKind.u32.wrap i23))))) (IntKind.i64.wrap (i21 + 1))))
    (internal_bytealg_IndexRabinKarp_string_l1 k m n s15 s16 i17 i18 i19 (IntKind.u32.wrap ((IntKind.u32.wrap ((IntKind.u32.wrap (i20 * 16777619)) + (IntKind.u32.wrap i22))) - (IntKind.u32.wrap (i18 * (IntKind.u32.wrap i23))))) (IntKind.i64.wrap (i21 + 1))))
    (some ([.one (Cell.int (-1))], []))
noncomputable def internal_bytealg_IndexRabinKarp_string_l0 (k m : Nat) : Nat → ByteArray → ByteArray → Int → Int → Int → Int → Int → Option Res
  | 0, _, _, _, _, _, _, _ => none
  | n + 1, s6, s7, i8, i9, i10, i11, i12 =>
    cond (decide (i12 < i10))
    ((bytS s6 i12).bind fun i13 =>
    internal_bytealg_IndexRabinKarp_string_l0 k m n s6 s7 i8 i9 i10 (IntKind.u32.wrap ((IntKind.u32.wrap (i11 * 16777619)) + (IntKind.u32.wrap i13))) (IntKind.i64.wrap (i12 + 1)))
    (cond (i11 == i8)
    ((subS s6 0 i10).bind fun s14 =>
    cond (s14.toList == s7.toList)
    (some ([.one (Cell.int 0)], []))
    (internal_bytealg_IndexRabinKarp_string_l1 k m m s6 s7 i8 i9 i10 i11 i10))
    (internal_bytealg_IndexRabinKarp_string_l1 k m m s6 s7 i8 i9 i10 i11 i10))
noncomputable def internal_bytealg_IndexRabinKarp_string (k m : Nat) (s1 : ByteArray) (s2 : ByteArray) : Option Res :=
  (callS run_internal_bytealg_hashStr_string [.one (Cell.str s2)] []).bind fun r3 =>
  cond (shapeOk rk_internal_bytealg_hashStr_string r3)
  ((cI .u32 (cellsAt r3 0) 0).bind fun i4 =>
  (cI .u32 (cellsAt r3 1) 0).bind fun i5 =>
  internal_bytealg_IndexRabinKarp_string_l0 k m m s1 s2 i4 i5 (s2.size : Int) 0 0)
  none
noncomputable abbrev internal_bytealg_IndexRabinKarp_string_l0_B (k m : Nat) : (Ex → Fr → Option Res) → Fr → Option Res := evC G_internal_bytealg_IndexRabinKarp_string fi_internal_bytealg_IndexRabinKarp_string (evF G_internal_bytealg_IndexRabinKarp_string (k + 1)) m (sub [1, 1, 1, 1, 0, 1, 2, 3] fi_internal_bytealg_IndexRabinKarp_string.code) none
noncomputable abbrev internal_bytealg_IndexRabinKarp_string_l0_K (k m : Nat) : Ex → Fr → Option Res := blockK 0 (seqK (evC G_internal_bytealg_IndexRabinKarp_string fi_internal_bytealg_IndexRabinKarp_string (evF G_internal_bytealg_IndexRabinKarp_string (k + 1)) m (sub [1, 1, 1, 1, 1] fi_internal_bytealg_IndexRabinKarp_string.code) none) (retK G_internal_bytealg_IndexRabinKarp_string fi_internal_bytealg_IndexRabinKarp_string))
noncomputable abbrev internal_bytealg_IndexRabinKarp_string_l1_B (k m : Nat) : (Ex → Fr → Option Res) → Fr → Option Res := evC G_internal_bytealg_IndexRabinKarp_string fi_internal_bytealg_IndexRabinKarp_string (evF G_internal_bytealg_IndexRabinKarp_string (k + 1)) m (sub [1, 1, 1, 1, 1, 1, 0, 1, 2, 3] fi_internal_bytealg_IndexRabinKarp_string.code) none
noncomputable abbrev internal_bytealg_IndexRabinKarp_string_l1_K (k m : Nat) : Ex → Fr → Option Res := blockK 2 (seqK (evC G_internal_bytealg_IndexRabinKarp_string fi_internal_bytealg_IndexRabinKarp_string (evF G_internal_bytealg_IndexRabinKarp_string (k + 1)) m (sub [1, 1, 1, 1, 1, 1, 1] fi_internal_bytealg_IndexRabinKarp_string.code) none) (retK G_internal_bytealg_IndexRabinKarp_string fi_internal_bytealg_IndexRabinKarp_string))
theorem internal_bytealg_IndexRabinKarp_string_l1_eq (k m : Nat) : ∀ (n : Nat) (s15 : ByteArray) (s16 : ByteArray) (i17 : Int) (i18 : Int) (i19 : Int) (i20 : Int) (i21 : Int), loopK (some [0, 1, 5, 6, 7, 8, 10]) (internal_bytealg_IndexRabinKarp_string_l1_B k m) (internal_bytealg_IndexRabinKarp_string_l1_K k m) n ⟨fT 81 0 [(0, .av (.one (Cell.str s15))), (1, .av (.one (Cell.str s16))), (5, .av (.one (.sc (.int .u32 i17)))), (6, .av (.one (.sc (.int .u32 i18)))), (7, .av (.one (Cell.int i19))), (8, .av (.one (.sc (.int .u32 i20)))), (10, .av (.one (Cell.int i21)))], fX 81 0 [], []⟩ = internal_bytealg_IndexRabinKarp_string_l1 (k + 1) m n s15 s16 i17 i18 i19 i20 i21 := by
  intro n
  induction n with
  | zero => intros; rfl
  | succ n ih =>
    intros
    simp only [internal_bytealg_IndexRabinKarp_string_l1, ← ih]
    kernel_rfl
theorem internal_bytealg_IndexRabinKarp_string_l0_eq (k m : Nat) : ∀ (n : Nat) (s6 : ByteArray) (s7 : ByteArray) (i8 : Int) (i9 : Int) (i10 : Int) (i11 : Int) (i12 : Int), loopK (some [0, 1, 5, 6, 7, 8, 9]) (internal_bytealg_IndexRabinKarp_string_l0_B k m) (internal_bytealg_IndexRabinKarp_string_l0_K k m) n ⟨fT 81 0 [(0, .av (.one (Cell.str s6))), (1, .av (.one (Cell.str s7))), (5, .av (.one (.sc (.int .u32 i8)))), (6, .av (.one (.sc (.int .u32 i9)))), (7, .av (.one (Cell.int i10))), (8, .av (.one (.sc (.int .u32 i11)))), (9, .av (.one (Cell.int i12)))], fX 81 0 [], []⟩ = internal_bytealg_IndexRabinKarp_string_l0 (k + 1) m n s6 s7 i8 i9 i10 i11 i12 := by
  intro n
  induction n with
  | zero => intros; rfl
  | succ n ih =>
    intros
    simp only [internal_bytealg_IndexRabinKarp_string_l0, ← internal_bytealg_IndexRabinKarp_string_l1_eq k m, ← ih]
    kernel_rfl
theorem internal_bytealg_IndexRabinKarp_string_code (k m : Nat) (s1 : ByteArray) (s2 : ByteArray) : evC G_internal_bytealg_IndexRabinKarp_string fi_internal_bytealg_IndexRabinKarp_string (evF G_internal_bytealg_IndexRabinKarp_string (k + 1)) m fi_internal_bytealg_IndexRabinKarp_string.code none (retK G_internal_bytealg_IndexRabinKarp_string fi_internal_bytealg_IndexRabinKarp_string) (enter fi_internal_bytealg_IndexRabinKarp_string [.one (Cell.str s1), .one (Cell.str s2)] []) = internal_bytealg_IndexRabinKarp_string (k + 1) m s1 s2 := by
  simp only [internal_bytealg_IndexRabinKarp_string, ← internal_bytealg_IndexRabinKarp_string_l0_eq k m]
  kernel_rfl
theorem internal_bytealg_IndexRabinKarp_string_eq (k : Nat) (s1 : ByteArray) (s2 : ByteArray) : evF G_internal_bytealg_IndexRabinKarp_string (k + 2) fid_internal_bytealg_IndexRabinKarp_string [.one (Cell.str s1), .one (Cell.str s2)] [] = internal_bytealg_IndexRabinKarp_string (k + 1) (k + 1) s1 s2 :=
  Eq.trans (by kernel_rfl) (internal_bytealg_IndexRabinKarp_string_code k (k + 1) s1 s2)
theorem run_internal_bytealg_IndexRabinKarp_string_of {s1 : ByteArray} {s2 : ByteArray} {r : Res} (k : Nat) (h : internal_bytealg_IndexRabinKarp_string (k + 1) (k + 1) s1 s2 = some r) : run_internal_bytealg_IndexRabinKarp_string [.one (Cell.str s1), .one (Cell.str s2)] [] = some r := lim_of ((internal_bytealg_IndexRabinKarp_string_eq k s1 s2).trans h)
noncomputable def pl_internal_stringslite_Index : List (Nat × Run) := [(fid_internal_stringslite_IndexByte, run_internal_stringslite_IndexByte), (fid_internal_bytealg_Cutover, run_internal_bytealg_Cutover), (fid_internal_bytealg_IndexRabinKarp_string, run_internal_bytealg_IndexRabinKarp_string)]
noncomputable def G_internal_stringslite_Index : Ctx := ctx tyTab fiTab pl_internal_stringslite_Index
noncomputable def run_internal_stringslite_Index : Run := lim G_internal_stringslite_Index fid_internal_stringslite_Index
theorem ok_internal_stringslite_Index : FnOk Try.prog OkT fid_internal_stringslite_Index run_internal_stringslite_Index := lim_ok (l := pl_internal_stringslite_Index) Try_mix tyTab_ok fiTab_ok okT (.cons ok_internal_stringslite_IndexByte (.cons ok_internal_bytealg_Cutover (.cons ok_internal_bytealg_IndexRabinKarp_string .nil))) fid_internal_stringslite_Index
noncomputable def internal_stringslite_Index (k m : Nat) (s1 : ByteArray) (s2 : ByteArray) : Option Res :=
  cond ((s2.size : Int) == 0)
  (some ([.one (Cell.int 0)], []))
  (cond (s2.toList == s1.toList)
  (some ([.one (Cell.int 0)], []))
  (cond ((s2.size : Int) == 1)
  ((bytS s2 0).bind fun i3 =>
  (callS run_internal_stringslite_IndexByte [.one (Cell.str s1), .one (.sc (.int .u8 i3))] []).bind fun r4 =>
  cond (shapeOk rk_internal_stringslite_IndexByte r4)
  ((cI .i64 (cellsAt r4 0) 0).bind fun i5 =>
  some ([.one (Cell.int i5)], []))
  none)
  (cond (decide ((s2.size : Int) ≥ (s1.size : Int)))
  (some ([.one (Cell.int (-1))], []))
  (none))))
theorem internal_stringslite_Index_code (k m : Nat) (s1 : ByteArray) (s2 : ByteArray) : evC G_internal_stringslite_Index fi_internal_stringslite_Index (evF G_internal_stringslite_Index (k + 1)) m fi_internal_stringslite_Index.code none (retK G_internal_stringslite_Index fi_internal_stringslite_Index) (enter fi_internal_stringslite_Index [.one (Cell.str s1), .one (Cell.str s2)] []) = internal_stringslite_Index (k + 1) m s1 s2 := by
  kernel_rfl
theorem internal_stringslite_Index_eq (k : Nat) (s1 : ByteArray) (s2 : ByteArray) : evF G_internal_stringslite_Index (k + 2) fid_internal_stringslite_Index [.one (Cell.str s1), .one (Cell.str s2)] [] = internal_stringslite_Index (k + 1) (k + 1) s1 s2 :=
  Eq.trans (by kernel_rfl) (internal_stringslite_Index_code k (k + 1) s1 s2)
theorem run_internal_stringslite_Index_of {s1 : ByteArray} {s2 : ByteArray} {r : Res} (k : Nat) (h : internal_stringslite_Index (k + 1) (k + 1) s1 s2 = some r) : run_internal_stringslite_Index [.one (Cell.str s1), .one (Cell.str s2)] [] = some r := lim_of ((internal_stringslite_Index_eq k s1 s2).trans h)
noncomputable def pl_internal_stringslite_Cut : List (Nat × Run) := [(fid_internal_stringslite_Index, run_internal_stringslite_Index)]
noncomputable def G_internal_stringslite_Cut : Ctx := ctx tyTab fiTab pl_internal_stringslite_Cut
noncomputable def run_internal_stringslite_Cut : Run := lim G_internal_stringslite_Cut fid_internal_stringslite_Cut
theorem ok_internal_stringslite_Cut : FnOk Try.prog OkT fid_internal_stringslite_Cut run_internal_stringslite_Cut := lim_ok (l := pl_internal_stringslite_Cut) Try_mix tyTab_ok fiTab_ok okT (.cons ok_internal_stringslite_Index .nil) fid_internal_stringslite_Cut
noncomputable def internal_stringslite_Cut (k m : Nat) (s1 : ByteArray) (s2 : ByteArray) : Option Res :=
  (callS run_internal_stringslite_Index [.one (Cell.str s1), .one (Cell.str s2)] []).bind fun r3 =>
  cond (shapeOk rk_internal_stringslite_Index r3)
  ((cI .i64 (cellsAt r3 0) 0).bind fun i4 =>
  cond (decide (i4 ≥ 0))
  ((subS s1 0 i4).bind fun s5 =>
  (subS s1 (IntKind.i64.wrap (i4 + (s2.size : Int))) (s1.size : Int)).bind fun s6 =>
  some ([.one (Cell.str s5), .one (Cell.str s6), .one (Cell.bool true)], []))
  (some ([.one (Cell.str s1), .one (Cell.str (bs [])), .one (Cell.bool false)], [])))
  none
theorem internal_stringslite_Cut_code (k m : Nat) (s1 : ByteArray) (s2 : ByteArray) : evC G_internal_stringslite_Cut fi_internal_stringslite_Cut (evF G_internal_stringslite_Cut (k + 1)) m fi_internal_stringslite_Cut.code none (retK G_internal_stringslite_Cut fi_internal_stringslite_Cut) (enter fi_internal_stringslite_Cut [.one (Cell.str s1), .one (Cell.str s2)] []) = internal_stringslite_Cut (k + 1) m s1 s2 := by
  kernel_rfl
theorem internal_stringslite_Cut_eq (k : Nat) (s1 : ByteArray) (s2 : ByteArray) : evF G_internal_stringslite_Cut (k + 2) fid_internal_stringslite_Cut [.one (Cell.str s1), .one (Cell.str s2)] [] = internal_stringslite_Cut (k + 1) (k + 1) s1 s2 :=
  Eq.trans (by kernel_rfl) (internal_stringslite_Cut_code k (k + 1) s1 s2)
theorem run_internal_stringslite_Cut_of {s1 : ByteArray} {s2 : ByteArray} {r : Res} (k : Nat) (h : internal_stringslite_Cut (k + 1) (k + 1) s1 s2 = some r) : run_internal_stringslite_Cut [.one (Cell.str s1), .one (Cell.str s2)] [] = some r := lim_of ((internal_stringslite_Cut_eq k s1 s2).trans h)
noncomputable def pl_strings_Cut : List (Nat × Run) := [(fid_internal_stringslite_Cut, run_internal_stringslite_Cut)]
noncomputable def G_strings_Cut : Ctx := ctx tyTab fiTab pl_strings_Cut
noncomputable def run_strings_Cut : Run := lim G_strings_Cut fid_strings_Cut
theorem ok_strings_Cut : FnOk Try.prog OkT fid_strings_Cut run_strings_Cut := lim_ok (l := pl_strings_Cut) Try_mix tyTab_ok fiTab_ok okT (.cons ok_internal_stringslite_Cut .nil) fid_strings_Cut
noncomputable def strings_Cut (k m : Nat) (s1 : ByteArray) (s2 : ByteArray) : Option Res :=
  (callS run_internal_stringslite_Cut [.one (Cell.str s1), .one (Cell.str s2)] []).bind fun r3 =>
  cond (shapeOk rk_internal_stringslite_Cut r3)
  ((cS (cellsAt r3 0) 0).bind fun s4 =>
  (cS (cellsAt r3 1) 0).bind fun s5 =>
  (cB (cellsAt r3 2) 0).bind fun b6 =>
  some ([.one (Cell.str s4), .one (Cell.str s5), .one (Cell.bool b6)], []))
  none
theorem strings_Cut_code (k m : Nat) (s1 : ByteArray) (s2 : ByteArray) : evC G_strings_Cut fi_strings_Cut (evF G_strings_Cut (k + 1)) m fi_strings_Cut.code none (retK G_strings_Cut fi_strings_Cut) (enter fi_strings_Cut [.one (Cell.str s1), .one (Cell.str s2)] []) = strings_Cut (k + 1) m s1 s2 := by
  kernel_rfl
theorem strings_Cut_eq (k : Nat) (s1 : ByteArray) (s2 : ByteArray) : evF G_strings_Cut (k + 2) fid_strings_Cut [.one (Cell.str s1), .one (Cell.str s2)] [] = strings_Cut (k + 1) (k + 1) s1 s2 :=
  Eq.trans (by kernel_rfl) (strings_Cut_code k (k + 1) s1 s2)
theorem run_strings_Cut_of {s1 : ByteArray} {s2 : ByteArray} {r : Res} (k : Nat) (h : strings_Cut (k + 1) (k + 1) s1 s2 = some r) : run_strings_Cut [.one (Cell.str s1), .one (Cell.str s2)] [] = some r := lim_of ((strings_Cut_eq k s1 s2).trans h)
noncomputable def pl_impl_isSmall : List (Nat × Run) := []
noncomputable def G_impl_isSmall : Ctx := ctx tyTab fiTab pl_impl_isSmall
noncomputable def run_impl_isSmall : Run := lim G_impl_isSmall fid_impl_isSmall
theorem ok_impl_isSmall : FnOk Try.prog OkT fid_impl_isSmall run_impl_isSmall := lim_ok (l := pl_impl_isSmall) Try_mix tyTab_ok fiTab_ok okT .nil fid_impl_isSmall
noncomputable def impl_isSmall (k m : Nat) (i1 : Int) : Option Res :=
  cond (decide (i1 ≥ 97))
  (some ([.one (Cell.bool (decide (i1 ≤ 122)))], []))
  (some ([.one (Cell.bool false)], []))
theorem impl_isSmall_code (k m : Nat) (i1 : Int) : evC G_impl_isSmall fi_impl_isSmall (evF G_impl_isSmall (k + 1)) m fi_impl_isSmall.code none (retK G_impl_isSmall fi_impl_isSmall) (enter fi_impl_isSmall [.one (.sc (.int .u8 i1))] []) = impl_isSmall (k + 1) m i1 := by
  kernel_rfl
theorem impl_isSmall_eq (k : Nat) (i1 : Int) : evF G_impl_isSmall (k + 2) fid_impl_isSmall [.one (.sc (.int .u8 i1))] [] = impl_isSmall (k + 1) (k + 1) i1 :=
  Eq.trans (by kernel_rfl) (impl_isSmall_code k (k + 1) i1)
theorem run_impl_isSmall_of {i1 : Int} {r : Res} (k : Nat) (h : impl_isSmall (k + 1) (k + 1) i1 = some r) : run_impl_isSmall [.one (.sc (.int .u8 i1))] [] = some r := lim_of ((impl_isSmall_eq k i1).trans h)
noncomputable def pl_impl_isFigure : List (Nat × Run) := []
noncomputable def G_impl_isFigure : Ctx := ctx tyTab fiTab pl_impl_isFigure
noncomputable def run_impl_isFigure : Run := lim G_impl_isFigure fid_impl_isFigure
theorem ok_impl_isFigure : FnOk Try.prog OkT fid_impl_isFigure run_impl_isFigure := lim_ok (l := pl_impl_isFigure) Try_mix tyTab_ok fiTab_ok okT .nil fid_impl_isFigure
noncomputable def impl_isFigure (k m : Nat) (i1 : Int) : Option Res :=
  cond (decide (i1 ≥ 48))
  (some ([.one (Cell.bool (decide (i1 ≤ 57)))], []))
  (some ([.one (Cell.bool false)], []))
theorem impl_isFigure_code (k m : Nat) (i1 : Int) : evC G_impl_isFigure fi_impl_isFigure (evF G_impl_isFigure (k + 1)) m fi_impl_isFigure.code none (retK G_impl_isFigure fi_impl_isFigure) (enter fi_impl_isFigure [.one (.sc (.int .u8 i1))] []) = impl_isFigure (k + 1) m i1 := by
  kernel_rfl
theorem impl_isFigure_eq (k : Nat) (i1 : Int) : evF G_impl_isFigure (k + 2) fid_impl_isFigure [.one (.sc (.int .u8 i1))] [] = impl_isFigure (k + 1) (k + 1) i1 :=
  Eq.trans (by kernel_rfl) (impl_isFigure_code k (k + 1) i1)
theorem run_impl_isFigure_of {i1 : Int} {r : Res} (k : Nat) (h : impl_isFigure (k + 1) (k + 1) i1 = some r) : run_impl_isFigure [.one (.sc (.int .u8 i1))] [] = some r := lim_of ((impl_isFigure_eq k i1).trans h)
noncomputable def pl_impl_inRange : List (Nat × Run) := []
noncomputable def G_impl_inRange : Ctx := ctx tyTab fiTab pl_impl_inRange
noncomputable def run_impl_inRange : Run := lim G_impl_inRange fid_impl_inRange
theorem ok_impl_inRange : FnOk Try.prog OkT fid_impl_inRange run_impl_inRange := lim_ok (l := pl_impl_inRange) Try_mix tyTab_ok fiTab_ok okT .nil fid_impl_inRange
noncomputable def impl_inRange (k m : Nat) (i1 : Int) (i2 : Int) (i3 : Int) : Option Res :=
  cond (decide (i1 ≥ i2))
  (some ([.one (Cell.bool (decide (i1 ≤ i3)))], []))
  (some ([.one (Cell.bool false)], []))
theorem impl_inRange_code (k m : Nat) (i1 : Int) (i2 : Int) (i3 : Int) : evC G_impl_inRange fi_impl_inRange (evF G_impl_inRange (k + 1)) m fi_impl_inRange.code none (retK G_impl_inRange fi_impl_inRange) (enter fi_impl_inRange [.one (Cell.int i1), .one (Cell.int i2), .one (Cell.int i3)] []) = impl_inRange (k + 1) m i1 i2 i3 := by
  kernel_rfl
theorem impl_inRange_eq (k : Nat) (i1 : Int) (i2 : Int) (i3 : Int) : evF G_impl_inRange (k + 2) fid_impl_inRange [.one (Cell.int i1), .one (Cell.int i2), .one (Cell.int i3)] [] = impl_inRange (k + 1) (k + 1) i1 i2 i3 :=
  Eq.trans (by kernel_rfl) (impl_inRange_code k (k + 1) i1 i2 i3)
theorem run_impl_inRange_of {i1 : Int} {i2 : Int} {i3 : Int} {r : Res} (k : Nat) (h : impl_inRange (k + 1) (k + 1) i1 i2 i3 = some r) : run_impl_inRange [.one (Cell.int i1), .one (Cell.int i2), .one (Cell.int i3)] [] = some r := lim_of ((impl_inRange_eq k i1 i2 i3).trans h)
noncomputable def pl_impl_NameOk : List (Nat × Run) := [(fid_impl_isSmall, run_impl_isSmall), (fid_impl_isFigure, run_impl_isFigure), (fid_impl_inRange, run_impl_inRange)]
noncomputable def G_impl_NameOk : Ctx := ctx tyTab fiTab pl_impl_NameOk
noncomputable def run_impl_NameOk : Run := lim G_impl_NameOk fid_impl_NameOk
theorem ok_impl_NameOk : FnOk Try.prog OkT fid_impl_NameOk run_impl_NameOk := lim_ok (l := pl_impl_NameOk) Try_mix tyTab_ok fiTab_ok okT (.cons ok_impl_isSmall (.cons ok_impl_isFigure (.cons ok_impl_inRange .nil))) fid_impl_NameOk
noncomputable def impl_NameOk_l0 (k m : Nat) : Nat → ByteArray → Int → Option Res
  | 0, _, _ => none
  | n + 1, s2, i3 =>
    cond (decide (i3 < (s2.size : Int)))
    ((bytS s2 i3).bind fun i4 =>
    (callS run_impl_isSmall [.one (.sc (.int .u8 i4))] []).bind fun r5 =>
    cond (shapeOk rk_impl_isSmall r5)
    ((cB (cellsAt r5 0) 0).bind fun b6 =>
    cond (!b6)
    (cond (i3 == 0)
    (some ([.one (Cell.bool false)], []))
    ((bytS s2 i3).bind fun i7 =>
    (callS run_impl_isFigure [.one (.sc (.int .u8 i7))] []).bind fun r8 =>
    cond (shapeOk rk_impl_isFigure r8)
    ((cB (cellsAt r8 0) 0).bind fun b9 =>
    cond (!b9)
    ((bytS s2 i3).bind fun i10 =>
    cond (i10 != 45)
    (some ([.one (Cell.bool false)], []))
    (impl_NameOk_l0 k m n s2 (IntKind.i64.wrap (i3 + 1))))
    (impl_NameOk_l0 k m n s2 (IntKind.i64.wrap (i3 + 1))))
    none))
    (impl_NameOk_l0 k m n s2 (IntKind.i64.wrap (i3 + 1))))
    none)
    ((callS run_impl_inRange [.one (Cell.int (s2.size : Int)), .one (Cell.int 1), .one (Cell.int 10)] []).bind fun r11 =>
    cond (shapeOk rk_impl_inRange r11)
    ((cB (cellsAt r11 0) 0).bind fun b12 =>
    some ([.one (Cell.bool b12)], []))
    none)
noncomputable def impl_NameOk (k m : Nat) (s1 : ByteArray) : Option Res :=
  impl_NameOk_l0 k m m s1 0
noncomputable abbrev impl_NameOk_l0_B (k m : Nat) : (Ex → Fr → Option Res) → Fr → Option Res := evC G_impl_NameOk fi_impl_NameOk (evF G_impl_NameOk (k + 1)) m (sub [1, 0, 1, 2, 3] fi_impl_NameOk.code) none
noncomputable abbrev impl_NameOk_l0_K (k m : Nat) : Ex → Fr → Option Res := blockK 0 (seqK (evC G_impl_NameOk fi_impl_NameOk (evF G_impl_NameOk (k + 1)) m (sub [1, 1] fi_impl_NameOk.code) none) (retK G_impl_NameOk fi_impl_NameOk))
theorem impl_NameOk_l0_eq (k m : Nat) : ∀ (n : Nat) (s2 : ByteArray) (i3 : Int), loopK (some [0, 3]) (impl_NameOk_l0_B k m) (impl_NameOk_l0_K k m) n ⟨fT 35 0 [(0, .av (.one (Cell.str s2))), (3, .av (.one (Cell.int i3)))], fX 35 0 [], []⟩ = impl_NameOk_l0 (k + 1) m n s2 i3 := by
  intro n
  induction n with
  | zero => intros; rfl
  | succ n ih =>
    intros
    simp only [impl_NameOk_l0, ← ih]
    kernel_rfl
theorem impl_NameOk_code (k m : Nat) (s1 : ByteArray) : evC G_impl_NameOk fi_impl_NameOk (evF G_impl_NameOk (k + 1)) m fi_impl_NameOk.code none (retK G_impl_NameOk fi_impl_NameOk) (enter fi_impl_NameOk [.one (Cell.str s1)] []) = impl_NameOk (k + 1) m s1 := by
  simp only [impl_NameOk, ← impl_NameOk_l0_eq k m]
  kernel_rfl
theorem impl_NameOk_eq (k : Nat) (s1 : ByteArray) : evF G_impl_NameOk (k + 2) fid_impl_NameOk [.one (Cell.str s1)] [] = impl_NameOk (k + 1) (k + 1) s1 :=
  Eq.trans (by kernel_rfl) (impl_NameOk_code k (k + 1) s1)
theorem run_impl_NameOk_of {s1 : ByteArray} {r : Res} (k : Nat) (h : impl_NameOk (k + 1) (k + 1) s1 = some r) : run_impl_NameOk [.one (Cell.str s1)] [] = some r := lim_of ((impl_NameOk_eq k s1).trans h)
noncomputable def pl_impl_ParseTask : List (Nat × Run) := [(fid_strings_Cut, run_strings_Cut), (fid_impl_NameOk, run_impl_NameOk)]
noncomputable def G_impl_ParseTask : Ctx := ctx tyTab fiTab pl_impl_ParseTask
noncomputable def run_impl_ParseTask : Run := lim G_impl_ParseTask fid_impl_ParseTask
theorem ok_impl_ParseTask : FnOk Try.prog OkT fid_impl_ParseTask run_impl_ParseTask := lim_ok (l := pl_impl_ParseTask) Try_mix tyTab_ok fiTab_ok okT (.cons ok_strings_Cut (.cons ok_impl_NameOk .nil)) fid_impl_ParseTask
noncomputable def impl_ParseTask (k m : Nat) (s1 : ByteArray) : Option Res :=
  (callS run_strings_Cut [.one (Cell.str s1), .one (Cell.str (bs [35]))] []).bind fun r2 =>
  cond (shapeOk rk_strings_Cut r2)
  ((cS (cellsAt r2 0) 0).bind fun s3 =>
  (cS (cellsAt r2 1) 0).bind fun s4 =>
  (cB (cellsAt r2 2) 0).bind fun b5 =>
  (callS run_impl_NameOk [.one (Cell.str s3)] []).bind fun r6 =>
  cond (shapeOk rk_impl_NameOk r6)
  ((cB (cellsAt r6 0) 0).bind fun b7 =>
  cond (!b7)
  (some ([.one (Cell.str (bs [])), .one (Cell.str (bs [])), .one (Cell.bool false)], []))
  ((callS run_impl_NameOk [.one (Cell.str s4)] []).bind fun r8 =>
  cond (shapeOk rk_impl_NameOk r8)
  ((cB (cellsAt r8 0) 0).bind fun b9 =>
  cond (!b9)
  (some ([.one (Cell.str (bs [])), .one (Cell.str (bs [])), .one (Cell.bool false)], []))
  (some ([.one (Cell.str s3), .one (Cell.str s4), .one (Cell.bool true)], [])))
  none))
  none)
  none
theorem impl_ParseTask_code (k m : Nat) (s1 : ByteArray) : evC G_impl_ParseTask fi_impl_ParseTask (evF G_impl_ParseTask (k + 1)) m fi_impl_ParseTask.code none (retK G_impl_ParseTask fi_impl_ParseTask) (enter fi_impl_ParseTask [.one (Cell.str s1)] []) = impl_ParseTask (k + 1) m s1 := by
  kernel_rfl
theorem impl_ParseTask_eq (k : Nat) (s1 : ByteArray) : evF G_impl_ParseTask (k + 2) fid_impl_ParseTask [.one (Cell.str s1)] [] = impl_ParseTask (k + 1) (k + 1) s1 :=
  Eq.trans (by kernel_rfl) (impl_ParseTask_code k (k + 1) s1)
theorem run_impl_ParseTask_of {s1 : ByteArray} {r : Res} (k : Nat) (h : impl_ParseTask (k + 1) (k + 1) s1 = some r) : run_impl_ParseTask [.one (Cell.str s1)] [] = some r := lim_of ((impl_ParseTask_eq k s1).trans h)
noncomputable def pl_impl_isTask : List (Nat × Run) := [(fid_impl_ParseTask, run_impl_ParseTask)]
noncomputable def G_impl_isTask : Ctx := ctx tyTab fiTab pl_impl_isTask
noncomputable def run_impl_isTask : Run := lim G_impl_isTask fid_impl_isTask
theorem ok_impl_isTask : FnOk Try.prog OkT fid_impl_isTask run_impl_isTask := lim_ok (l := pl_impl_isTask) Try_mix tyTab_ok fiTab_ok okT (.cons ok_impl_ParseTask .nil) fid_impl_isTask
noncomputable def impl_isTask (k m : Nat) (s1 : ByteArray) : Option Res :=
  (callS run_impl_ParseTask [.one (Cell.str s1)] []).bind fun r2 =>
  cond (shapeOk rk_impl_ParseTask r2)
  ((cS (cellsAt r2 0) 0).bind fun s3 =>
  (cS (cellsAt r2 1) 0).bind fun s4 =>
  (cB (cellsAt r2 2) 0).bind fun b5 =>
  some ([.one (Cell.bool b5)], []))
  none
theorem impl_isTask_code (k m : Nat) (s1 : ByteArray) : evC G_impl_isTask fi_impl_isTask (evF G_impl_isTask (k + 1)) m fi_impl_isTask.code none (retK G_impl_isTask fi_impl_isTask) (enter fi_impl_isTask [.one (Cell.str s1)] []) = impl_isTask (k + 1) m s1 := by
  kernel_rfl
theorem impl_isTask_eq (k : Nat) (s1 : ByteArray) : evF G_impl_isTask (k + 2) fid_impl_isTask [.one (Cell.str s1)] [] = impl_isTask (k + 1) (k + 1) s1 :=
  Eq.trans (by kernel_rfl) (impl_isTask_code k (k + 1) s1)
theorem run_impl_isTask_of {s1 : ByteArray} {r : Res} (k : Nat) (h : impl_isTask (k + 1) (k + 1) s1 = some r) : run_impl_isTask [.one (Cell.str s1)] [] = some r := lim_of ((impl_isTask_eq k s1).trans h)
noncomputable def pl_slices_Index_string : List (Nat × Run) := []
noncomputable def G_slices_Index_string : Ctx := ctx tyTab fiTab pl_slices_Index_string
noncomputable def run_slices_Index_string : Run := lim G_slices_Index_string fid_slices_Index_string
theorem ok_slices_Index_string : FnOk Try.prog OkT fid_slices_Index_string run_slices_Index_string := lim_ok (l := pl_slices_Index_string) Try_mix tyTab_ok fiTab_ok okT .nil fid_slices_Index_string
noncomputable def slices_Index_string_l0 (k m : Nat) : Nat → Cell → ByteArray → Int → Int → Option Res
  | 0, _, _, _, _ => none
  | n + 1, c4, s5, i6, i7 =>
    cond (decide (i7 < i6))
    ((idxA 1 (c4) i7).bind fun c8 =>
    (deref [] (c8)).bind fun p9 =>
    (cS p9.1 p9.2).bind fun s10 =>
    cond (s5.toList == s10.toList)
    (some ([.one (Cell.int i7)], []))
    (slices_Index_string_l0 k m n (c4) s5 i6 (IntKind.i64.wrap (i7 + 1))))
    (some ([.one (Cell.int (-1))], []))
noncomputable def slices_Index_string (k m : Nat) (c1 : Cell) (s2 : ByteArray) : Option Res :=
  (lenC c1).bind fun n3 =>
  slices_Index_string_l0 k m m (c1) s2 (n3 : Int) 0
noncomputable abbrev slices_Index_string_l0_B (k m : Nat) : (Ex → Fr → Option Res) → Fr → Option Res := evC G_slices_Index_string fi_slices_Index_string (evF G_slices_Index_string (k + 1)) m (sub [1, 0, 1, 2, 3] fi_slices_Index_string.code) none
noncomputable abbrev slices_Index_string_l0_K (k m : Nat) : Ex → Fr → Option Res := blockK 0 (seqK (evC G_slices_Index_string fi_slices_Index_string (evF G_slices_Index_string (k + 1)) m (sub [1, 1] fi_slices_Index_string.code) none) (retK G_slices_Index_string fi_slices_Index_string))
theorem slices_Index_string_l0_eq (k m : Nat) : ∀ (n : Nat) (c4 : Cell) (s5 : ByteArray) (i6 : Int) (i7 : Int), loopK (some [0, 1, 7, 8]) (slices_Index_string_l0_B k m) (slices_Index_string_l0_K k m) n ⟨fT 19 0 [(0, .av (.one (c4))), (1, .av (.one (Cell.str s5))), (7, .av (.one (Cell.int i6))), (8, .av (.one (Cell.int i7)))], fX 19 0 [], []⟩ = slices_Index_string_l0 (k + 1) m n c4 s5 i6 i7 := by
  intro n
  induction n with
  | zero => intros; rfl
  | succ n ih =>
    intros
    simp only [slices_Index_string_l0, ← ih]
    kernel_rfl
theorem slices_Index_string_code (k m : Nat) (c1 : Cell) (s2 : ByteArray) : evC G_slices_Index_string fi_slices_Index_string (evF G_slices_Index_string (k + 1)) m fi_slices_Index_string.code none (retK G_slices_Index_string fi_slices_Index_string) (enter fi_slices_Index_string [.one (c1), .one (Cell.str s2)] []) = slices_Index_string (k + 1) m c1 s2 := by
  simp only [slices_Index_string, ← slices_Index_string_l0_eq k m]
  kernel_rfl
theorem slices_Index_string_eq (k : Nat) (c1 : Cell) (s2 : ByteArray) : evF G_slices_Index_string (k + 2) fid_slices_Index_string [.one (c1), .one (Cell.str s2)] [] = slices_Index_string (k + 1) (k + 1) c1 s2 :=
  Eq.trans (by kernel_rfl) (slices_Index_string_code k (k + 1) c1 s2)
theorem run_slices_Index_string_of {c1 : Cell} {s2 : ByteArray} {r : Res} (k : Nat) (h : slices_Index_string (k + 1) (k + 1) c1 s2 = some r) : run_slices_Index_string [.one (c1), .one (Cell.str s2)] [] = some r := lim_of ((slices_Index_string_eq k c1 s2).trans h)
noncomputable def pl_slices_Contains_string : List (Nat × Run) := [(fid_slices_Index_string, run_slices_Index_string)]
noncomputable def G_slices_Contains_string : Ctx := ctx tyTab fiTab pl_slices_Contains_string
noncomputable def run_slices_Contains_string : Run := lim G_slices_Contains_string fid_slices_Contains_string
theorem ok_slices_Contains_string : FnOk Try.prog OkT fid_slices_Contains_string run_slices_Contains_string := lim_ok (l := pl_slices_Contains_string) Try_mix tyTab_ok fiTab_ok okT (.cons ok_slices_Index_string .nil) fid_slices_Contains_string
noncomputable def slices_Contains_string (k m : Nat) (c1 : Cell) (s2 : ByteArray) : Option Res :=
  (callS run_slices_Index_string [.one (c1), .one (Cell.str s2)] []).bind fun r3 =>
  cond (shapeOk rk_slices_Index_string r3)
  ((cI .i64 (cellsAt r3 0) 0).bind fun i4 =>
  some ([.one (Cell.bool (decide (i4 ≥ 0)))], []))
  none
theorem slices_Contains_string_code (k m : Nat) (c1 : Cell) (s2 : ByteArray) : evC G_slices_Contains_string fi_slices_Contains_string (evF G_slices_Contains_string (k + 1)) m fi_slices_Contains_string.code none (retK G_slices_Contains_string fi_slices_Contains_string) (enter fi_slices_Contains_string [.one (c1), .one (Cell.str s2)] []) = slices_Contains_string (k + 1) m c1 s2 := by
  kernel_rfl
theorem slices_Contains_string_eq (k : Nat) (c1 : Cell) (s2 : ByteArray) : evF G_slices_Contains_string (k + 2) fid_slices_Contains_string [.one (c1), .one (Cell.str s2)] [] = slices_Contains_string (k + 1) (k + 1) c1 s2 :=
  Eq.trans (by kernel_rfl) (slices_Contains_string_code k (k + 1) c1 s2)
theorem run_slices_Contains_string_of {c1 : Cell} {s2 : ByteArray} {r : Res} (k : Nat) (h : slices_Contains_string (k + 1) (k + 1) c1 s2 = some r) : run_slices_Contains_string [.one (c1), .one (Cell.str s2)] [] = some r := lim_of ((slices_Contains_string_eq k c1 s2).trans h)
noncomputable def pl_impl_PlanOk : List (Nat × Run) := [(fid_impl_isAscending, run_impl_isAscending), (fid_impl_isTask, run_impl_isTask), (fid_slices_Contains_string, run_slices_Contains_string)]
noncomputable def G_impl_PlanOk : Ctx := ctx tyTab fiTab pl_impl_PlanOk
noncomputable def run_impl_PlanOk : Run := lim G_impl_PlanOk fid_impl_PlanOk
theorem ok_impl_PlanOk : FnOk Try.prog OkT fid_impl_PlanOk run_impl_PlanOk := lim_ok (l := pl_impl_PlanOk) Try_mix tyTab_ok fiTab_ok okT (.cons ok_impl_isAscending (.cons ok_impl_isTask (.cons ok_slices_Contains_string .nil))) fid_impl_PlanOk
noncomputable def impl_PlanOk_l1 (k m : Nat) (b_l0 : Cell → Int → Int → Cell → Cell → Option Res) : Nat → Cell → Int → Int → Cell → Int → Int → Cell → Cell → Option Res
  | 0, _, _, _, _, _, _, _, _ => none
  | n + 1, c28, i29, i30, c31, i32, i33, c34, c35 =>
    cond (decide (i33 < i32))
    ((idxA 1 (c31) i33).bind fun c36 =>
    (deref [] (c36)).bind fun p37 =>
    (cS p37.1 p37.2).bind fun s38 =>
    (callS run_slices_Contains_string [.one (c34), .one (Cell.str s38)] []).bind fun r39 =>
    cond (shapeOk rk_slices_Contains_string r39)
    ((cB (cellsAt r39 0) 0).bind fun b40 =>
    cond (!b40)
    (some ([.one (Cell.bool false)], []))
    (impl_PlanOk_l1 k m b_l0 n (c28) i29 i30 (c31) i32 (IntKind.i64.wrap (i33 + 1)) (c34) (c35)))
    none)
    (b_l0 (c28) i29 (IntKind.i64.wrap (i30 + 1)) (c34) (c35))
noncomputable def impl_PlanOk_l0 (k m : Nat) : Nat → Cell → Int → Int → Cell → Cell → Option Res
  | 0, _, _, _, _, _ => none
  | n + 1, c9, i10, i11, c12, c13 =>
    cond (decide (i11 < i10))
    ((idxA 1 (c9) i11).bind fun c14 =>
    (deref [] (c14)).bind fun p15 =>
    (cS p15.1 p15.2).bind fun s16 =>
    (callS run_impl_isTask [.one (Cell.str s16)] []).bind fun r17 =>
    cond (shapeOk rk_impl_isTask r17)
    ((cB (cellsAt r17 0) 0).bind fun b18 =>
    cond (!b18)
    (some ([.one (Cell.bool false)], []))
    ((idxA 1 (c13) i11).bind fun c19 =>
    (deref [] (c19)).bind fun p20 =>
    (cC p20.1 p20.2).bind fun c21 =>
    (callS run_impl_isAscending [.one (c21)] []).bind fun r22 =>
    cond (shapeOk rk_impl_isAscending r22)
    ((cB (cellsAt r22 0) 0).bind fun b23 =>
    cond (!b23)
    (some ([.one (Cell.bool false)], []))
    ((idxA 1 (c13) i11).bind fun c24 =>
    (deref [] (c24)).bind fun p25 =>
    (cC p25.1 p25.2).bind fun c26 =>
    (lenC c26).bind fun n27 =>
    impl_PlanOk_l1 k m (impl_PlanOk_l0 k m n) m (c9) i10 i11 (c26) (n27 : Int) 0 (c12) (c13)))
    none))
    none)
    (some ([.one (Cell.bool true)], []))
noncomputable def impl_PlanOk (k m : Nat) (c1 : Cell) (c2 : Cell) : Option Res :=
  (lenC c1).bind fun n3 =>
  cond (decide ((n3 : Int) > 16))
  (some ([.one (Cell.bool false)], []))
  ((lenC c2).bind fun n4 =>
  (lenC c1).bind fun n5 =>
  cond ((n4 : Int) != (n5 : Int))
  (some ([.one (Cell.bool false)], []))
  ((callS run_impl_isAscending [.one (c1)] []).bind fun r6 =>
  cond (shapeOk rk_impl_isAscending r6)
  ((cB (cellsAt r6 0) 0).bind fun b7 =>
  cond (!b7)
  (some ([.one (Cell.bool false)], []))
  ((lenC c1).bind fun n8 =>
  impl_PlanOk_l0 k m m (c1) (n8 : Int) 0 (c1) (c2)))
  none))
noncomputable abbrev impl_PlanOk_l0_B (k m : Nat) : (Ex → Fr → Option Res) → Fr → Option Res := evC G_impl_PlanOk fi_impl_PlanOk (evF G_impl_PlanOk (k + 1)) m (sub [1, 1, 0, 1, 2, 3] fi_impl_PlanOk.code) none
noncomputable abbrev impl_PlanOk_l0_K (k m : Nat) : Ex → Fr → Option Res := blockK 0 (seqK (evC G_impl_PlanOk fi_impl_PlanOk (evF G_impl_PlanOk (k + 1)) m (sub [1, 1, 1] fi_impl_PlanOk.code) none) (retK G_impl_PlanOk fi_impl_PlanOk))
noncomputable abbrev impl_PlanOk_l1_B (k m : Nat) : (Ex → Fr → Option Res) → Fr → Option Res := evC G_impl_PlanOk fi_impl_PlanOk (evF G_impl_PlanOk (k + 1)) m (sub [1, 1, 0, 1, 2, 3, 1, 1, 0, 2, 1, 1, 1, 2, 3] fi_impl_PlanOk.code) none
noncomputable abbrev impl_PlanOk_l1_K (k m : Nat) (n_l0 : Nat) : Ex → Fr → Option Res := blockK 2 (blockK 1 (seqK (evC G_impl_PlanOk fi_impl_PlanOk (evF G_impl_PlanOk (k + 1)) m (sub [1, 1, 0, 1, 2, 3, 1, 1, 1] fi_impl_PlanOk.code) none) (loopE (fun s => loopK (some [1, 27, 28, 29]) (impl_PlanOk_l0_B k m) (impl_PlanOk_l0_K k m) n_l0 (keepS (some [1, 27, 28, 29]) s)) (impl_PlanOk_l0_K k m))))
theorem impl_PlanOk_l1_eq (k m : Nat) (b_l0 : Cell → Int → Int → Cell → Cell → Option Res) (n_l0 : Nat) (h_l0 : ∀ (c9 : Cell) (i10 : Int) (i11 : Int) (c12 : Cell) (c13 : Cell), loopK (some [1, 27, 28, 29]) (impl_PlanOk_l0_B k m) (impl_PlanOk_l0_K k m) n_l0 ⟨fT 63 0 [(1, .loc 1 0), (27, .av (.one (c9))), (28, .av (.one (Cell.int i10))), (29, .av (.one (Cell.int i11)))], fX 63 0 [(1, [c12, c13])], []⟩ = b_l0 c9 i10 i11 c12 c13) : ∀ (n : Nat) (c28 : Cell) (i29 : Int) (i30 : Int) (c31 : Cell) (i32 : Int) (i33 : Int) (c34 : Cell) (c35 : Cell), loopK (some [1, 27, 28, 29, 50, 51, 52]) (impl_PlanOk_l1_B k m) (impl_PlanOk_l1_K k m n_l0) n ⟨fT 63 0 [(1, .loc 1 0), (27, .av (.one (c28))), (28, .av (.one (Cell.int i29))), (29, .av (.one (Cell.int i30))), (50, .av (.one (c31))), (51, .av (.one (Cell.int i32))), (52, .av (.one (Cell.int i33)))], fX 63 0 [(1, [c34, c35])], []⟩ = impl_PlanOk_l1 (k + 1) m b_l0 n c28 i29 i30 c31 i32 i33 c34 c35 := by
  intro n
  induction n with
  | zero => intros; rfl
  | succ n ih =>
    intros
    simp only [impl_PlanOk_l1, ← h_l0, ← ih]
    kernel_rfl
theorem impl_PlanOk_l0_eq (k m : Nat) : ∀ (n : Nat) (c9 : Cell) (i10 : Int) (i11 : Int) (c12 : Cell) (c13 : Cell), loopK (some [1, 27, 28, 29]) (impl_PlanOk_l0_B k m) (impl_PlanOk_l0_K k m) n ⟨fT 63 0 [(1, .loc 1 0), (27, .av (.one (c9))), (28, .av (.one (Cell.int i10))), (29, .av (.one (Cell.int i11)))], fX 63 0 [(1, [c12, c13])], []⟩ = impl_PlanOk_l0 (k + 1) m n c9 i10 i11 c12 c13 := by
  intro n
  induction n with
  | zero => intros; rfl
  | succ n ih =>
    intros
    simp only [impl_PlanOk_l0, ← impl_PlanOk_l1_eq k m _ _ (ih)]
    kernel_rfl
theorem impl_PlanOk_code (k m : Nat) (c1 : Cell) (c2 : Cell) : evC G_impl_PlanOk fi_impl_PlanOk (evF G_impl_PlanOk (k + 1)) m fi_impl_PlanOk.code none (retK G_impl_PlanOk fi_impl_PlanOk) (enter fi_impl_PlanOk [.agg [c1, c2]] []) = impl_PlanOk (k + 1) m c1 c2 := by
  simp only [impl_PlanOk, ← impl_PlanOk_l0_eq k m]
  kernel_rfl
theorem impl_PlanOk_eq (k : Nat) (c1 : Cell) (c2 : Cell) : evF G_impl_PlanOk (k + 2) fid_impl_PlanOk [.agg [c1, c2]] [] = impl_PlanOk (k + 1) (k + 1) c1 c2 :=
  Eq.trans (by kernel_rfl) (impl_PlanOk_code k (k + 1) c1 c2)
theorem run_impl_PlanOk_of {c1 : Cell} {c2 : Cell} {r : Res} (k : Nat) (h : impl_PlanOk (k + 1) (k + 1) c1 c2 = some r) : run_impl_PlanOk [.agg [c1, c2]] [] = some r := lim_of ((impl_PlanOk_eq k c1 c2).trans h)
noncomputable def pl_laws_FnExactPlanOk : List (Nat × Run) := [(fid_laws_szPlan, run_laws_szPlan), (fid_laws_toPlan, run_laws_toPlan), (fid_laws_eqPlan, run_laws_eqPlan), (fid_spec_PlanOk, run_spec_PlanOk), (fid_impl_PlanOk, run_impl_PlanOk)]
noncomputable def G_laws_FnExactPlanOk : Ctx := ctx tyTab fiTab pl_laws_FnExactPlanOk
noncomputable def run_laws_FnExactPlanOk : Run := lim G_laws_FnExactPlanOk fid_laws_FnExactPlanOk
theorem ok_laws_FnExactPlanOk : FnOk Try.prog OkT fid_laws_FnExactPlanOk run_laws_FnExactPlanOk := lim_ok (l := pl_laws_FnExactPlanOk) Try_mix tyTab_ok fiTab_ok okT (.cons ok_laws_szPlan (.cons ok_laws_toPlan (.cons ok_laws_eqPlan (.cons ok_spec_PlanOk (.cons ok_impl_PlanOk .nil))))) fid_laws_FnExactPlanOk
noncomputable def laws_FnExactPlanOk (k m : Nat) (c1 : Cell) (c2 : Cell) : Option Res :=
  (callS run_laws_szPlan [.agg [c1, c2], .one (Cell.int 1048576)] []).bind fun r3 =>
  cond (shapeOk rk_laws_szPlan r3)
  ((cI .i64 (cellsAt r3 0) 0).bind fun i4 =>
  cond (decide (i4 < 0))
  (some ([.one (Cell.bool true)], []))
  ((callL run_laws_toPlan [.agg [c1, c2]] []).bind fun r5 =>
  cond (shapeOk rk_laws_toPlan r5.1)
  ((cC (cellsAt r5.1 0) 0).bind fun c6 =>
  (cC (cellsAt r5.1 0) 1).bind fun c7 =>
  (callS run_spec_PlanOk [.agg [c6, c7]] r5.2).bind fun r8 =>
  cond (shapeOk rk_spec_PlanOk r8)
  ((cB (cellsAt r8 0) 0).bind fun b9 =>
  (callL run_laws_toPlan [.agg [c1, c2]] r5.2).bind fun r10 =>
  cond (shapeOk rk_laws_toPlan r10.1)
  ((cC (cellsAt r10.1 0) 0).bind fun c11 =>
  (cC (cellsAt r10.1 0) 1).bind fun c12 =>
  (callS run_impl_PlanOk [.agg [c11, c12]] r10.2).bind fun r13 =>
  cond (shapeOk rk_impl_PlanOk r13)
  ((cB (cellsAt r13 0) 0).bind fun b14 =>
  cond (!(b14 == b9))
  (some ([.one (Cell.bool false)], r10.2))
  ((callL run_laws_toPlan [.agg [c1, c2]] []).bind fun r15 =>
  cond (shapeOk rk_laws_toPlan r15.1)
  ((cC (cellsAt r15.1 0) 0).bind fun c16 =>
  (cC (cellsAt r15.1 0) 1).bind fun c17 =>
  emptyK r15.2
  ((callS run_laws_eqPlan [.agg [c11, c12], .agg [c16, c17]] r10.2).bind fun r18 =>
  cond (shapeOk rk_laws_eqPlan r18)
  ((cB (cellsAt r18 0) 0).bind fun b19 =>
  cond (!b19)
  (some ([.one (Cell.bool false)], r10.2))
  (some ([.one (Cell.bool true)], r10.2)))
  none))
  none))
  none)
  none)
  none)
  none))
  none
theorem laws_FnExactPlanOk_code (k m : Nat) (c1 : Cell) (c2 : Cell) : evC G_laws_FnExactPlanOk fi_laws_FnExactPlanOk (evF G_laws_FnExactPlanOk (k + 1)) m fi_laws_FnExactPlanOk.code none (retK G_laws_FnExactPlanOk fi_laws_FnExactPlanOk) (enter fi_laws_FnExactPlanOk [.agg [c1, c2]] []) = laws_FnExactPlanOk (k + 1) m c1 c2 := by
  kernel_rfl
theorem laws_FnExactPlanOk_eq (k : Nat) (c1 : Cell) (c2 : Cell) : evF G_laws_FnExactPlanOk (k + 2) fid_laws_FnExactPlanOk [.agg [c1, c2]] [] = laws_FnExactPlanOk (k + 1) (k + 1) c1 c2 :=
  Eq.trans (by kernel_rfl) (laws_FnExactPlanOk_code k (k + 1) c1 c2)
theorem run_laws_FnExactPlanOk_of {c1 : Cell} {c2 : Cell} {r : Res} (k : Nat) (h : laws_FnExactPlanOk (k + 1) (k + 1) c1 c2 = some r) : run_laws_FnExactPlanOk [.agg [c1, c2]] [] = some r := lim_of ((laws_FnExactPlanOk_eq k c1 c2).trans h)
end Go.Ev
