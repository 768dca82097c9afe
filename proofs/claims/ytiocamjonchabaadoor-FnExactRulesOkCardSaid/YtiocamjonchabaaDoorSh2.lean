/- What the evaluator says of the functions, each as a Lean function over cells. Printed by a program of this claim. Conditions: none. -/
import Derived.Test.YtiocamjonchabaaDoorSh1
import Derived.KernelRfl
namespace Go.Ev
open Go Go.Proofs
set_option maxRecDepth 100000
set_option linter.unusedVariables false
set_option linter.unusedSimpArgs false
noncomputable def pl_strings_HasPrefix : List (Nat × Run) := [(fid_internal_stringslite_HasPrefix, run_internal_stringslite_HasPrefix)]
noncomputable def G_strings_HasPrefix : Ctx := ctx tyTab fiTab pl_strings_HasPrefix
noncomputable def run_strings_HasPrefix : Run := lim G_strings_HasPrefix fid_strings_HasPrefix
theorem ok_strings_HasPrefix : FnOk Tryd.prog OkT fid_strings_HasPrefix run_strings_HasPrefix := lim_ok (l := pl_strings_HasPrefix) Tryd_mix tyTab_ok fiTab_ok okT (.cons ok_internal_stringslite_HasPrefix .nil) fid_strings_HasPrefix
noncomputable def strings_HasPrefix (k m : Nat) (s1 : ByteArray) (s2 : ByteArray) : Option Res :=
  (callS run_internal_stringslite_HasPrefix [.one (Cell.str s1), .one (Cell.str s2)] []).bind fun r3 =>
  cond (shapeOk rk_internal_stringslite_HasPrefix r3)
  ((cB (cellsAt r3 0) 0).bind fun b4 =>
  some ([.one (Cell.bool b4)], []))
  none
theorem strings_HasPrefix_code (k m : Nat) (s1 : ByteArray) (s2 : ByteArray) : evC G_strings_HasPrefix fi_strings_HasPrefix (evF G_strings_HasPrefix (k + 1)) m fi_strings_HasPrefix.code none (retK G_strings_HasPrefix fi_strings_HasPrefix) (enter fi_strings_HasPrefix [.one (Cell.str s1), .one (Cell.str s2)] []) = strings_HasPrefix (k + 1) m s1 s2 := by
  kernel_rfl
theorem strings_HasPrefix_eq (k : Nat) (s1 : ByteArray) (s2 : ByteArray) : evF G_strings_HasPrefix (k + 2) fid_strings_HasPrefix [.one (Cell.str s1), .one (Cell.str s2)] [] = strings_HasPrefix (k + 1) (k + 1) s1 s2 :=
  Eq.trans (by kernel_rfl) (strings_HasPrefix_code k (k + 1) s1 s2)
theorem run_strings_HasPrefix_of {s1 : ByteArray} {s2 : ByteArray} {r : Res} (k : Nat) (h : strings_HasPrefix (k + 1) (k + 1) s1 s2 = some r) : run_strings_HasPrefix [.one (Cell.str s1), .one (Cell.str s2)] [] = some r := lim_of ((strings_HasPrefix_eq k s1 s2).trans h)
noncomputable def pl_impl_unitOf : List (Nat × Run) := [(fid_impl_inRange, run_impl_inRange), (fid_impl_isFigure, run_impl_isFigure), (fid_impl_isSmall, run_impl_isSmall), (fid_impl_isPathByte, run_impl_isPathByte), (fid_strings_HasPrefix, run_strings_HasPrefix)]
noncomputable def G_impl_unitOf : Ctx := ctx tyTab fiTab pl_impl_unitOf
noncomputable def run_impl_unitOf : Run := lim G_impl_unitOf fid_impl_unitOf
theorem ok_impl_unitOf : FnOk Tryd.prog OkT fid_impl_unitOf run_impl_unitOf := lim_ok (l := pl_impl_unitOf) Tryd_mix tyTab_ok fiTab_ok okT (.cons ok_impl_inRange (.cons ok_impl_isFigure (.cons ok_impl_isSmall (.cons ok_impl_isPathByte (.cons ok_strings_HasPrefix .nil))))) fid_impl_unitOf
noncomputable def impl_unitOf_l1 (k m : Nat) : Nat → ByteArray → Int → Option Res
  | 0, _, _ => none
  | n + 1, s25, i26 =>
    cond (decide (i26 < (s25.size : Int)))
    ((bytS s25 i26).bind fun i27 =>
    (callS run_impl_isSmall [.one (.sc (.int .u8 i27))] []).bind fun r28 =>
    cond (shapeOk rk_impl_isSmall r28)
    ((cB (cellsAt r28 0) 0).bind fun b29 =>
    cond b29
    (impl_unitOf_l1 k m n s25 (IntKind.i64.wrap (i26 + 1)))
    ((bytS s25 i26).bind fun i30 =>
    (callS run_impl_isFigure [.one (.sc (.int .u8 i30))] []).bind fun r31 =>
    cond (shapeOk rk_impl_isFigure r31)
    ((cB (cellsAt r31 0) 0).bind fun b32 =>
    cond b32
    (impl_unitOf_l1 k m n s25 (IntKind.i64.wrap (i26 + 1)))
    ((callS run_impl_inRange [.one (Cell.int (IntKind.i64.wrap (i26 - 1))), .one (Cell.int 1), .one (Cell.int 5)] []).bind fun r33 =>
    cond (shapeOk rk_impl_inRange r33)
    ((cB (cellsAt r33 0) 0).bind fun b34 =>
    cond (!b34)
    (some ([.one (Cell.int 0)], []))
    (cond (i26 == (s25.size : Int))
    (some ([.one (Cell.int 0)], []))
    ((bytS s25 i26).bind fun i35 =>
    cond (i35 != 93)
    (some ([.one (Cell.int 0)], []))
    (some ([.one (Cell.int (IntKind.i64.wrap (i26 + 1)))], [])))))
    none))
    none))
    none)
    ((callS run_impl_inRange [.one (Cell.int (IntKind.i64.wrap (i26 - 1))), .one (Cell.int 1), .one (Cell.int 5)] []).bind fun r36 =>
    cond (shapeOk rk_impl_inRange r36)
    ((cB (cellsAt r36 0) 0).bind fun b37 =>
    cond (!b37)
    (some ([.one (Cell.int 0)], []))
    (cond (i26 == (s25.size : Int))
    (some ([.one (Cell.int 0)], []))
    ((bytS s25 i26).bind fun i38 =>
    cond (i38 != 93)
    (some ([.one (Cell.int 0)], []))
    (some ([.one (Cell.int (IntKind.i64.wrap (i26 + 1)))], [])))))
    none)
noncomputable def impl_unitOf_l0 (k m : Nat) : Nat → ByteArray → Int → Option Res
  | 0, _, _ => none
  | n + 1, s11, i12 =>
    cond (decide (i12 < (s11.size : Int)))
    ((bytS s11 i12).bind fun i13 =>
    (callS run_impl_isSmall [.one (.sc (.int .u8 i13))] []).bind fun r14 =>
    cond (shapeOk rk_impl_isSmall r14)
    ((cB (cellsAt r14 0) 0).bind fun b15 =>
    cond b15
    (impl_unitOf_l0 k m n s11 (IntKind.i64.wrap (i12 + 1)))
    ((bytS s11 i12).bind fun i16 =>
    (callS run_impl_isFigure [.one (.sc (.int .u8 i16))] []).bind fun r17 =>
    cond (shapeOk rk_impl_isFigure r17)
    ((cB (cellsAt r17 0) 0).bind fun b18 =>
    cond b18
    (impl_unitOf_l0 k m n s11 (IntKind.i64.wrap (i12 + 1)))
    ((callS run_impl_inRange [.one (Cell.int (IntKind.i64.wrap (i12 - 2))), .one (Cell.int 1), .one (Cell.int 5)] []).bind fun r19 =>
    cond (shapeOk rk_impl_inRange r19)
    ((cB (cellsAt r19 0) 0).bind fun b20 =>
    cond (!b20)
    (some ([.one (Cell.int 0)], []))
    (cond (i12 == (s11.size : Int))
    (some ([.one (Cell.int 0)], []))
    ((bytS s11 i12).bind fun i21 =>
    cond (i21 != 93)
    (some ([.one (Cell.int 0)], []))
    (some ([.one (Cell.int (IntKind.i64.wrap (i12 + 1)))], [])))))
    none))
    none))
    none)
    ((callS run_impl_inRange [.one (Cell.int (IntKind.i64.wrap (i12 - 2))), .one (Cell.int 1), .one (Cell.int 5)] []).bind fun r22 =>
    cond (shapeOk rk_impl_inRange r22)
    ((cB (cellsAt r22 0) 0).bind fun b23 =>
    cond (!b23)
    (some ([.one (Cell.int 0)], []))
    (cond (i12 == (s11.size : Int))
    (some ([.one (Cell.int 0)], []))
    ((bytS s11 i12).bind fun i24 =>
    cond (i24 != 93)
    (some ([.one (Cell.int 0)], []))
    (some ([.one (Cell.int (IntKind.i64.wrap (i12 + 1)))], [])))))
    none)
noncomputable def impl_unitOf (k m : Nat) (s1 : ByteArray) : Option Res :=
  (bytS s1 0).bind fun i2 =>
  (callS run_impl_isPathByte [.one (.sc (.int .u8 i2))] []).bind fun r3 =>
  cond (shapeOk rk_impl_isPathByte r3)
  ((cB (cellsAt r3 0) 0).bind fun b4 =>
  cond b4
  (some ([.one (Cell.int 1)], []))
  ((bytS s1 0).bind fun i5 =>
  cond (i5 == 63)
  (some ([.one (Cell.int 1)], []))
  ((bytS s1 0).bind fun i6 =>
  cond (i6 == 42)
  (some ([.one (Cell.int 1)], []))
  ((bytS s1 0).bind fun i7 =>
  cond (i7 != 91)
  (some ([.one (Cell.int 0)], []))
  ((subS s1 1 (s1.size : Int)).bind fun s8 =>
  (callS run_strings_HasPrefix [.one (Cell.str s8), .one (Cell.str (bs [33]))] []).bind fun r9 =>
  cond (shapeOk rk_strings_HasPrefix r9)
  ((cB (cellsAt r9 0) 0).bind fun b10 =>
  cond b10
  (impl_unitOf_l0 k m m s1 2)
  (impl_unitOf_l1 k m m s1 1))
  none)))))
  none
noncomputable abbrev impl_unitOf_l0_B (k m : Nat) : (Ex → Fr → Option Res) → Fr → Option Res := evC G_impl_unitOf fi_impl_unitOf (evF G_impl_unitOf (k + 1)) m (sub [1, 1, 1, 1, 1, 1, 0, 2, 3] fi_impl_unitOf.code) none
noncomputable abbrev impl_unitOf_l0_K (k m : Nat) : Ex → Fr → Option Res := blockK 0 (seqK (evC G_impl_unitOf fi_impl_unitOf (evF G_impl_unitOf (k + 1)) m (sub [1, 1, 1, 1, 1, 1, 1] fi_impl_unitOf.code) none) (retK G_impl_unitOf fi_impl_unitOf))
noncomputable abbrev impl_unitOf_l1_B (k m : Nat) : (Ex → Fr → Option Res) → Fr → Option Res := evC G_impl_unitOf fi_impl_unitOf (evF G_impl_unitOf (k + 1)) m (sub [1, 1, 1, 1, 1, 1, 0, 2, 3] fi_impl_unitOf.code) none
noncomputable abbrev impl_unitOf_l1_K (k m : Nat) : Ex → Fr → Option Res := blockK 0 (seqK (evC G_impl_unitOf fi_impl_unitOf (evF G_impl_unitOf (k + 1)) m (sub [1, 1, 1, 1, 1, 1, 1] fi_impl_unitOf.code) none) (retK G_impl_unitOf fi_impl_unitOf))
theorem impl_unitOf_l1_eq (k m : Nat) : ∀ (n : Nat) (s25 : ByteArray) (i26 : Int), loopK (some [0, 3, 4]) (impl_unitOf_l0_B k m) (impl_unitOf_l0_K k m) n ⟨fT 65 0 [(0, .av (.one (Cell.str s25))), (3, .av (.one (Cell.int i26))), (4, .av (.one (Cell.int 1)))], fX 65 0 [], []⟩ = impl_unitOf_l1 (k + 1) m n s25 i26 := by
  intro n
  induction n with
  | zero => intros; rfl
  | succ n ih =>
    intros
    simp only [impl_unitOf_l1, ← ih]
    kernel_rfl
theorem impl_unitOf_l0_eq (k m : Nat) : ∀ (n : Nat) (s11 : ByteArray) (i12 : Int), loopK (some [0, 3, 4]) (impl_unitOf_l0_B k m) (impl_unitOf_l0_K k m) n ⟨fT 65 0 [(0, .av (.one (Cell.str s11))), (3, .av (.one (Cell.int i12))), (4, .av (.one (Cell.int 2)))], fX 65 0 [], []⟩ = impl_unitOf_l0 (k + 1) m n s11 i12 := by
  intro n
  induction n with
  | zero => intros; rfl
  | succ n ih =>
    intros
    simp only [impl_unitOf_l0, ← ih]
    kernel_rfl
theorem impl_unitOf_code (k m : Nat) (s1 : ByteArray) : evC G_impl_unitOf fi_impl_unitOf (evF G_impl_unitOf (k + 1)) m fi_impl_unitOf.code none (retK G_impl_unitOf fi_impl_unitOf) (enter fi_impl_unitOf [.one (Cell.str s1)] []) = impl_unitOf (k + 1) m s1 := by
  simp only [impl_unitOf, ← impl_unitOf_l0_eq k m, ← impl_unitOf_l1_eq k m]
  kernel_rfl
theorem impl_unitOf_eq (k : Nat) (s1 : ByteArray) : evF G_impl_unitOf (k + 2) fid_impl_unitOf [.one (Cell.str s1)] [] = impl_unitOf (k + 1) (k + 1) s1 :=
  Eq.trans (by kernel_rfl) (impl_unitOf_code k (k + 1) s1)
theorem run_impl_unitOf_of {s1 : ByteArray} {r : Res} (k : Nat) (h : impl_unitOf (k + 1) (k + 1) s1 = some r) : run_impl_unitOf [.one (Cell.str s1)] [] = some r := lim_of ((impl_unitOf_eq k s1).trans h)
noncomputable def pl_impl_pieceOk : List (Nat × Run) := [(fid_impl_inRange, run_impl_inRange), (fid_impl_unitOf, run_impl_unitOf)]
noncomputable def G_impl_pieceOk : Ctx := ctx tyTab fiTab pl_impl_pieceOk
noncomputable def run_impl_pieceOk : Run := lim G_impl_pieceOk fid_impl_pieceOk
theorem ok_impl_pieceOk : FnOk Tryd.prog OkT fid_impl_pieceOk run_impl_pieceOk := lim_ok (l := pl_impl_pieceOk) Tryd_mix tyTab_ok fiTab_ok okT (.cons ok_impl_inRange (.cons ok_impl_unitOf .nil)) fid_impl_pieceOk
noncomputable def impl_pieceOk_l0 (k m : Nat) : Nat → Int → ByteArray → Option Res
  | 0, _, _ => none
  | n + 1, i2, s3 =>
    cond (!(s3.toList == (bs []).toList))
    ((callS run_impl_unitOf [.one (Cell.str s3)] []).bind fun r4 =>
    cond (shapeOk rk_impl_unitOf r4)
    ((cI .i64 (cellsAt r4 0) 0).bind fun i5 =>
    cond (i5 == 0)
    (some ([.one (Cell.bool false)], []))
    ((subS s3 i5 (s3.size : Int)).bind fun s6 =>
    impl_pieceOk_l0 k m n (IntKind.i64.wrap (i2 + 1)) s6))
    none)
    ((callS run_impl_inRange [.one (Cell.int i2), .one (Cell.int 1), .one (Cell.int 12)] []).bind fun r7 =>
    cond (shapeOk rk_impl_inRange r7)
    ((cB (cellsAt r7 0) 0).bind fun b8 =>
    some ([.one (Cell.bool b8)], []))
    none)
noncomputable def impl_pieceOk (k m : Nat) (s1 : ByteArray) : Option Res :=
  impl_pieceOk_l0 k m m 0 s1
noncomputable abbrev impl_pieceOk_l0_B (k m : Nat) : (Ex → Fr → Option Res) → Fr → Option Res := evC G_impl_pieceOk fi_impl_pieceOk (evF G_impl_pieceOk (k + 1)) m (sub [1, 1, 0, 1, 2, 3] fi_impl_pieceOk.code) none
noncomputable abbrev impl_pieceOk_l0_K (k m : Nat) : Ex → Fr → Option Res := blockK 0 (seqK (evC G_impl_pieceOk fi_impl_pieceOk (evF G_impl_pieceOk (k + 1)) m (sub [1, 1, 1] fi_impl_pieceOk.code) none) (retK G_impl_pieceOk fi_impl_pieceOk))
theorem impl_pieceOk_l0_eq (k m : Nat) : ∀ (n : Nat) (i2 : Int) (s3 : ByteArray), loopK (some [3, 4]) (impl_pieceOk_l0_B k m) (impl_pieceOk_l0_K k m) n ⟨fT 20 0 [(3, .av (.one (Cell.int i2))), (4, .av (.one (Cell.str s3)))], fX 20 0 [], []⟩ = impl_pieceOk_l0 (k + 1) m n i2 s3 := by
  intro n
  induction n with
  | zero => intros; rfl
  | succ n ih =>
    intros
    simp only [impl_pieceOk_l0, ← ih]
    kernel_rfl
theorem impl_pieceOk_code (k m : Nat) (s1 : ByteArray) : evC G_impl_pieceOk fi_impl_pieceOk (evF G_impl_pieceOk (k + 1)) m fi_impl_pieceOk.code none (retK G_impl_pieceOk fi_impl_pieceOk) (enter fi_impl_pieceOk [.one (Cell.str s1)] []) = impl_pieceOk (k + 1) m s1 := by
  simp only [impl_pieceOk, ← impl_pieceOk_l0_eq k m]
  kernel_rfl
theorem impl_pieceOk_eq (k : Nat) (s1 : ByteArray) : evF G_impl_pieceOk (k + 2) fid_impl_pieceOk [.one (Cell.str s1)] [] = impl_pieceOk (k + 1) (k + 1) s1 :=
  Eq.trans (by kernel_rfl) (impl_pieceOk_code k (k + 1) s1)
theorem run_impl_pieceOk_of {s1 : ByteArray} {r : Res} (k : Nat) (h : impl_pieceOk (k + 1) (k + 1) s1 = some r) : run_impl_pieceOk [.one (Cell.str s1)] [] = some r := lim_of ((impl_pieceOk_eq k s1).trans h)
noncomputable def pl_impl_GlobOk : List (Nat × Run) := [(fid_strings_Split, run_strings_Split), (fid_impl_pieceOk, run_impl_pieceOk)]
noncomputable def G_impl_GlobOk : Ctx := ctx tyTab fiTab pl_impl_GlobOk
noncomputable def run_impl_GlobOk : Run := lim G_impl_GlobOk fid_impl_GlobOk
theorem ok_impl_GlobOk : FnOk Tryd.prog OkT fid_impl_GlobOk run_impl_GlobOk := lim_ok (l := pl_impl_GlobOk) Tryd_mix tyTab_ok fiTab_ok okT (.cons ok_strings_Split (.cons ok_impl_pieceOk .nil)) fid_impl_GlobOk
noncomputable def impl_GlobOk_l0 (k m : Nat) : Nat → Cell → Cell → Int → Int → List Entry → Option Res
  | 0, _, _, _, _, _ => none
  | n + 1, c5, c6, i7, i8, H9 =>
    cond (decide (i8 < i7))
    ((idxA 1 (c6) i8).bind fun c10 =>
    (deref H9 (c10)).bind fun p11 =>
    (cS p11.1 p11.2).bind fun s12 =>
    (callS run_impl_pieceOk [.one (Cell.str s12)] H9).bind fun r13 =>
    cond (shapeOk rk_impl_pieceOk r13)
    ((cB (cellsAt r13 0) 0).bind fun b14 =>
    cond (!b14)
    (some ([.one (Cell.bool false)], H9))
    (impl_GlobOk_l0 k m n (c5) (c6) i7 (IntKind.i64.wrap (i8 + 1)) H9))
    none)
    ((lenC c5).bind fun n15 =>
    some ([.one (Cell.bool (decide ((n15 : Int) ≤ 4)))], H9))
noncomputable def impl_GlobOk (k m : Nat) (s1 : ByteArray) : Option Res :=
  (callL run_strings_Split [.one (Cell.str s1), .one (Cell.str (bs [47]))] []).bind fun r2 =>
  cond (shapeOk rk_strings_Split r2.1)
  ((cC (cellsAt r2.1 0) 0).bind fun c3 =>
  (lenC c3).bind fun n4 =>
  impl_GlobOk_l0 k m m (c3) (c3) (n4 : Int) 0 r2.2)
  none
noncomputable abbrev impl_GlobOk_l0_B (k m : Nat) : (Ex → Fr → Option Res) → Fr → Option Res := evC G_impl_GlobOk fi_impl_GlobOk (evF G_impl_GlobOk (k + 1)) m (sub [1, 1, 0, 1, 2, 3] fi_impl_GlobOk.code) none
noncomputable abbrev impl_GlobOk_l0_K (k m : Nat) : Ex → Fr → Option Res := blockK 0 (seqK (evC G_impl_GlobOk fi_impl_GlobOk (evF G_impl_GlobOk (k + 1)) m (sub [1, 1, 1] fi_impl_GlobOk.code) none) (retK G_impl_GlobOk fi_impl_GlobOk))
theorem impl_GlobOk_l0_eq (k m : Nat) : ∀ (n : Nat) (c5 : Cell) (c6 : Cell) (i7 : Int) (i8 : Int) (H9 : List Entry), loopK (some [3, 8, 9, 10]) (impl_GlobOk_l0_B k m) (impl_GlobOk_l0_K k m) n ⟨fT 21 0 [(3, .av (.one (c5))), (8, .av (.one (c6))), (9, .av (.one (Cell.int i7))), (10, .av (.one (Cell.int i8)))], fX 21 0 [], H9⟩ = impl_GlobOk_l0 (k + 1) m n c5 c6 i7 i8 H9 := by
  intro n
  induction n with
  | zero => intros; rfl
  | succ n ih =>
    intros
    simp only [impl_GlobOk_l0, ← ih]
    kernel_rfl
theorem impl_GlobOk_code (k m : Nat) (s1 : ByteArray) : evC G_impl_GlobOk fi_impl_GlobOk (evF G_impl_GlobOk (k + 1)) m fi_impl_GlobOk.code none (retK G_impl_GlobOk fi_impl_GlobOk) (enter fi_impl_GlobOk [.one (Cell.str s1)] []) = impl_GlobOk (k + 1) m s1 := by
  simp only [impl_GlobOk, ← impl_GlobOk_l0_eq k m]
  kernel_rfl
theorem impl_GlobOk_eq (k : Nat) (s1 : ByteArray) : evF G_impl_GlobOk (k + 2) fid_impl_GlobOk [.one (Cell.str s1)] [] = impl_GlobOk (k + 1) (k + 1) s1 :=
  Eq.trans (by kernel_rfl) (impl_GlobOk_code k (k + 1) s1)
theorem run_impl_GlobOk_of {s1 : ByteArray} {r : Res} (k : Nat) (h : impl_GlobOk (k + 1) (k + 1) s1 = some r) : run_impl_GlobOk [.one (Cell.str s1)] [] = some r := lim_of ((impl_GlobOk_eq k s1).trans h)
noncomputable def pl_impl_namesOk : List (Nat × Run) := [(fid_impl_NameOk, run_impl_NameOk)]
noncomputable def G_impl_namesOk : Ctx := ctx tyTab fiTab pl_impl_namesOk
noncomputable def run_impl_namesOk : Run := lim G_impl_namesOk fid_impl_namesOk
theorem ok_impl_namesOk : FnOk Tryd.prog OkT fid_impl_namesOk run_impl_namesOk := lim_ok (l := pl_impl_namesOk) Tryd_mix tyTab_ok fiTab_ok okT (.cons ok_impl_NameOk .nil) fid_impl_namesOk
noncomputable def impl_namesOk_l0 (k m : Nat) : Nat → Cell → Int → Cell → Int → Int → Option Res
  | 0, _, _, _, _, _ => none
  | n + 1, c4, i5, c6, i7, i8 =>
    cond (decide (i8 < i7))
    ((idxA 1 (c6) i8).bind fun c9 =>
    (deref [] (c9)).bind fun p10 =>
    (cS p10.1 p10.2).bind fun s11 =>
    (callS run_impl_NameOk [.one (Cell.str s11)] []).bind fun r12 =>
    cond (shapeOk rk_impl_NameOk r12)
    ((cB (cellsAt r12 0) 0).bind fun b13 =>
    cond (!b13)
    (some ([.one (Cell.bool false)], []))
    (impl_namesOk_l0 k m n (c4) i5 (c6) i7 (IntKind.i64.wrap (i8 + 1))))
    none)
    ((lenC c4).bind fun n14 =>
    some ([.one (Cell.bool (decide ((n14 : Int) ≤ i5)))], []))
noncomputable def impl_namesOk (k m : Nat) (c1 : Cell) (i2 : Int) : Option Res :=
  (lenC c1).bind fun n3 =>
  impl_namesOk_l0 k m m (c1) i2 (c1) (n3 : Int) 0
noncomputable abbrev impl_namesOk_l0_B (k m : Nat) : (Ex → Fr → Option Res) → Fr → Option Res := evC G_impl_namesOk fi_impl_namesOk (evF G_impl_namesOk (k + 1)) m (sub [1, 0, 1, 2, 3] fi_impl_namesOk.code) none
noncomputable abbrev impl_namesOk_l0_K (k m : Nat) : Ex → Fr → Option Res := blockK 0 (seqK (evC G_impl_namesOk fi_impl_namesOk (evF G_impl_namesOk (k + 1)) m (sub [1, 1] fi_impl_namesOk.code) none) (retK G_impl_namesOk fi_impl_namesOk))
theorem impl_namesOk_l0_eq (k m : Nat) : ∀ (n : Nat) (c4 : Cell) (i5 : Int) (c6 : Cell) (i7 : Int) (i8 : Int), loopK (some [0, 1, 7, 8, 9]) (impl_namesOk_l0_B k m) (impl_namesOk_l0_K k m) n ⟨fT 21 0 [(0, .av (.one (c4))), (1, .av (.one (Cell.int i5))), (7, .av (.one (c6))), (8, .av (.one (Cell.int i7))), (9, .av (.one (Cell.int i8)))], fX 21 0 [], []⟩ = impl_namesOk_l0 (k + 1) m n c4 i5 c6 i7 i8 := by
  intro n
  induction n with
  | zero => intros; rfl
  | succ n ih =>
    intros
    simp only [impl_namesOk_l0, ← ih]
    kernel_rfl
theorem impl_namesOk_code (k m : Nat) (c1 : Cell) (i2 : Int) : evC G_impl_namesOk fi_impl_namesOk (evF G_impl_namesOk (k + 1)) m fi_impl_namesOk.code none (retK G_impl_namesOk fi_impl_namesOk) (enter fi_impl_namesOk [.one (c1), .one (Cell.int i2)] []) = impl_namesOk (k + 1) m c1 i2 := by
  simp only [impl_namesOk, ← impl_namesOk_l0_eq k m]
  kernel_rfl
theorem impl_namesOk_eq (k : Nat) (c1 : Cell) (i2 : Int) : evF G_impl_namesOk (k + 2) fid_impl_namesOk [.one (c1), .one (Cell.int i2)] [] = impl_namesOk (k + 1) (k + 1) c1 i2 :=
  Eq.trans (by kernel_rfl) (impl_namesOk_code k (k + 1) c1 i2)
theorem run_impl_namesOk_of {c1 : Cell} {i2 : Int} {r : Res} (k : Nat) (h : impl_namesOk (k + 1) (k + 1) c1 i2 = some r) : run_impl_namesOk [.one (c1), .one (Cell.int i2)] [] = some r := lim_of ((impl_namesOk_eq k c1 i2).trans h)
noncomputable def pl_impl_ruleOk : List (Nat × Run) := [(fid_impl_NameOk, run_impl_NameOk), (fid_impl_OnOk, run_impl_OnOk), (fid_impl_GlobOk, run_impl_GlobOk), (fid_impl_namesOk, run_impl_namesOk)]
noncomputable def G_impl_ruleOk : Ctx := ctx tyTab fiTab pl_impl_ruleOk
noncomputable def run_impl_ruleOk : Run := lim G_impl_ruleOk fid_impl_ruleOk
theorem ok_impl_ruleOk : FnOk Tryd.prog OkT fid_impl_ruleOk run_impl_ruleOk := lim_ok (l := pl_impl_ruleOk) Tryd_mix tyTab_ok fiTab_ok okT (.cons ok_impl_NameOk (.cons ok_impl_OnOk (.cons ok_impl_GlobOk (.cons ok_impl_namesOk .nil)))) fid_impl_ruleOk
noncomputable def impl_ruleOk_l1 (k m : Nat) : Nat → Cell → Int → Int → ByteArray → Cell → Cell → Cell → Bool → Option Res
  | 0, _, _, _, _, _, _, _, _ => none
  | n + 1, c21, i22, i23, s24, c25, c26, c27, b28 =>
    cond (decide (i23 < i22))
    ((idxA 1 (c21) i23).bind fun c29 =>
    (deref [] (c29)).bind fun p30 =>
    (cS p30.1 p30.2).bind fun s31 =>
    (callS run_impl_GlobOk [.one (Cell.str s31)] []).bind fun r32 =>
    cond (shapeOk rk_impl_GlobOk r32)
    ((cB (cellsAt r32 0) 0).bind fun b33 =>
    cond (!b33)
    (some ([.one (Cell.bool false)], []))
    (cond (decide ((s31.size : Int) > 60))
    (some ([.one (Cell.bool false)], []))
    (impl_ruleOk_l1 k m n (c21) i22 (IntKind.i64.wrap (i23 + 1)) s24 (c25) (c26) (c27) b28)))
    none)
    ((callS run_impl_NameOk [.one (Cell.str s24)] []).bind fun r34 =>
    cond (shapeOk rk_impl_NameOk r34)
    ((cB (cellsAt r34 0) 0).bind fun b35 =>
    cond b35
    ((lenC c25).bind fun n36 =>
    cond (decide ((n36 : Int) ≤ 4))
    ((lenC c26).bind fun n37 =>
    cond (decide ((n37 : Int) ≤ 4))
    ((callS run_impl_namesOk [.one (c27), .one (Cell.int 3)] []).bind fun r38 =>
    cond (shapeOk rk_impl_namesOk r38)
    ((cB (cellsAt r38 0) 0).bind fun b39 =>
    some ([.one (Cell.bool b39)], []))
    none)
    (some ([.one (Cell.bool false)], [])))
    (some ([.one (Cell.bool false)], [])))
    (some ([.one (Cell.bool false)], [])))
    none)
noncomputable def impl_ruleOk_l0 (k m : Nat) : Nat → Cell → Int → Int → ByteArray → Cell → Cell → Cell → Bool → Option Res
  | 0, _, _, _, _, _, _, _, _ => none
  | n + 1, c7, i8, i9, s10, c11, c12, c13, b14 =>
    cond (decide (i9 < i8))
    ((idxA 1 (c7) i9).bind fun c15 =>
    (deref [] (c15)).bind fun p16 =>
    (cS p16.1 p16.2).bind fun s17 =>
    (callS run_impl_OnOk [.one (Cell.str s17)] []).bind fun r18 =>
    cond (shapeOk rk_impl_OnOk r18)
    ((cB (cellsAt r18 0) 0).bind fun b19 =>
    cond (!b19)
    (some ([.one (Cell.bool false)], []))
    (impl_ruleOk_l0 k m n (c7) i8 (IntKind.i64.wrap (i9 + 1)) s10 (c11) (c12) (c13) b14))
    none)
    ((lenC c12).bind fun n20 =>
    impl_ruleOk_l1 k m m (c12) (n20 : Int) 0 s10 (c11) (c12) (c13) b14)
noncomputable def impl_ruleOk (k m : Nat) (s1 : ByteArray) (c2 : Cell) (c3 : Cell) (c4 : Cell) (b5 : Bool) : Option Res :=
  (lenC c2).bind fun n6 =>
  impl_ruleOk_l0 k m m (c2) (n6 : Int) 0 s1 (c2) (c3) (c4) b5
noncomputable abbrev impl_ruleOk_l0_B (k m : Nat) : (Ex → Fr → Option Res) → Fr → Option Res := evC G_impl_ruleOk fi_impl_ruleOk (evF G_impl_ruleOk (k + 1)) m (sub [1, 0, 1, 2, 3] fi_impl_ruleOk.code) none
noncomputable abbrev impl_ruleOk_l0_K (k m : Nat) : Ex → Fr → Option Res := blockK 0 (seqK (evC G_impl_ruleOk fi_impl_ruleOk (evF G_impl_ruleOk (k + 1)) m (sub [1, 1] fi_impl_ruleOk.code) none) (retK G_impl_ruleOk fi_impl_ruleOk))
noncomputable abbrev impl_ruleOk_l1_B (k m : Nat) : (Ex → Fr → Option Res) → Fr → Option Res := evC G_impl_ruleOk fi_impl_ruleOk (evF G_impl_ruleOk (k + 1)) m (sub [1, 1, 0, 1, 2, 3] fi_impl_ruleOk.code) none
noncomputable abbrev impl_ruleOk_l1_K (k m : Nat) : Ex → Fr → Option Res := blockK 2 (seqK (evC G_impl_ruleOk fi_impl_ruleOk (evF G_impl_ruleOk (k + 1)) m (sub [1, 1, 1] fi_impl_ruleOk.code) none) (retK G_impl_ruleOk fi_impl_ruleOk))
theorem impl_ruleOk_l1_eq (k m : Nat) : ∀ (n : Nat) (c21 : Cell) (i22 : Int) (i23 : Int) (s24 : ByteArray) (c25 : Cell) (c26 : Cell) (c27 : Cell) (b28 : Bool), loopK (some [1, 19, 20, 21]) (impl_ruleOk_l1_B k m) (impl_ruleOk_l1_K k m) n ⟨fT 54 0 [(1, .loc 1 0), (19, .av (.one (c21))), (20, .av (.one (Cell.int i22))), (21, .av (.one (Cell.int i23)))], fX 54 0 [(1, [Cell.str s24, c25, c26, c27, Cell.bool b28])], []⟩ = impl_ruleOk_l1 (k + 1) m n c21 i22 i23 s24 c25 c26 c27 b28 := by
  intro n
  induction n with
  | zero => intros; rfl
  | succ n ih =>
    intros
    simp only [impl_ruleOk_l1, ← ih]
    kernel_rfl
theorem impl_ruleOk_l0_eq (k m : Nat) : ∀ (n : Nat) (c7 : Cell) (i8 : Int) (i9 : Int) (s10 : ByteArray) (c11 : Cell) (c12 : Cell) (c13 : Cell) (b14 : Bool), loopK (some [1, 8, 9, 10]) (impl_ruleOk_l0_B k m) (impl_ruleOk_l0_K k m) n ⟨fT 54 0 [(1, .loc 1 0), (8, .av (.one (c7))), (9, .av (.one (Cell.int i8))), (10, .av (.one (Cell.int i9)))], fX 54 0 [(1, [Cell.str s10, c11, c12, c13, Cell.bool b14])], []⟩ = impl_ruleOk_l0 (k + 1) m n c7 i8 i9 s10 c11 c12 c13 b14 := by
  intro n
  induction n with
  | zero => intros; rfl
  | succ n ih =>
    intros
    simp only [impl_ruleOk_l0, ← impl_ruleOk_l1_eq k m, ← ih]
    kernel_rfl
theorem impl_ruleOk_code (k m : Nat) (s1 : ByteArray) (c2 : Cell) (c3 : Cell) (c4 : Cell) (b5 : Bool) : evC G_impl_ruleOk fi_impl_ruleOk (evF G_impl_ruleOk (k + 1)) m fi_impl_ruleOk.code none (retK G_impl_ruleOk fi_impl_ruleOk) (enter fi_impl_ruleOk [.agg [Cell.str s1, c2, c3, c4, Cell.bool b5]] []) = impl_ruleOk (k + 1) m s1 c2 c3 c4 b5 := by
  simp only [impl_ruleOk, ← impl_ruleOk_l0_eq k m]
  kernel_rfl
theorem impl_ruleOk_eq (k : Nat) (s1 : ByteArray) (c2 : Cell) (c3 : Cell) (c4 : Cell) (b5 : Bool) : evF G_impl_ruleOk (k + 2) fid_impl_ruleOk [.agg [Cell.str s1, c2, c3, c4, Cell.bool b5]] [] = impl_ruleOk (k + 1) (k + 1) s1 c2 c3 c4 b5 :=
  Eq.trans (by kernel_rfl) (impl_ruleOk_code k (k + 1) s1 c2 c3 c4 b5)
theorem run_impl_ruleOk_of {s1 : ByteArray} {c2 : Cell} {c3 : Cell} {c4 : Cell} {b5 : Bool} {r : Res} (k : Nat) (h : impl_ruleOk (k + 1) (k + 1) s1 c2 c3 c4 b5 = some r) : run_impl_ruleOk [.agg [Cell.str s1, c2, c3, c4, Cell.bool b5]] [] = some r := lim_of ((impl_ruleOk_eq k s1 c2 c3 c4 b5).trans h)
noncomputable def pl_impl_RulesOk : List (Nat × Run) := [(fid_impl_ruleOk, run_impl_ruleOk)]
noncomputable def G_impl_RulesOk : Ctx := ctx tyTab fiTab pl_impl_RulesOk
noncomputable def run_impl_RulesOk : Run := lim G_impl_RulesOk fid_impl_RulesOk
theorem ok_impl_RulesOk : FnOk Tryd.prog OkT fid_impl_RulesOk run_impl_RulesOk := lim_ok (l := pl_impl_RulesOk) Tryd_mix tyTab_ok fiTab_ok okT (.cons ok_impl_ruleOk .nil) fid_impl_RulesOk
noncomputable def impl_RulesOk_l0 (k m : Nat) : Nat → Cell → Cell → Int → Int → Option Res
  | 0, _, _, _, _ => none
  | n + 1, c3, c4, i5, i6 =>
    cond (decide (i6 < i5))
    ((idxA 5 (c4) i6).bind fun c7 =>
    (deref [] (c7)).bind fun p8 =>
    (cS p8.1 p8.2).bind fun s9 =>
    (cC p8.1 (p8.2 + 1)).bind fun c10 =>
    (cC p8.1 ((p8.2 + 1) + 1)).bind fun c11 =>
    (cC p8.1 (((p8.2 + 1) + 1) + 1)).bind fun c12 =>
    (cB p8.1 ((((p8.2 + 1) + 1) + 1) + 1)).bind fun b13 =>
    (callS run_impl_ruleOk [.agg [Cell.str s9, c10, c11, c12, Cell.bool b13]] []).bind fun r14 =>
    cond (shapeOk rk_impl_ruleOk r14)
    ((cB (cellsAt r14 0) 0).bind fun b15 =>
    cond (!b15)
    (some ([.one (Cell.bool false)], []))
    (cond (decide (i6 > 0))
    ((idxA 5 (c3) (IntKind.i64.wrap (i6 - 1))).bind fun c16 =>
    (fldA c16 0).bind fun c17 =>
    (deref [] (c17)).bind fun p18 =>
    (cS p18.1 p18.2).bind fun s19 =>
    cond (Op.bytesLess s9.toList s19.toList || s9.toList == s19.toList)
    (some ([.one (Cell.bool false)], []))
    (impl_RulesOk_l0 k m n (c3) (c4) i5 (IntKind.i64.wrap (i6 + 1))))
    (impl_RulesOk_l0 k m n (c3) (c4) i5 (IntKind.i64.wrap (i6 + 1)))))
    none)
    ((lenC c3).bind fun n20 =>
    some ([.one (Cell.bool (decide ((n20 : Int) ≤ 5)))], []))
noncomputable def impl_RulesOk (k m : Nat) (c1 : Cell) : Option Res :=
  (lenC c1).bind fun n2 =>
  impl_RulesOk_l0 k m m (c1) (c1) (n2 : Int) 0
noncomputable abbrev impl_RulesOk_l0_B (k m : Nat) : (Ex → Fr → Option Res) → Fr → Option Res := evC G_impl_RulesOk fi_impl_RulesOk (evF G_impl_RulesOk (k + 1)) m (sub [1, 0, 1, 2, 3] fi_impl_RulesOk.code) none
noncomputable abbrev impl_RulesOk_l0_K (k m : Nat) : Ex → Fr → Option Res := blockK 0 (seqK (evC G_impl_RulesOk fi_impl_RulesOk (evF G_impl_RulesOk (k + 1)) m (sub [1, 1] fi_impl_RulesOk.code) none) (retK G_impl_RulesOk fi_impl_RulesOk))
theorem impl_RulesOk_l0_eq (k m : Nat) : ∀ (n : Nat) (c3 : Cell) (c4 : Cell) (i5 : Int) (i6 : Int), loopK (some [0, 5, 6, 7]) (impl_RulesOk_l0_B k m) (impl_RulesOk_l0_K k m) n ⟨fT 34 0 [(0, .av (.one (c3))), (5, .av (.one (c4))), (6, .av (.one (Cell.int i5))), (7, .av (.one (Cell.int i6)))], fX 34 0 [], []⟩ = impl_RulesOk_l0 (k + 1) m n c3 c4 i5 i6 := by
  intro n
  induction n with
  | zero => intros; rfl
  | succ n ih =>
    intros
    simp only [impl_RulesOk_l0, ← ih]
    kernel_rfl
theorem impl_RulesOk_code (k m : Nat) (c1 : Cell) : evC G_impl_RulesOk fi_impl_RulesOk (evF G_impl_RulesOk (k + 1)) m fi_impl_RulesOk.code none (retK G_impl_RulesOk fi_impl_RulesOk) (enter fi_impl_RulesOk [.one (c1)] []) = impl_RulesOk (k + 1) m c1 := by
  simp only [impl_RulesOk, ← impl_RulesOk_l0_eq k m]
  kernel_rfl
theorem impl_RulesOk_eq (k : Nat) (c1 : Cell) : evF G_impl_RulesOk (k + 2) fid_impl_RulesOk [.one (c1)] [] = impl_RulesOk (k + 1) (k + 1) c1 :=
  Eq.trans (by kernel_rfl) (impl_RulesOk_code k (k + 1) c1)
theorem run_impl_RulesOk_of {c1 : Cell} {r : Res} (k : Nat) (h : impl_RulesOk (k + 1) (k + 1) c1 = some r) : run_impl_RulesOk [.one (c1)] [] = some r := lim_of ((impl_RulesOk_eq k c1).trans h)
noncomputable def pl_laws_eqStringS : List (Nat × Run) := []
noncomputable def G_laws_eqStringS : Ctx := ctx tyTab fiTab pl_laws_eqStringS
noncomputable def run_laws_eqStringS : Run := lim G_laws_eqStringS fid_laws_eqStringS
theorem ok_laws_eqStringS : FnOk Tryd.prog OkT fid_laws_eqStringS run_laws_eqStringS := lim_ok (l := pl_laws_eqStringS) Tryd_mix tyTab_ok fiTab_ok okT .nil fid_laws_eqStringS
noncomputable def laws_eqStringS_l0 (k m : Nat) : Nat → Cell → Cell → Int → Option Res
  | 0, _, _, _ => none
  | n + 1, c5, c6, i7 =>
    (lenC c5).bind fun n8 =>
    cond (decide (i7 < (n8 : Int)))
    ((idxA 1 (c5) i7).bind fun c9 =>
    (deref [] (c9)).bind fun p10 =>
    (cS p10.1 p10.2).bind fun s11 =>
    (idxA 1 (c6) i7).bind fun c12 =>
    (deref [] (c12)).bind fun p13 =>
    (cS p13.1 p13.2).bind fun s14 =>
    cond (!(s11.toList == s14.toList))
    (some ([.one (Cell.bool false)], []))
    (laws_eqStringS_l0 k m n (c5) (c6) (IntKind.i64.wrap (i7 + 1))))
    (some ([.one (Cell.bool true)], []))
noncomputable def laws_eqStringS (k m : Nat) (c1 : Cell) (c2 : Cell) : Option Res :=
  (lenC c1).bind fun n3 =>
  (lenC c2).bind fun n4 =>
  cond ((n3 : Int) != (n4 : Int))
  (some ([.one (Cell.bool false)], []))
  (laws_eqStringS_l0 k m m (c1) (c2) 0)
noncomputable abbrev laws_eqStringS_l0_B (k m : Nat) : (Ex → Fr → Option Res) → Fr → Option Res := evC G_laws_eqStringS fi_laws_eqStringS (evF G_laws_eqStringS (k + 1)) m (sub [1, 1, 0, 1, 2, 3] fi_laws_eqStringS.code) none
noncomputable abbrev laws_eqStringS_l0_K (k m : Nat) : Ex → Fr → Option Res := blockK 0 (seqK (evC G_laws_eqStringS fi_laws_eqStringS (evF G_laws_eqStringS (k + 1)) m (sub [1, 1, 1] fi_laws_eqStringS.code) none) (retK G_laws_eqStringS fi_laws_eqStringS))
theorem laws_eqStringS_l0_eq (k m : Nat) : ∀ (n : Nat) (c5 : Cell) (c6 : Cell) (i7 : Int), loopK (some [0, 1, 5]) (laws_eqStringS_l0_B k m) (laws_eqStringS_l0_K k m) n ⟨fT 26 0 [(0, .av (.one (c5))), (1, .av (.one (c6))), (5, .av (.one (Cell.int i7)))], fX 26 0 [], []⟩ = laws_eqStringS_l0 (k + 1) m n c5 c6 i7 := by
  intro n
  induction n with
  | zero => intros; rfl
  | succ n ih =>
    intros
    simp only [laws_eqStringS_l0, ← ih]
    kernel_rfl
theorem laws_eqStringS_code (k m : Nat) (c1 : Cell) (c2 : Cell) : evC G_laws_eqStringS fi_laws_eqStringS (evF G_laws_eqStringS (k + 1)) m fi_laws_eqStringS.code none (retK G_laws_eqStringS fi_laws_eqStringS) (enter fi_laws_eqStringS [.one (c1), .one (c2)] []) = laws_eqStringS (k + 1) m c1 c2 := by
  simp only [laws_eqStringS, ← laws_eqStringS_l0_eq k m]
  kernel_rfl
theorem laws_eqStringS_eq (k : Nat) (c1 : Cell) (c2 : Cell) : evF G_laws_eqStringS (k + 2) fid_laws_eqStringS [.one (c1), .one (c2)] [] = laws_eqStringS (k + 1) (k + 1) c1 c2 :=
  Eq.trans (by kernel_rfl) (laws_eqStringS_code k (k + 1) c1 c2)
theorem run_laws_eqStringS_of {c1 : Cell} {c2 : Cell} {r : Res} (k : Nat) (h : laws_eqStringS (k + 1) (k + 1) c1 c2 = some r) : run_laws_eqStringS [.one (c1), .one (c2)] [] = some r := lim_of ((laws_eqStringS_eq k c1 c2).trans h)
noncomputable def pl_laws_eqRule : List (Nat × Run) := [(fid_laws_eqStringS, run_laws_eqStringS)]
noncomputable def G_laws_eqRule : Ctx := ctx tyTab fiTab pl_laws_eqRule
noncomputable def run_laws_eqRule : Run := lim G_laws_eqRule fid_laws_eqRule
theorem ok_laws_eqRule : FnOk Tryd.prog OkT fid_laws_eqRule run_laws_eqRule := lim_ok (l := pl_laws_eqRule) Tryd_mix tyTab_ok fiTab_ok okT (.cons ok_laws_eqStringS .nil) fid_laws_eqRule
noncomputable def laws_eqRule (k m : Nat) (s1 : ByteArray) (c2 : Cell) (c3 : Cell) (c4 : Cell) (b5 : Bool) (s6 : ByteArray) (c7 : Cell) (c8 : Cell) (c9 : Cell) (b10 : Bool) : Option Res :=
  cond (!(s1.toList == s6.toList))
  (some ([.one (Cell.bool false)], []))
  ((callS run_laws_eqStringS [.one (c2), .one (c7)] []).bind fun r11 =>
  cond (shapeOk rk_laws_eqStringS r11)
  ((cB (cellsAt r11 0) 0).bind fun b12 =>
  cond (!b12)
  (some ([.one (Cell.bool false)], []))
  ((callS run_laws_eqStringS [.one (c3), .one (c8)] []).bind fun r13 =>
  cond (shapeOk rk_laws_eqStringS r13)
  ((cB (cellsAt r13 0) 0).bind fun b14 =>
  cond (!b14)
  (some ([.one (Cell.bool false)], []))
  ((callS run_laws_eqStringS [.one (c4), .one (c9)] []).bind fun r15 =>
  cond (shapeOk rk_laws_eqStringS r15)
  ((cB (cellsAt r15 0) 0).bind fun b16 =>
  cond (!b16)
  (some ([.one (Cell.bool false)], []))
  (cond (!(b5 == b10))
  (some ([.one (Cell.bool false)], []))
  (some ([.one (Cell.bool true)], []))))
  none))
  none))
  none)
theorem laws_eqRule_code (k m : Nat) (s1 : ByteArray) (c2 : Cell) (c3 : Cell) (c4 : Cell) (b5 : Bool) (s6 : ByteArray) (c7 : Cell) (c8 : Cell) (c9 : Cell) (b10 : Bool) : evC G_laws_eqRule fi_laws_eqRule (evF G_laws_eqRule (k + 1)) m fi_laws_eqRule.code none (retK G_laws_eqRule fi_laws_eqRule) (enter fi_laws_eqRule [.agg [Cell.str s1, c2, c3, c4, Cell.bool b5], .agg [Cell.str s6, c7, c8, c9, Cell.bool b10]] []) = laws_eqRule (k + 1) m s1 c2 c3 c4 b5 s6 c7 c8 c9 b10 := by
  kernel_rfl
theorem laws_eqRule_eq (k : Nat) (s1 : ByteArray) (c2 : Cell) (c3 : Cell) (c4 : Cell) (b5 : Bool) (s6 : ByteArray) (c7 : Cell) (c8 : Cell) (c9 : Cell) (b10 : Bool) : evF G_laws_eqRule (k + 2) fid_laws_eqRule [.agg [Cell.str s1, c2, c3, c4, Cell.bool b5], .agg [Cell.str s6, c7, c8, c9, Cell.bool b10]] [] = laws_eqRule (k + 1) (k + 1) s1 c2 c3 c4 b5 s6 c7 c8 c9 b10 :=
  Eq.trans (by kernel_rfl) (laws_eqRule_code k (k + 1) s1 c2 c3 c4 b5 s6 c7 c8 c9 b10)
theorem run_laws_eqRule_of {s1 : ByteArray} {c2 : Cell} {c3 : Cell} {c4 : Cell} {b5 : Bool} {s6 : ByteArray} {c7 : Cell} {c8 : Cell} {c9 : Cell} {b10 : Bool} {r : Res} (k : Nat) (h : laws_eqRule (k + 1) (k + 1) s1 c2 c3 c4 b5 s6 c7 c8 c9 b10 = some r) : run_laws_eqRule [.agg [Cell.str s1, c2, c3, c4, Cell.bool b5], .agg [Cell.str s6, c7, c8, c9, Cell.bool b10]] [] = some r := lim_of ((laws_eqRule_eq k s1 c2 c3 c4 b5 s6 c7 c8 c9 b10).trans h)
noncomputable def pl_laws_eqRuleS : List (Nat × Run) := [(fid_laws_eqRule, run_laws_eqRule)]
noncomputable def G_laws_eqRuleS : Ctx := ctx tyTab fiTab pl_laws_eqRuleS
noncomputable def run_laws_eqRuleS : Run := lim G_laws_eqRuleS fid_laws_eqRuleS
theorem ok_laws_eqRuleS : FnOk Tryd.prog OkT fid_laws_eqRuleS run_laws_eqRuleS := lim_ok (l := pl_laws_eqRuleS) Tryd_mix tyTab_ok fiTab_ok okT (.cons ok_laws_eqRule .nil) fid_laws_eqRuleS
noncomputable def laws_eqRuleS_l0 (k m : Nat) : Nat → Cell → Cell → Int → Option Res
  | 0, _, _, _ => none
  | n + 1, c5, c6, i7 =>
    (lenC c5).bind fun n8 =>
    cond (decide (i7 < (n8 : Int)))
    ((idxA 5 (c5) i7).bind fun c9 =>
    (deref [] (c9)).bind fun p10 =>
    (cS p10.1 p10.2).bind fun s11 =>
    (cC p10.1 (p10.2 + 1)).bind fun c12 =>
    (cC p10.1 ((p10.2 + 1) + 1)).bind fun c13 =>
    (cC p10.1 (((p10.2 + 1) + 1) + 1)).bind fun c14 =>
    (cB p10.1 ((((p10.2 + 1) + 1) + 1) + 1)).bind fun b15 =>
    (idxA 5 (c6) i7).bind fun c16 =>
    (deref [] (c16)).bind fun p17 =>
    (cS p17.1 p17.2).bind fun s18 =>
    (cC p17.1 (p17.2 + 1)).bind fun c19 =>
    (cC p17.1 ((p17.2 + 1) + 1)).bind fun c20 =>
    (cC p17.1 (((p17.2 + 1) + 1) + 1)).bind fun c21 =>
    (cB p17.1 ((((p17.2 + 1) + 1) + 1) + 1)).bind fun b22 =>
    (callS run_laws_eqRule [.agg [Cell.str s11, c12, c13, c14, Cell.bool b15], .agg [Cell.str s18, c19, c20, c21, Cell.bool b22]] []).bind fun r23 =>
    cond (shapeOk rk_laws_eqRule r23)
    ((cB (cellsAt r23 0) 0).bind fun b24 =>
    cond (!b24)
    (some ([.one (Cell.bool false)], []))
    (laws_eqRuleS_l0 k m n (c5) (c6) (IntKind.i64.wrap (i7 + 1))))
    none)
    (some ([.one (Cell.bool true)], []))
noncomputable def laws_eqRuleS (k m : Nat) (c1 : Cell) (c2 : Cell) : Option Res :=
  (lenC c1).bind fun n3 =>
  (lenC c2).bind fun n4 =>
  cond ((n3 : Int) != (n4 : Int))
  (some ([.one (Cell.bool false)], []))
  (laws_eqRuleS_l0 k m m (c1) (c2) 0)
noncomputable abbrev laws_eqRuleS_l0_B (k m : Nat) : (Ex → Fr → Option Res) → Fr → Option Res := evC G_laws_eqRuleS fi_laws_eqRuleS (evF G_laws_eqRuleS (k + 1)) m (sub [1, 1, 0, 1, 2, 3] fi_laws_eqRuleS.code) none
noncomputable abbrev laws_eqRuleS_l0_K (k m : Nat) : Ex → Fr → Option Res := blockK 0 (seqK (evC G_laws_eqRuleS fi_laws_eqRuleS (evF G_laws_eqRuleS (k + 1)) m (sub [1, 1, 1] fi_laws_eqRuleS.code) none) (retK G_laws_eqRuleS fi_laws_eqRuleS))
theorem laws_eqRuleS_l0_eq (k m : Nat) : ∀ (n : Nat) (c5 : Cell) (c6 : Cell) (i7 : Int), loopK (some [0, 1, 5]) (laws_eqRuleS_l0_B k m) (laws_eqRuleS_l0_K k m) n ⟨fT 27 0 [(0, .av (.one (c5))), (1, .av (.one (c6))), (5, .av (.one (Cell.int i7)))], fX 27 0 [], []⟩ = laws_eqRuleS_l0 (k + 1) m n c5 c6 i7 := by
  intro n
  induction n with
  | zero => intros; rfl
  | succ n ih =>
    intros
    simp only [laws_eqRuleS_l0, ← ih]
    kernel_rfl
theorem laws_eqRuleS_code (k m : Nat) (c1 : Cell) (c2 : Cell) : evC G_laws_eqRuleS fi_laws_eqRuleS (evF G_laws_eqRuleS (k + 1)) m fi_laws_eqRuleS.code none (retK G_laws_eqRuleS fi_laws_eqRuleS) (enter fi_laws_eqRuleS [.one (c1), .one (c2)] []) = laws_eqRuleS (k + 1) m c1 c2 := by
  simp only [laws_eqRuleS, ← laws_eqRuleS_l0_eq k m]
  kernel_rfl
theorem laws_eqRuleS_eq (k : Nat) (c1 : Cell) (c2 : Cell) : evF G_laws_eqRuleS (k + 2) fid_laws_eqRuleS [.one (c1), .one (c2)] [] = laws_eqRuleS (k + 1) (k + 1) c1 c2 :=
  Eq.trans (by kernel_rfl) (laws_eqRuleS_code k (k + 1) c1 c2)
theorem run_laws_eqRuleS_of {c1 : Cell} {c2 : Cell} {r : Res} (k : Nat) (h : laws_eqRuleS (k + 1) (k + 1) c1 c2 = some r) : run_laws_eqRuleS [.one (c1), .one (c2)] [] = some r := lim_of ((laws_eqRuleS_eq k c1 c2).trans h)
noncomputable def pl_laws_FnExactRulesOk : List (Nat × Run) := [(fid_laws_szRuleS, run_laws_szRuleS), (fid_spec_RulesOk, run_spec_RulesOk), (fid_laws_toRuleS, run_laws_toRuleS), (fid_impl_RulesOk, run_impl_RulesOk), (fid_laws_eqRuleS, run_laws_eqRuleS)]
noncomputable def G_laws_FnExactRulesOk : Ctx := ctx tyTab fiTab pl_laws_FnExactRulesOk
noncomputable def run_laws_FnExactRulesOk : Run := lim G_laws_FnExactRulesOk fid_laws_FnExactRulesOk
theorem ok_laws_FnExactRulesOk : FnOk Tryd.prog OkT fid_laws_FnExactRulesOk run_laws_FnExactRulesOk := lim_ok (l := pl_laws_FnExactRulesOk) Tryd_mix tyTab_ok fiTab_ok okT (.cons ok_laws_szRuleS (.cons ok_spec_RulesOk (.cons ok_laws_toRuleS (.cons ok_impl_RulesOk (.cons ok_laws_eqRuleS .nil))))) fid_laws_FnExactRulesOk
noncomputable def laws_FnExactRulesOk (k m : Nat) (c1 : Cell) : Option Res :=
  (callS run_laws_szRuleS [.one (c1), .one (Cell.int 1048576)] []).bind fun r2 =>
  cond (shapeOk rk_laws_szRuleS r2)
  ((cI .i64 (cellsAt r2 0) 0).bind fun i3 =>
  cond (decide (i3 < 0))
  (some ([.one (Cell.bool true)], []))
  ((callL run_laws_toRuleS [.one (c1)] []).bind fun r4 =>
  cond (shapeOk rk_laws_toRuleS r4.1)
  ((cC (cellsAt r4.1 0) 0).bind fun c5 =>
  (callS run_spec_RulesOk [.one (c5)] r4.2).bind fun r6 =>
  cond (shapeOk rk_spec_RulesOk r6)
  ((cB (cellsAt r6 0) 0).bind fun b7 =>
  (callL run_laws_toRuleS [.one (c1)] r4.2).bind fun r8 =>
  cond (shapeOk rk_laws_toRuleS r8.1)
  ((cC (cellsAt r8.1 0) 0).bind fun c9 =>
  (callS run_impl_RulesOk [.one (c9)] r8.2).bind fun r10 =>
  cond (shapeOk rk_impl_RulesOk r10)
  ((cB (cellsAt r10 0) 0).bind fun b11 =>
  cond (!(b11 == b7))
  (some ([.one (Cell.bool false)], r8.2))
  ((callL run_laws_toRuleS [.one (c1)] r8.2).bind fun r12 =>
  cond (shapeOk rk_laws_toRuleS r12.1)
  ((cC (cellsAt r12.1 0) 0).bind fun c13 =>
  (callS run_laws_eqRuleS [.one (c9), .one (c13)] r12.2).bind fun r14 =>
  cond (shapeOk rk_laws_eqRuleS r14)
  ((cB (cellsAt r14 0) 0).bind fun b15 =>
  cond (!b15)
  (some ([.one (Cell.bool false)], r12.2))
  (some ([.one (Cell.bool true)], r12.2)))
  none)
  none))
  none)
  none)
  none)
  none))
  none
theorem laws_FnExactRulesOk_code (k m : Nat) (c1 : Cell) : evC G_laws_FnExactRulesOk fi_laws_FnExactRulesOk (evF G_laws_FnExactRulesOk (k + 1)) m fi_laws_FnExactRulesOk.code none (retK G_laws_FnExactRulesOk fi_laws_FnExactRulesOk) (enter fi_laws_FnExactRulesOk [.one (c1)] []) = laws_FnExactRulesOk (k + 1) m c1 := by
  kernel_rfl
theorem laws_FnExactRulesOk_eq (k : Nat) (c1 : Cell) : evF G_laws_FnExactRulesOk (k + 2) fid_laws_FnExactRulesOk [.one (c1)] [] = laws_FnExactRulesOk (k + 1) (k + 1) c1 :=
  Eq.trans (by kernel_rfl) (laws_FnExactRulesOk_code k (k + 1) c1)
theorem run_laws_FnExactRulesOk_of {c1 : Cell} {r : Res} (k : Nat) (h : laws_FnExactRulesOk (k + 1) (k + 1) c1 = some r) : run_laws_FnExactRulesOk [.one (c1)] [] = some r := lim_of ((laws_FnExactRulesOk_eq k c1).trans h)
end Go.Ev
