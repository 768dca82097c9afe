/- Conditions: none. -/
import Derived.Test.YtholafaogipaiaaGreatDoorSh5
import Derived.KernelRfl
namespace Go.Ev
open Go Go.Proofs
set_option maxRecDepth 100000
set_option linter.unusedVariables false
set_option linter.unusedSimpArgs false
noncomputable def pl_fau : List (Nat × Run) := [(fid_faz, run_faz), (fid_fac, run_fac), (fid_faa, run_faa), (fid_fab, run_fab)]
noncomputable def G_fau : Ctx := ctx tyTab fiTab pl_fau
noncomputable def run_fau : Run := lim G_fau fid_fau
theorem ok_fau : FnOk Tryz.prog OkT fid_fau run_fau := lim_ok (l := pl_fau) Tryz_mix tyTab_ok fiTab_ok okT (.cons ok_faz (.cons ok_fac (.cons ok_faa (.cons ok_fab .nil)))) fid_fau
noncomputable def fau (k m : Nat) (s1 : ByteArray) (s2 : ByteArray) : Option Res :=
  cond (s1.toList == (bs []).toList)
  (cond (s2.toList == (bs []).toList)
  ((callS run_faa [.one (Cell.int (s1.size : Int)), .one (Cell.int (s2.size : Int))] []).bind fun r3 =>
  cond (shapeOk rk_faa r3)
  ((cI .i64 (cellsAt r3 0) 0).bind fun i4 =>
  (callS run_fab [.one (Cell.str s1), .one (Cell.str s2)] []).bind fun r5 =>
  cond (shapeOk rk_fab r5)
  ((cI .i64 (cellsAt r5 0) 0).bind fun i6 =>
  (callS run_fac [.one (.lst true 1 [[Cell.int i4], [Cell.int i6]])] []).bind fun r7 =>
  cond (shapeOk rk_fac r7)
  ((cI .i64 (cellsAt r7 0) 0).bind fun i8 =>
  some ([.one (Cell.int i8)], []))
  none)
  none)
  none)
  ((callS run_faz [.one (Cell.str s2)] []).bind fun r9 =>
  cond (shapeOk rk_faz r9)
  ((cB (cellsAt r9 0) 0).bind fun b10 =>
  cond b10
  ((callS run_faa [.one (Cell.int (s1.size : Int)), .one (Cell.int (s2.size : Int))] []).bind fun r11 =>
  cond (shapeOk rk_faa r11)
  ((cI .i64 (cellsAt r11 0) 0).bind fun i12 =>
  (callS run_fab [.one (Cell.str s1), .one (Cell.str s2)] []).bind fun r13 =>
  cond (shapeOk rk_fab r13)
  ((cI .i64 (cellsAt r13 0) 0).bind fun i14 =>
  (callS run_fac [.one (.lst true 1 [[Cell.int i12], [Cell.int i14]])] []).bind fun r15 =>
  cond (shapeOk rk_fac r15)
  ((cI .i64 (cellsAt r15 0) 0).bind fun i16 =>
  some ([.one (Cell.int i16)], []))
  none)
  none)
  none)
  (some ([.one (Cell.int (-1))], [])))
  none))
  ((callS run_faz [.one (Cell.str s1)] []).bind fun r17 =>
  cond (shapeOk rk_faz r17)
  ((cB (cellsAt r17 0) 0).bind fun b18 =>
  cond (s2.toList == (bs []).toList)
  (cond b18
  ((callS run_faa [.one (Cell.int (s1.size : Int)), .one (Cell.int (s2.size : Int))] []).bind fun r19 =>
  cond (shapeOk rk_faa r19)
  ((cI .i64 (cellsAt r19 0) 0).bind fun i20 =>
  (callS run_fab [.one (Cell.str s1), .one (Cell.str s2)] []).bind fun r21 =>
  cond (shapeOk rk_fab r21)
  ((cI .i64 (cellsAt r21 0) 0).bind fun i22 =>
  (callS run_fac [.one (.lst true 1 [[Cell.int i20], [Cell.int i22]])] []).bind fun r23 =>
  cond (shapeOk rk_fac r23)
  ((cI .i64 (cellsAt r23 0) 0).bind fun i24 =>
  some ([.one (Cell.int i24)], []))
  none)
  none)
  none)
  (cond b18
  (some ([.one (Cell.int (-1))], []))
  (some ([.one (Cell.int 1)], []))))
  ((callS run_faz [.one (Cell.str s2)] []).bind fun r25 =>
  cond (shapeOk rk_faz r25)
  ((cB (cellsAt r25 0) 0).bind fun b26 =>
  cond b18
  (cond b26
  ((callS run_faa [.one (Cell.int (s1.size : Int)), .one (Cell.int (s2.size : Int))] []).bind fun r27 =>
  cond (shapeOk rk_faa r27)
  ((cI .i64 (cellsAt r27 0) 0).bind fun i28 =>
  (callS run_fab [.one (Cell.str s1), .one (Cell.str s2)] []).bind fun r29 =>
  cond (shapeOk rk_fab r29)
  ((cI .i64 (cellsAt r29 0) 0).bind fun i30 =>
  (callS run_fac [.one (.lst true 1 [[Cell.int i28], [Cell.int i30]])] []).bind fun r31 =>
  cond (shapeOk rk_fac r31)
  ((cI .i64 (cellsAt r31 0) 0).bind fun i32 =>
  some ([.one (Cell.int i32)], []))
  none)
  none)
  none)
  (cond b18
  (some ([.one (Cell.int (-1))], []))
  (cond b26
  (some ([.one (Cell.int 1)], []))
  ((callS run_fab [.one (Cell.str s1), .one (Cell.str s2)] []).bind fun r33 =>
  cond (shapeOk rk_fab r33)
  ((cI .i64 (cellsAt r33 0) 0).bind fun i34 =>
  some ([.one (Cell.int i34)], []))
  none))))
  (cond b18
  (some ([.one (Cell.int (-1))], []))
  (cond b26
  (some ([.one (Cell.int 1)], []))
  ((callS run_fab [.one (Cell.str s1), .one (Cell.str s2)] []).bind fun r35 =>
  cond (shapeOk rk_fab r35)
  ((cI .i64 (cellsAt r35 0) 0).bind fun i36 =>
  some ([.one (Cell.int i36)], []))
  none))))
  none))
  none)
theorem fau_code (k m : Nat) (s1 : ByteArray) (s2 : ByteArray) : evC G_fau fi_fau (evF G_fau (k + 1)) m fi_fau.code none (retK G_fau fi_fau) (enter fi_fau [.one (Cell.str s1), .one (Cell.str s2)] []) = fau (k + 1) m s1 s2 := by
  kernel_rfl
theorem fau_eq (k : Nat) (s1 : ByteArray) (s2 : ByteArray) : evF G_fau (k + 2) fid_fau [.one (Cell.str s1), .one (Cell.str s2)] [] = fau (k + 1) (k + 1) s1 s2 :=
  Eq.trans (by kernel_rfl) (fau_code k (k + 1) s1 s2)
theorem run_fau_of {s1 : ByteArray} {s2 : ByteArray} {r : Res} (k : Nat) (h : fau (k + 1) (k + 1) s1 s2 = some r) : run_fau [.one (Cell.str s1), .one (Cell.str s2)] [] = some r := lim_of ((fau_eq k s1 s2).trans h)
noncomputable def pl_fcr : List (Nat × Run) := [(fid_fau, run_fau)]
noncomputable def G_fcr : Ctx := ctx tyTab fiTab pl_fcr
noncomputable def run_fcr : Run := lim G_fcr fid_fcr
theorem ok_fcr : FnOk Tryz.prog OkT fid_fcr run_fcr := lim_ok (l := pl_fcr) Tryz_mix tyTab_ok fiTab_ok okT (.cons ok_fau .nil) fid_fcr
noncomputable def slices_CompareFunc_string_fau_l0 (k m : Nat) : Nat → Cell → Cell → Cell → Int → Int → List Entry → Option Res
  | 0, _, _, _, _, _, _ => none
  | n + 1, c4, c5, c6, i7, i8, H9 =>
    cond (decide (i8 < i7))
    ((idxA 1 (c6) i8).bind fun c10 =>
    (deref H9 (c10)).bind fun p11 =>
    (cS p11.1 p11.2).bind fun s12 =>
    (lenC c5).bind fun n13 =>
    cond (decide (i8 ≥ (n13 : Int)))
    (some ([.one (Cell.int 1)], H9))
    ((idxA 1 (c5) i8).bind fun c14 =>
    (deref H9 (c14)).bind fun p15 =>
    (cS p15.1 p15.2).bind fun s16 =>
    (callS run_fau [.one (Cell.str s12), .one (Cell.str s16)] H9).bind fun r17 =>
    cond (shapeOk rk_fau r17)
    ((cI .i64 (cellsAt r17 0) 0).bind fun i18 =>
    cond (i18 != 0)
    (some ([.one (Cell.int i18)], H9))
    (slices_CompareFunc_string_fau_l0 k m n (c4) (c5) (c6) i7 (IntKind.i64.wrap (i8 + 1)) H9))
    none))
    ((lenC c4).bind fun n19 =>
    (lenC c5).bind fun n20 =>
    cond (decide ((n19 : Int) < (n20 : Int)))
    (some ([.one (Cell.int (-1))], H9))
    (some ([.one (Cell.int 0)], H9)))
noncomputable def slices_CompareFunc_string_fau (k m : Nat) (c1 : Cell) (c2 : Cell) (H : List Entry) : Option Res :=
  (lenC c1).bind fun n3 =>
  slices_CompareFunc_string_fau_l0 k m m (c1) (c2) (c1) (n3 : Int) 0 H
noncomputable abbrev slices_CompareFunc_string_fau_l0_B (k m : Nat) : (Ex → Fr → Option Res) → Fr → Option Res := evC G_fcr fi_fcr (evF G_fcr (k + 1)) m (sub [1, 0, 1, 2, 3] fi_fcr.code) none
noncomputable abbrev slices_CompareFunc_string_fau_l0_K (k m : Nat) : Ex → Fr → Option Res := blockK 0 (seqK (evC G_fcr fi_fcr (evF G_fcr (k + 1)) m (sub [1, 1] fi_fcr.code) none) (retK G_fcr fi_fcr))
theorem slices_CompareFunc_string_fau_l0_eq (k m : Nat) : ∀ (n : Nat) (c4 : Cell) (c5 : Cell) (c6 : Cell) (i7 : Int) (i8 : Int) (H9 : List Entry), loopK (some [0, 1, 2, 11, 12, 13]) (slices_CompareFunc_string_fau_l0_B k m) (slices_CompareFunc_string_fau_l0_K k m) n ⟨fT 39 0 [(0, .av (.one (c4))), (1, .av (.one (c5))), (2, .av (.one (.fn fid_fau [] []))), (11, .av (.one (c6))), (12, .av (.one (Cell.int i7))), (13, .av (.one (Cell.int i8)))], fX 39 0 [], H9⟩ = slices_CompareFunc_string_fau_l0 (k + 1) m n c4 c5 c6 i7 i8 H9 := by
  intro n
  induction n with
  | zero => intros; rfl
  | succ n ih =>
    intros
    simp only [slices_CompareFunc_string_fau_l0, ← ih]
    kernel_rfl
theorem slices_CompareFunc_string_fau_code (k m : Nat) (c1 : Cell) (c2 : Cell) (H : List Entry) : evC G_fcr fi_fcr (evF G_fcr (k + 1)) m fi_fcr.code none (retK G_fcr fi_fcr) (enter fi_fcr [.one (c1), .one (c2), .one (.fn fid_fau [] [])] H) = slices_CompareFunc_string_fau (k + 1) m c1 c2 H := by
  simp only [slices_CompareFunc_string_fau, ← slices_CompareFunc_string_fau_l0_eq k m]
  kernel_rfl
theorem slices_CompareFunc_string_fau_eq (k : Nat) (c1 : Cell) (c2 : Cell) (H : List Entry) : evF G_fcr (k + 2) fid_fcr [.one (c1), .one (c2), .one (.fn fid_fau [] [])] H = slices_CompareFunc_string_fau (k + 1) (k + 1) c1 c2 H :=
  Eq.trans (by kernel_rfl) (slices_CompareFunc_string_fau_code k (k + 1) c1 c2 H)
theorem run_slices_CompareFunc_string_fau_of {c1 : Cell} {c2 : Cell} {H : List Entry} {r : Res} (k : Nat) (h : slices_CompareFunc_string_fau (k + 1) (k + 1) c1 c2 H = some r) : run_fcr [.one (c1), .one (c2), .one (.fn fid_fau [] [])] H = some r := lim_of ((slices_CompareFunc_string_fau_eq k c1 c2 H).trans h)
noncomputable def pl_fat : List (Nat × Run) := [(fid_fac, run_fac), (fid_faa, run_faa), (fid_fcr, run_fcr), (fid_fau, run_fau)]
noncomputable def G_fat : Ctx := ctx tyTab fiTab pl_fat
noncomputable def run_fat : Run := lim G_fat fid_fat
theorem ok_fat : FnOk Tryz.prog OkT fid_fat run_fat := lim_ok (l := pl_fat) Tryz_mix tyTab_ok fiTab_ok okT (.cons ok_fac (.cons ok_faa (.cons ok_fcr (.cons ok_fau .nil)))) fid_fat
noncomputable def fat (k m : Nat) (i1 : Int) (i2 : Int) (i3 : Int) (c4 : Cell) (i5 : Int) (i6 : Int) (i7 : Int) (c8 : Cell) : Option Res :=
  (callS run_faa [.one (Cell.int i1), .one (Cell.int i5)] []).bind fun r9 =>
  cond (shapeOk rk_faa r9)
  ((cI .i64 (cellsAt r9 0) 0).bind fun i10 =>
  (callS run_faa [.one (Cell.int i2), .one (Cell.int i6)] []).bind fun r11 =>
  cond (shapeOk rk_faa r11)
  ((cI .i64 (cellsAt r11 0) 0).bind fun i12 =>
  (callS run_faa [.one (Cell.int i3), .one (Cell.int i7)] []).bind fun r13 =>
  cond (shapeOk rk_faa r13)
  ((cI .i64 (cellsAt r13 0) 0).bind fun i14 =>
  (callS run_fac [.one (.lst true 1 [[Cell.int i10], [Cell.int i12], [Cell.int i14]])] []).bind fun r15 =>
  cond (shapeOk rk_fac r15)
  ((cI .i64 (cellsAt r15 0) 0).bind fun i16 =>
  cond (i16 != 0)
  (some ([.one (Cell.int i16)], []))
  ((lenC c4).bind fun n17 =>
  (lenC c8).bind fun n18 =>
  cond (!(((n17 : Int) == 0) == ((n18 : Int) == 0)))
  ((lenC c4).bind fun n19 =>
  cond (decide ((n19 : Int) > 0))
  (some ([.one (Cell.int (-1))], []))
  (some ([.one (Cell.int 1)], [])))
  ((run_fcr [.one (c4), .one (c8), .one (.fn fid_fau [] [])] []).bind fun r20 =>
  cond (shapeOk rk_fcr r20.1)
  ((cI .i64 (cellsAt r20.1 0) 0).bind fun i21 =>
  some ([.one (Cell.int i21)], r20.2))
  none)))
  none)
  none)
  none)
  none
theorem fat_code (k m : Nat) (i1 : Int) (i2 : Int) (i3 : Int) (c4 : Cell) (i5 : Int) (i6 : Int) (i7 : Int) (c8 : Cell) : evC G_fat fi_fat (evF G_fat (k + 1)) m fi_fat.code none (retK G_fat fi_fat) (enter fi_fat [.agg [Cell.int i1, Cell.int i2, Cell.int i3, c4], .agg [Cell.int i5, Cell.int i6, Cell.int i7, c8]] []) = fat (k + 1) m i1 i2 i3 c4 i5 i6 i7 c8 := by
  kernel_rfl
theorem fat_eq (k : Nat) (i1 : Int) (i2 : Int) (i3 : Int) (c4 : Cell) (i5 : Int) (i6 : Int) (i7 : Int) (c8 : Cell) : evF G_fat (k + 2) fid_fat [.agg [Cell.int i1, Cell.int i2, Cell.int i3, c4], .agg [Cell.int i5, Cell.int i6, Cell.int i7, c8]] [] = fat (k + 1) (k + 1) i1 i2 i3 c4 i5 i6 i7 c8 :=
  Eq.trans (by kernel_rfl) (fat_code k (k + 1) i1 i2 i3 c4 i5 i6 i7 c8)
theorem run_fat_of {i1 : Int} {i2 : Int} {i3 : Int} {c4 : Cell} {i5 : Int} {i6 : Int} {i7 : Int} {c8 : Cell} {r : Res} (k : Nat) (h : fat (k + 1) (k + 1) i1 i2 i3 c4 i5 i6 i7 c8 = some r) : run_fat [.agg [Cell.int i1, Cell.int i2, Cell.int i3, c4], .agg [Cell.int i5, Cell.int i6, Cell.int i7, c8]] [] = some r := lim_of ((fat_eq k i1 i2 i3 c4 i5 i6 i7 c8).trans h)
noncomputable def pl_faf : List (Nat × Run) := [(fid_fat, run_fat)]
noncomputable def G_faf : Ctx := ctx tyTab fiTab pl_faf
noncomputable def run_faf : Run := lim G_faf fid_faf
theorem ok_faf : FnOk Tryz.prog OkT fid_faf run_faf := lim_ok (l := pl_faf) Tryz_mix tyTab_ok fiTab_ok okT (.cons ok_fat .nil) fid_faf
noncomputable def faf (k m : Nat) (i1 : Int) (i2 : Int) (i3 : Int) (i4 : Int) (c5 : Cell) (i6 : Int) (i7 : Int) (i8 : Int) (c9 : Cell) : Option Res :=
  (callS run_fat [.agg [Cell.int i6, Cell.int i7, Cell.int i8, c9], .agg [Cell.int i2, Cell.int i3, Cell.int i4, c5]] []).bind fun r10 =>
  cond (shapeOk rk_fat r10)
  ((cI .i64 (cellsAt r10 0) 0).bind fun i11 =>
  cond (i1 == 0)
  (some ([.one (Cell.bool (i11 == 0))], []))
  (cond (i1 == 1)
  (some ([.one (Cell.bool (decide (i11 < 0)))], []))
  (cond (i1 == 2)
  (some ([.one (Cell.bool (decide (i11 ≤ 0)))], []))
  (cond (i1 == 3)
  (some ([.one (Cell.bool (decide (i11 > 0)))], []))
  (cond (i1 == 4)
  (some ([.one (Cell.bool (decide (i11 ≥ 0)))], []))
  (some ([.one (Cell.bool false)], [])))))))
  none
theorem faf_code (k m : Nat) (i1 : Int) (i2 : Int) (i3 : Int) (i4 : Int) (c5 : Cell) (i6 : Int) (i7 : Int) (i8 : Int) (c9 : Cell) : evC G_faf fi_faf (evF G_faf (k + 1)) m fi_faf.code none (retK G_faf fi_faf) (enter fi_faf [.agg [Cell.int i1, Cell.int i2, Cell.int i3, Cell.int i4, c5], .agg [Cell.int i6, Cell.int i7, Cell.int i8, c9]] []) = faf (k + 1) m i1 i2 i3 i4 c5 i6 i7 i8 c9 := by
  kernel_rfl
theorem faf_eq (k : Nat) (i1 : Int) (i2 : Int) (i3 : Int) (i4 : Int) (c5 : Cell) (i6 : Int) (i7 : Int) (i8 : Int) (c9 : Cell) : evF G_faf (k + 2) fid_faf [.agg [Cell.int i1, Cell.int i2, Cell.int i3, Cell.int i4, c5], .agg [Cell.int i6, Cell.int i7, Cell.int i8, c9]] [] = faf (k + 1) (k + 1) i1 i2 i3 i4 c5 i6 i7 i8 c9 :=
  Eq.trans (by kernel_rfl) (faf_code k (k + 1) i1 i2 i3 i4 c5 i6 i7 i8 c9)
theorem run_faf_of {i1 : Int} {i2 : Int} {i3 : Int} {i4 : Int} {c5 : Cell} {i6 : Int} {i7 : Int} {i8 : Int} {c9 : Cell} {r : Res} (k : Nat) (h : faf (k + 1) (k + 1) i1 i2 i3 i4 c5 i6 i7 i8 c9 = some r) : run_faf [.agg [Cell.int i1, Cell.int i2, Cell.int i3, Cell.int i4, c5], .agg [Cell.int i6, Cell.int i7, Cell.int i8, c9]] [] = some r := lim_of ((faf_eq k i1 i2 i3 i4 c5 i6 i7 i8 c9).trans h)
noncomputable def pl_fbi : List (Nat × Run) := [(fid_faf, run_faf)]
noncomputable def G_fbi : Ctx := ctx tyTab fiTab pl_fbi
noncomputable def run_fbi : Run := lim G_fbi fid_fbi
theorem ok_fbi : FnOk Tryz.prog OkT fid_fbi run_fbi := lim_ok (l := pl_fbi) Tryz_mix tyTab_ok fiTab_ok okT (.cons ok_faf .nil) fid_fbi
noncomputable def fbi_l0 (k m : Nat) : Nat → Bool → Cell → Int → Int → Int → Int → Int → Cell → Option Res
  | 0, _, _, _, _, _, _, _, _ => none
  | n + 1, b8, c9, i10, i11, i12, i13, i14, c15 =>
    cond (decide (i11 < i10))
    ((idxA 5 (c9) i11).bind fun c16 =>
    (deref [] (c16)).bind fun p17 =>
    (cI .i64 p17.1 p17.2).bind fun i18 =>
    (cI .i64 p17.1 (p17.2 + 1)).bind fun i19 =>
    (cI .i64 p17.1 ((p17.2 + 1) + 1)).bind fun i20 =>
    (cI .i64 p17.1 (((p17.2 + 1) + 1) + 1)).bind fun i21 =>
    (cC p17.1 ((((p17.2 + 1) + 1) + 1) + 1)).bind fun c22 =>
    (callS run_faf [.agg [Cell.int i18, Cell.int i19, Cell.int i20, Cell.int i21, c22], .agg [Cell.int i12, Cell.int i13, Cell.int i14, c15]] []).bind fun r23 =>
    cond (shapeOk rk_faf r23)
    ((cB (cellsAt r23 0) 0).bind fun b24 =>
    cond (!b24)
    (some ([.one (Cell.bool false)], []))
    (cond b8
    (fbi_l0 k m n true (c9) i10 (IntKind.i64.wrap (i11 + 1)) i12 i13 i14 (c15))
    ((lenC c22).bind fun n25 =>
    cond (decide ((n25 : Int) > 0))
    (cond (i19 == i12)
    (cond (i20 == i13)
    (fbi_l0 k m n (i21 == i14) (c9) i10 (IntKind.i64.wrap (i11 + 1)) i12 i13 i14 (c15))
    (fbi_l0 k m n false (c9) i10 (IntKind.i64.wrap (i11 + 1)) i12 i13 i14 (c15)))
    (fbi_l0 k m n false (c9) i10 (IntKind.i64.wrap (i11 + 1)) i12 i13 i14 (c15)))
    (fbi_l0 k m n false (c9) i10 (IntKind.i64.wrap (i11 + 1)) i12 i13 i14 (c15)))))
    none)
    (some ([.one (Cell.bool b8)], []))
noncomputable def fbi (k m : Nat) (c1 : Cell) (i2 : Int) (i3 : Int) (i4 : Int) (c5 : Cell) : Option Res :=
  (lenC c5).bind fun n6 =>
  (lenC c1).bind fun n7 =>
  fbi_l0 k m m ((n6 : Int) == 0) (c1) (n7 : Int) 0 i2 i3 i4 (c5)
noncomputable abbrev fbi_l0_B (k m : Nat) : (Ex → Fr → Option Res) → Fr → Option Res := evC G_fbi fi_fbi (evF G_fbi (k + 1)) m (sub [1, 1, 0, 1, 2, 3] fi_fbi.code) none
noncomputable abbrev fbi_l0_K (k m : Nat) : Ex → Fr → Option Res := blockK 0 (seqK (evC G_fbi fi_fbi (evF G_fbi (k + 1)) m (sub [1, 1, 1] fi_fbi.code) none) (retK G_fbi fi_fbi))
theorem fbi_l0_eq (k m : Nat) : ∀ (n : Nat) (b8 : Bool) (c9 : Cell) (i10 : Int) (i11 : Int) (i12 : Int) (i13 : Int) (i14 : Int) (c15 : Cell), loopK (some [3, 5, 12, 13, 14]) (fbi_l0_B k m) (fbi_l0_K k m) n ⟨fT 56 0 [(3, .loc 3 0), (5, .av (.one (Cell.bool b8))), (12, .av (.one (c9))), (13, .av (.one (Cell.int i10))), (14, .av (.one (Cell.int i11)))], fX 56 0 [(3, [Cell.int i12, Cell.int i13, Cell.int i14, c15])], []⟩ = fbi_l0 (k + 1) m n b8 c9 i10 i11 i12 i13 i14 c15 := by
  intro n
  induction n with
  | zero => intros; rfl
  | succ n ih =>
    intros
    simp only [fbi_l0, ← ih]
    kernel_rfl
theorem fbi_code (k m : Nat) (c1 : Cell) (i2 : Int) (i3 : Int) (i4 : Int) (c5 : Cell) : evC G_fbi fi_fbi (evF G_fbi (k + 1)) m fi_fbi.code none (retK G_fbi fi_fbi) (enter fi_fbi [.one (c1), .agg [Cell.int i2, Cell.int i3, Cell.int i4, c5]] []) = fbi (k + 1) m c1 i2 i3 i4 c5 := by
  simp only [fbi, ← fbi_l0_eq k m]
  kernel_rfl
theorem fbi_eq (k : Nat) (c1 : Cell) (i2 : Int) (i3 : Int) (i4 : Int) (c5 : Cell) : evF G_fbi (k + 2) fid_fbi [.one (c1), .agg [Cell.int i2, Cell.int i3, Cell.int i4, c5]] [] = fbi (k + 1) (k + 1) c1 i2 i3 i4 c5 :=
  Eq.trans (by kernel_rfl) (fbi_code k (k + 1) c1 i2 i3 i4 c5)
theorem run_fbi_of {c1 : Cell} {i2 : Int} {i3 : Int} {i4 : Int} {c5 : Cell} {r : Res} (k : Nat) (h : fbi (k + 1) (k + 1) c1 i2 i3 i4 c5 = some r) : run_fbi [.one (c1), .agg [Cell.int i2, Cell.int i3, Cell.int i4, c5]] [] = some r := lim_of ((fbi_eq k c1 i2 i3 i4 c5).trans h)
noncomputable def pl_fag : List (Nat × Run) := [(fid_fao, run_fao), (fid_fbi, run_fbi)]
noncomputable def G_fag : Ctx := ctx tyTab fiTab pl_fag
noncomputable def run_fag : Run := lim G_fag fid_fag
theorem ok_fag : FnOk Tryz.prog OkT fid_fag run_fag := lim_ok (l := pl_fag) Tryz_mix tyTab_ok fiTab_ok okT (.cons ok_fao (.cons ok_fbi .nil)) fid_fag
noncomputable def fag_l0 (k m : Nat) : Nat → Cell → Int → Int → Int → Int → Int → Cell → Option Res
  | 0, _, _, _, _, _, _, _ => none
  | n + 1, c9, i10, i11, i12, i13, i14, c15 =>
    cond (decide (i11 < i10))
    ((idxA 1 (c9) i11).bind fun c16 =>
    (deref [] (c16)).bind fun p17 =>
    (cC p17.1 p17.2).bind fun c18 =>
    (callS run_fbi [.one (c18), .agg [Cell.int i12, Cell.int i13, Cell.int i14, c15]] []).bind fun r19 =>
    cond (shapeOk rk_fbi r19)
    ((cB (cellsAt r19 0) 0).bind fun b20 =>
    cond b20
    (some ([.one (Cell.bool true)], []))
    (fag_l0 k m n (c9) i10 (IntKind.i64.wrap (i11 + 1)) i12 i13 i14 (c15)))
    none)
    (some ([.one (Cell.bool false)], []))
noncomputable def fag (k m : Nat) (c1 : Cell) (i2 : Int) (i3 : Int) (i4 : Int) (c5 : Cell) : Option Res :=
  (callS run_fao [.agg [Cell.int i2, Cell.int i3, Cell.int i4, c5]] []).bind fun r6 =>
  cond (shapeOk rk_fao r6)
  ((cB (cellsAt r6 0) 0).bind fun b7 =>
  cond (!b7)
  (some ([.one (Cell.bool false)], []))
  ((lenC c1).bind fun n8 =>
  fag_l0 k m m (c1) (n8 : Int) 0 i2 i3 i4 (c5)))
  none
noncomputable abbrev fag_l0_B (k m : Nat) : (Ex → Fr → Option Res) → Fr → Option Res := evC G_fag fi_fag (evF G_fag (k + 1)) m (sub [1, 1, 0, 1, 2, 3] fi_fag.code) none
noncomputable abbrev fag_l0_K (k m : Nat) : Ex → Fr → Option Res := blockK 0 (seqK (evC G_fag fi_fag (evF G_fag (k + 1)) m (sub [1, 1, 1] fi_fag.code) none) (retK G_fag fi_fag))
theorem fag_l0_eq (k m : Nat) : ∀ (n : Nat) (c9 : Cell) (i10 : Int) (i11 : Int) (i12 : Int) (i13 : Int) (i14 : Int) (c15 : Cell), loopK (some [3, 10, 11, 12]) (fag_l0_B k m) (fag_l0_K k m) n ⟨fT 20 0 [(3, .loc 3 0), (10, .av (.one (c9))), (11, .av (.one (Cell.int i10))), (12, .av (.one (Cell.int i11)))], fX 20 0 [(3, [Cell.int i12, Cell.int i13, Cell.int i14, c15])], []⟩ = fag_l0 (k + 1) m n c9 i10 i11 i12 i13 i14 c15 := by
  intro n
  induction n with
  | zero => intros; rfl
  | succ n ih =>
    intros
    simp only [fag_l0, ← ih]
    kernel_rfl
theorem fag_code (k m : Nat) (c1 : Cell) (i2 : Int) (i3 : Int) (i4 : Int) (c5 : Cell) : evC G_fag fi_fag (evF G_fag (k + 1)) m fi_fag.code none (retK G_fag fi_fag) (enter fi_fag [.one (c1), .agg [Cell.int i2, Cell.int i3, Cell.int i4, c5]] []) = fag (k + 1) m c1 i2 i3 i4 c5 := by
  simp only [fag, ← fag_l0_eq k m]
  kernel_rfl
theorem fag_eq (k : Nat) (c1 : Cell) (i2 : Int) (i3 : Int) (i4 : Int) (c5 : Cell) : evF G_fag (k + 2) fid_fag [.one (c1), .agg [Cell.int i2, Cell.int i3, Cell.int i4, c5]] [] = fag (k + 1) (k + 1) c1 i2 i3 i4 c5 :=
  Eq.trans (by kernel_rfl) (fag_code k (k + 1) c1 i2 i3 i4 c5)
theorem run_fag_of {c1 : Cell} {i2 : Int} {i3 : Int} {i4 : Int} {c5 : Cell} {r : Res} (k : Nat) (h : fag (k + 1) (k + 1) c1 i2 i3 i4 c5 = some r) : run_fag [.one (c1), .agg [Cell.int i2, Cell.int i3, Cell.int i4, c5]] [] = some r := lim_of ((fag_eq k c1 i2 i3 i4 c5).trans h)
noncomputable def pl_fah : List (Nat × Run) := [(fid_fak, run_fak), (fid_fag, run_fag)]
noncomputable def G_fah : Ctx := ctx tyTab fiTab pl_fah
noncomputable def run_fah : Run := lim G_fah fid_fah
theorem ok_fah : FnOk Tryz.prog OkT fid_fah run_fah := lim_ok (l := pl_fah) Tryz_mix tyTab_ok fiTab_ok okT (.cons ok_fak (.cons ok_fag .nil)) fid_fah
noncomputable def fah (k m : Nat) (s1 : ByteArray) (s2 : ByteArray) (i3 : Int) (i4 : Int) (i5 : Int) (c6 : Cell) : Option Res :=
  (callL run_fak [.one (Cell.str s2)] []).bind fun r7 =>
  cond (shapeOk rk_fak r7.1)
  ((cC (cellsAt r7.1 0) 0).bind fun c8 =>
  (cB (cellsAt r7.1 1) 0).bind fun b9 =>
  cond b9
  ((callS run_fag [.one (c8), .agg [Cell.int i3, Cell.int i4, Cell.int i5, c6]] r7.2).bind fun r10 =>
  cond (shapeOk rk_fag r10)
  ((cB (cellsAt r10 0) 0).bind fun b11 =>
  some ([.one (Cell.bool b11)], r7.2))
  none)
  (some ([.one (Cell.bool false)], r7.2)))
  none
theorem fah_code (k m : Nat) (s1 : ByteArray) (s2 : ByteArray) (i3 : Int) (i4 : Int) (i5 : Int) (c6 : Cell) : evC G_fah fi_fah (evF G_fah (k + 1)) m fi_fah.code none (retK G_fah fi_fah) (enter fi_fah [.agg [Cell.str s1, Cell.str s2], .agg [Cell.int i3, Cell.int i4, Cell.int i5, c6]] []) = fah (k + 1) m s1 s2 i3 i4 i5 c6 := by
  kernel_rfl
theorem fah_eq (k : Nat) (s1 : ByteArray) (s2 : ByteArray) (i3 : Int) (i4 : Int) (i5 : Int) (c6 : Cell) : evF G_fah (k + 2) fid_fah [.agg [Cell.str s1, Cell.str s2], .agg [Cell.int i3, Cell.int i4, Cell.int i5, c6]] [] = fah (k + 1) (k + 1) s1 s2 i3 i4 i5 c6 :=
  Eq.trans (by kernel_rfl) (fah_code k (k + 1) s1 s2 i3 i4 i5 c6)
theorem run_fah_of {s1 : ByteArray} {s2 : ByteArray} {i3 : Int} {i4 : Int} {i5 : Int} {c6 : Cell} {r : Res} (k : Nat) (h : fah (k + 1) (k + 1) s1 s2 i3 i4 i5 c6 = some r) : run_fah [.agg [Cell.str s1, Cell.str s2], .agg [Cell.int i3, Cell.int i4, Cell.int i5, c6]] [] = some r := lim_of ((fah_eq k s1 s2 i3 i4 i5 c6).trans h)
noncomputable def pl_fbc : List (Nat × Run) := [(fid_fbf, run_fbf), (fid_fah, run_fah)]
noncomputable def G_fbc : Ctx := ctx tyTab fiTab pl_fbc
noncomputable def run_fbc : Run := lim G_fbc fid_fbc
theorem ok_fbc : FnOk Tryz.prog OkT fid_fbc run_fbc := lim_ok (l := pl_fbc) Tryz_mix tyTab_ok fiTab_ok okT (.cons ok_fbf (.cons ok_fah .nil)) fid_fbc
noncomputable def fbc_l0 (k m : Nat) : Nat → Cell → Cell → Int → Int → Option Res
  | 0, _, _, _, _ => none
  | n + 1, c4, c5, i6, i7 =>
    cond (decide (i7 < i6))
    ((idxA 2 (c5) i7).bind fun c8 =>
    (deref [] (c8)).bind fun p9 =>
    (cS p9.1 p9.2).bind fun s10 =>
    (cS p9.1 (p9.2 + 1)).bind fun s11 =>
    (callS run_fbf [.one (c4), .one (Cell.str s10)] []).bind fun r12 =>
    cond (shapeOk rk_fbf r12)
    ((cI .i64 (cellsAt r12 0) 0).bind fun i13 =>
    cond (decide (i13 < 0))
    (some ([.one (Cell.bool false)], []))
    ((idxA 5 (c4) i13).bind fun c14 =>
    (fldA c14 1).bind fun c15 =>
    (deref [] (c15)).bind fun p16 =>
    (cI .i64 p16.1 p16.2).bind fun i17 =>
    (cI .i64 p16.1 (p16.2 + 1)).bind fun i18 =>
    (cI .i64 p16.1 ((p16.2 + 1) + 1)).bind fun i19 =>
    (cC p16.1 (((p16.2 + 1) + 1) + 1)).bind fun c20 =>
    (callS run_fah [.agg [Cell.str s10, Cell.str s11], .agg [Cell.int i17, Cell.int i18, Cell.int i19, c20]] []).bind fun r21 =>
    cond (shapeOk rk_fah r21)
    ((cB (cellsAt r21 0) 0).bind fun b22 =>
    cond (!b22)
    (some ([.one (Cell.bool false)], []))
    (fbc_l0 k m n (c4) (c5) i6 (IntKind.i64.wrap (i7 + 1))))
    none))
    none)
    (some ([.one (Cell.bool true)], []))
noncomputable def fbc (k m : Nat) (c1 : Cell) (c2 : Cell) : Option Res :=
  (lenC c1).bind fun n3 =>
  fbc_l0 k m m (c2) (c1) (n3 : Int) 0
noncomputable abbrev fbc_l0_B (k m : Nat) : (Ex → Fr → Option Res) → Fr → Option Res := evC G_fbc fi_fbc (evF G_fbc (k + 1)) m (sub [1, 0, 1, 2, 3] fi_fbc.code) none
noncomputable abbrev fbc_l0_K (k m : Nat) : Ex → Fr → Option Res := blockK 0 (seqK (evC G_fbc fi_fbc (evF G_fbc (k + 1)) m (sub [1, 1] fi_fbc.code) none) (retK G_fbc fi_fbc))
theorem fbc_l0_eq (k m : Nat) : ∀ (n : Nat) (c4 : Cell) (c5 : Cell) (i6 : Int) (i7 : Int), loopK (some [1, 8, 9, 10]) (fbc_l0_B k m) (fbc_l0_K k m) n ⟨fT 31 0 [(1, .av (.one (c4))), (8, .av (.one (c5))), (9, .av (.one (Cell.int i6))), (10, .av (.one (Cell.int i7)))], fX 31 0 [], []⟩ = fbc_l0 (k + 1) m n c4 c5 i6 i7 := by
  intro n
  induction n with
  | zero => intros; rfl
  | succ n ih =>
    intros
    simp only [fbc_l0, ← ih]
    kernel_rfl
theorem fbc_code (k m : Nat) (c1 : Cell) (c2 : Cell) : evC G_fbc fi_fbc (evF G_fbc (k + 1)) m fi_fbc.code none (retK G_fbc fi_fbc) (enter fi_fbc [.one (c1), .one (c2)] []) = fbc (k + 1) m c1 c2 := by
  simp only [fbc, ← fbc_l0_eq k m]
  kernel_rfl
theorem fbc_eq (k : Nat) (c1 : Cell) (c2 : Cell) : evF G_fbc (k + 2) fid_fbc [.one (c1), .one (c2)] [] = fbc (k + 1) (k + 1) c1 c2 :=
  Eq.trans (by kernel_rfl) (fbc_code k (k + 1) c1 c2)
theorem run_fbc_of {c1 : Cell} {c2 : Cell} {r : Res} (k : Nat) (h : fbc (k + 1) (k + 1) c1 c2 = some r) : run_fbc [.one (c1), .one (c2)] [] = some r := lim_of ((fbc_eq k c1 c2).trans h)
noncomputable def pl_fan : List (Nat × Run) := [(fid_fav, run_fav), (fid_fbf, run_fbf), (fid_fbc, run_fbc)]
noncomputable def G_fan : Ctx := ctx tyTab fiTab pl_fan
noncomputable def run_fan : Run := lim G_fan fid_fan
theorem ok_fan : FnOk Tryz.prog OkT fid_fan run_fan := lim_ok (l := pl_fan) Tryz_mix tyTab_ok fiTab_ok okT (.cons ok_fav (.cons ok_fbf (.cons ok_fbc .nil))) fid_fan
noncomputable def fan_l0 (k m : Nat) : Nat → Cell → Cell → Cell → Cell → Int → Int → Option Res
  | 0, _, _, _, _, _, _ => none
  | n + 1, c5, c6, c7, c8, i9, i10 =>
    cond (decide (i10 < i9))
    ((idxA 5 (c8) i10).bind fun c11 =>
    (deref [] (c11)).bind fun p12 =>
    (cS p12.1 p12.2).bind fun s13 =>
    (cI .i64 p12.1 (p12.2 + 1)).bind fun i14 =>
    (cI .i64 p12.1 ((p12.2 + 1) + 1)).bind fun i15 =>
    (cI .i64 p12.1 (((p12.2 + 1) + 1) + 1)).bind fun i16 =>
    (cC p12.1 ((((p12.2 + 1) + 1) + 1) + 1)).bind fun c17 =>
    (callS run_fav [.one (c5), .one (Cell.str s13), .agg [Cell.int i14, Cell.int i15, Cell.int i16, c17]] []).bind fun r18 =>
    cond (shapeOk rk_fav r18)
    ((cI .i64 (cellsAt r18 0) 0).bind fun i19 =>
    cond (decide (i19 < 0))
    (some ([.one (Cell.bool false)], []))
    ((callS run_fbf [.one (c7), .one (Cell.str s13)] []).bind fun r20 =>
    cond (shapeOk rk_fbf r20)
    ((cI .i64 (cellsAt r20 0) 0).bind fun i21 =>
    cond (i21 != i10)
    (some ([.one (Cell.bool false)], []))
    ((idxA 6 (c5) i19).bind fun c22 =>
    (fldA c22 5).bind fun c23 =>
    (deref [] (c23)).bind fun p24 =>
    (cC p24.1 p24.2).bind fun c25 =>
    (callS run_fbc [.one (c25), .one (c7)] []).bind fun r26 =>
    cond (shapeOk rk_fbc r26)
    ((cB (cellsAt r26 0) 0).bind fun b27 =>
    cond (!b27)
    (some ([.one (Cell.bool false)], []))
    (fan_l0 k m n (c5) (c6) (c7) (c8) i9 (IntKind.i64.wrap (i10 + 1))))
    none))
    none))
    none)
    ((callS run_fbc [.one (c6), .one (c7)] []).bind fun r28 =>
    cond (shapeOk rk_fbc r28)
    ((cB (cellsAt r28 0) 0).bind fun b29 =>
    some ([.one (Cell.bool b29)], []))
    none)
noncomputable def fan (k m : Nat) (c1 : Cell) (c2 : Cell) (c3 : Cell) : Option Res :=
  (lenC c3).bind fun n4 =>
  fan_l0 k m m (c1) (c2) (c3) (c3) (n4 : Int) 0
noncomputable abbrev fan_l0_B (k m : Nat) : (Ex → Fr → Option Res) → Fr → Option Res := evC G_fan fi_fan (evF G_fan (k + 1)) m (sub [1, 0, 1, 2, 3] fi_fan.code) none
noncomputable abbrev fan_l0_K (k m : Nat) : Ex → Fr → Option Res := blockK 0 (seqK (evC G_fan fi_fan (evF G_fan (k + 1)) m (sub [1, 1] fi_fan.code) none) (retK G_fan fi_fan))
theorem fan_l0_eq (k m : Nat) : ∀ (n : Nat) (c5 : Cell) (c6 : Cell) (c7 : Cell) (c8 : Cell) (i9 : Int) (i10 : Int), loopK (some [0, 1, 2, 10, 11, 12]) (fan_l0_B k m) (fan_l0_K k m) n ⟨fT 47 0 [(0, .av (.one (c5))), (1, .av (.one (c6))), (2, .av (.one (c7))), (10, .av (.one (c8))), (11, .av (.one (Cell.int i9))), (12, .av (.one (Cell.int i10)))], fX 47 0 [], []⟩ = fan_l0 (k + 1) m n c5 c6 c7 c8 i9 i10 := by
  intro n
  induction n with
  | zero => intros; rfl
  | succ n ih =>
    intros
    simp only [fan_l0, ← ih]
    kernel_rfl
theorem fan_code (k m : Nat) (c1 : Cell) (c2 : Cell) (c3 : Cell) : evC G_fan fi_fan (evF G_fan (k + 1)) m fi_fan.code none (retK G_fan fi_fan) (enter fi_fan [.one (c1), .one (c2), .one (c3)] []) = fan (k + 1) m c1 c2 c3 := by
  simp only [fan, ← fan_l0_eq k m]
  kernel_rfl
theorem fan_eq (k : Nat) (c1 : Cell) (c2 : Cell) (c3 : Cell) : evF G_fan (k + 2) fid_fan [.one (c1), .one (c2), .one (c3)] [] = fan (k + 1) (k + 1) c1 c2 c3 :=
  Eq.trans (by kernel_rfl) (fan_code k (k + 1) c1 c2 c3)
theorem run_fan_of {c1 : Cell} {c2 : Cell} {c3 : Cell} {r : Res} (k : Nat) (h : fan (k + 1) (k + 1) c1 c2 c3 = some r) : run_fan [.one (c1), .one (c2), .one (c3)] [] = some r := lim_of ((fan_eq k c1 c2 c3).trans h)
noncomputable def pl_fbv : List (Nat × Run) := []
noncomputable def G_fbv : Ctx := ctx tyTab fiTab pl_fbv
noncomputable def run_fbv : Run := lim G_fbv fid_fbv
theorem ok_fbv : FnOk Tryz.prog OkT fid_fbv run_fbv := lim_ok (l := pl_fbv) Tryz_mix tyTab_ok fiTab_ok okT .nil fid_fbv
noncomputable def fbv (k m : Nat) (s1 : ByteArray) (s2 : ByteArray) (s3 : ByteArray) (s4 : ByteArray) : Option Res :=
  cond (!(s1.toList == s3.toList))
  (some ([.one (Cell.bool false)], []))
  (cond (!(s2.toList == s4.toList))
  (some ([.one (Cell.bool false)], []))
  (some ([.one (Cell.bool true)], [])))
theorem fbv_code (k m : Nat) (s1 : ByteArray) (s2 : ByteArray) (s3 : ByteArray) (s4 : ByteArray) : evC G_fbv fi_fbv (evF G_fbv (k + 1)) m fi_fbv.code none (retK G_fbv fi_fbv) (enter fi_fbv [.agg [Cell.str s1, Cell.str s2], .agg [Cell.str s3, Cell.str s4]] []) = fbv (k + 1) m s1 s2 s3 s4 := by
  kernel_rfl
theorem fbv_eq (k : Nat) (s1 : ByteArray) (s2 : ByteArray) (s3 : ByteArray) (s4 : ByteArray) : evF G_fbv (k + 2) fid_fbv [.agg [Cell.str s1, Cell.str s2], .agg [Cell.str s3, Cell.str s4]] [] = fbv (k + 1) (k + 1) s1 s2 s3 s4 :=
  Eq.trans (by kernel_rfl) (fbv_code k (k + 1) s1 s2 s3 s4)
theorem run_fbv_of {s1 : ByteArray} {s2 : ByteArray} {s3 : ByteArray} {s4 : ByteArray} {r : Res} (k : Nat) (h : fbv (k + 1) (k + 1) s1 s2 s3 s4 = some r) : run_fbv [.agg [Cell.str s1, Cell.str s2], .agg [Cell.str s3, Cell.str s4]] [] = some r := lim_of ((fbv_eq k s1 s2 s3 s4).trans h)
noncomputable def pl_fbw : List (Nat × Run) := [(fid_fbv, run_fbv)]
noncomputable def G_fbw : Ctx := ctx tyTab fiTab pl_fbw
noncomputable def run_fbw : Run := lim G_fbw fid_fbw
theorem ok_fbw : FnOk Tryz.prog OkT fid_fbw run_fbw := lim_ok (l := pl_fbw) Tryz_mix tyTab_ok fiTab_ok okT (.cons ok_fbv .nil) fid_fbw
noncomputable def fbw_l0 (k m : Nat) : Nat → Cell → Cell → Int → Option Res
  | 0, _, _, _ => none
  | n + 1, c5, c6, i7 =>
    (lenC c5).bind fun n8 =>
    cond (decide (i7 < (n8 : Int)))
    ((idxA 2 (c5) i7).bind fun c9 =>
    (deref [] (c9)).bind fun p10 =>
    (cS p10.1 p10.2).bind fun s11 =>
    (cS p10.1 (p10.2 + 1)).bind fun s12 =>
    (idxA 2 (c6) i7).bind fun c13 =>
    (deref [] (c13)).bind fun p14 =>
    (cS p14.1 p14.2).bind fun s15 =>
    (cS p14.1 (p14.2 + 1)).bind fun s16 =>
    (callS run_fbv [.agg [Cell.str s11, Cell.str s12], .agg [Cell.str s15, Cell.str s16]] []).bind fun r17 =>
    cond (shapeOk rk_fbv r17)
    ((cB (cellsAt r17 0) 0).bind fun b18 =>
    cond (!b18)
    (some ([.one (Cell.bool false)], []))
    (fbw_l0 k m n (c5) (c6) (IntKind.i64.wrap (i7 + 1))))
    none)
    (some ([.one (Cell.bool true)], []))
noncomputable def fbw (k m : Nat) (c1 : Cell) (c2 : Cell) : Option Res :=
  (lenC c1).bind fun n3 =>
  (lenC c2).bind fun n4 =>
  cond ((n3 : Int) != (n4 : Int))
  (some ([.one (Cell.bool false)], []))
  (fbw_l0 k m m (c1) (c2) 0)
noncomputable abbrev fbw_l0_B (k m : Nat) : (Ex → Fr → Option Res) → Fr → Option Res := evC G_fbw fi_fbw (evF G_fbw (k + 1)) m (sub [1, 1, 0, 1, 2, 3] fi_fbw.code) none
noncomputable abbrev fbw_l0_K (k m : Nat) : Ex → Fr → Option Res := blockK 0 (seqK (evC G_fbw fi_fbw (evF G_fbw (k + 1)) m (sub [1, 1, 1] fi_fbw.code) none) (retK G_fbw fi_fbw))
theorem fbw_l0_eq (k m : Nat) : ∀ (n : Nat) (c5 : Cell) (c6 : Cell) (i7 : Int), loopK (some [0, 1, 5]) (fbw_l0_B k m) (fbw_l0_K k m) n ⟨fT 27 0 [(0, .av (.one (c5))), (1, .av (.one (c6))), (5, .av (.one (Cell.int i7)))], fX 27 0 [], []⟩ = fbw_l0 (k + 1) m n c5 c6 i7 := by
  intro n
  induction n with
  | zero => intros; rfl
  | succ n ih =>
    intros
    simp only [fbw_l0, ← ih]
    kernel_rfl
theorem fbw_code (k m : Nat) (c1 : Cell) (c2 : Cell) : evC G_fbw fi_fbw (evF G_fbw (k + 1)) m fi_fbw.code none (retK G_fbw fi_fbw) (enter fi_fbw [.one (c1), .one (c2)] []) = fbw (k + 1) m c1 c2 := by
  simp only [fbw, ← fbw_l0_eq k m]
  kernel_rfl
theorem fbw_eq (k : Nat) (c1 : Cell) (c2 : Cell) : evF G_fbw (k + 2) fid_fbw [.one (c1), .one (c2)] [] = fbw (k + 1) (k + 1) c1 c2 :=
  Eq.trans (by kernel_rfl) (fbw_code k (k + 1) c1 c2)
theorem run_fbw_of {c1 : Cell} {c2 : Cell} {r : Res} (k : Nat) (h : fbw (k + 1) (k + 1) c1 c2 = some r) : run_fbw [.one (c1), .one (c2)] [] = some r := lim_of ((fbw_eq k c1 c2).trans h)
noncomputable def pl_fbz : List (Nat × Run) := []
noncomputable def G_fbz : Ctx := ctx tyTab fiTab pl_fbz
noncomputable def run_fbz : Run := lim G_fbz fid_fbz
theorem ok_fbz : FnOk Tryz.prog OkT fid_fbz run_fbz := lim_ok (l := pl_fbz) Tryz_mix tyTab_ok fiTab_ok okT .nil fid_fbz
noncomputable def fbz_l0 (k m : Nat) : Nat → Cell → Cell → Int → Option Res
  | 0, _, _, _ => none
  | n + 1, c5, c6, i7 =>
    (lenC c5).bind fun n8 =>
    cond (decide (i7 < (n8 : Int)))
    ((idxA 1 (c5) i7).bind fun c9 =>
    (deref [] (c9)).bind fun p10 =>
    (cS p10.1 p10.2).bind fun s11 =>
    (idxA 1 (c6) i7).bind fun c12 =>
    (deref [] (c12)).bind fun p13 =>
    (cS p13.1 p13.2).bind fun s14 =>
    cond (!(s11.toList == s14.toList))
    (some ([.one (Cell.bool false)], []))
    (fbz_l0 k m n (c5) (c6) (IntKind.i64.wrap (i7 + 1))))
    (some ([.one (Cell.bool true)], []))
noncomputable def fbz (k m : Nat) (c1 : Cell) (c2 : Cell) : Option Res :=
  (lenC c1).bind fun n3 =>
  (lenC c2).bind fun n4 =>
  cond ((n3 : Int) != (n4 : Int))
  (some ([.one (Cell.bool false)], []))
  (fbz_l0 k m m (c1) (c2) 0)
noncomputable abbrev fbz_l0_B (k m : Nat) : (Ex → Fr → Option Res) → Fr → Option Res := evC G_fbz fi_fbz (evF G_fbz (k + 1)) m (sub [1, 1, 0, 1, 2, 3] fi_fbz.code) none
noncomputable abbrev fbz_l0_K (k m : Nat) : Ex → Fr → Option Res := blockK 0 (seqK (evC G_fbz fi_fbz (evF G_fbz (k + 1)) m (sub [1, 1, 1] fi_fbz.code) none) (retK G_fbz fi_fbz))
theorem fbz_l0_eq (k m : Nat) : ∀ (n : Nat) (c5 : Cell) (c6 : Cell) (i7 : Int), loopK (some [0, 1, 5]) (fbz_l0_B k m) (fbz_l0_K k m) n ⟨fT 26 0 [(0, .av (.one (c5))), (1, .av (.one (c6))), (5, .av (.one (Cell.int i7)))], fX 26 0 [], []⟩ = fbz_l0 (k + 1) m n c5 c6 i7 := by
  intro n
  induction n with
  | zero => intros; rfl
  | succ n ih =>
    intros
    simp only [fbz_l0, ← ih]
    kernel_rfl
theorem fbz_code (k m : Nat) (c1 : Cell) (c2 : Cell) : evC G_fbz fi_fbz (evF G_fbz (k + 1)) m fi_fbz.code none (retK G_fbz fi_fbz) (enter fi_fbz [.one (c1), .one (c2)] []) = fbz (k + 1) m c1 c2 := by
  simp only [fbz, ← fbz_l0_eq k m]
  kernel_rfl
theorem fbz_eq (k : Nat) (c1 : Cell) (c2 : Cell) : evF G_fbz (k + 2) fid_fbz [.one (c1), .one (c2)] [] = fbz (k + 1) (k + 1) c1 c2 :=
  Eq.trans (by kernel_rfl) (fbz_code k (k + 1) c1 c2)
theorem run_fbz_of {c1 : Cell} {c2 : Cell} {r : Res} (k : Nat) (h : fbz (k + 1) (k + 1) c1 c2 = some r) : run_fbz [.one (c1), .one (c2)] [] = some r := lim_of ((fbz_eq k c1 c2).trans h)
noncomputable def pl_fca : List (Nat × Run) := [(fid_fbz, run_fbz)]
noncomputable def G_fca : Ctx := ctx tyTab fiTab pl_fca
noncomputable def run_fca : Run := lim G_fca fid_fca
theorem ok_fca : FnOk Tryz.prog OkT fid_fca run_fca := lim_ok (l := pl_fca) Tryz_mix tyTab_ok fiTab_ok okT (.cons ok_fbz .nil) fid_fca
noncomputable def fca (k m : Nat) (i1 : Int) (i2 : Int) (i3 : Int) (c4 : Cell) (i5 : Int) (i6 : Int) (i7 : Int) (c8 : Cell) : Option Res :=
  cond (i1 != i5)
  (some ([.one (Cell.bool false)], []))
  (cond (i2 != i6)
  (some ([.one (Cell.bool false)], []))
  (cond (i3 != i7)
  (some ([.one (Cell.bool false)], []))
  ((callS run_fbz [.one (c4), .one (c8)] []).bind fun r9 =>
  cond (shapeOk rk_fbz r9)
  ((cB (cellsAt r9 0) 0).bind fun b10 =>
  cond (!b10)
  (some ([.one (Cell.bool false)], []))
  (some ([.one (Cell.bool true)], [])))
  none)))
theorem fca_code (k m : Nat) (i1 : Int) (i2 : Int) (i3 : Int) (c4 : Cell) (i5 : Int) (i6 : Int) (i7 : Int) (c8 : Cell) : evC G_fca fi_fca (evF G_fca (k + 1)) m fi_fca.code none (retK G_fca fi_fca) (enter fi_fca [.agg [Cell.int i1, Cell.int i2, Cell.int i3, c4], .agg [Cell.int i5, Cell.int i6, Cell.int i7, c8]] []) = fca (k + 1) m i1 i2 i3 c4 i5 i6 i7 c8 := by
  kernel_rfl
theorem fca_eq (k : Nat) (i1 : Int) (i2 : Int) (i3 : Int) (c4 : Cell) (i5 : Int) (i6 : Int) (i7 : Int) (c8 : Cell) : evF G_fca (k + 2) fid_fca [.agg [Cell.int i1, Cell.int i2, Cell.int i3, c4], .agg [Cell.int i5, Cell.int i6, Cell.int i7, c8]] [] = fca (k + 1) (k + 1) i1 i2 i3 c4 i5 i6 i7 c8 :=
  Eq.trans (by kernel_rfl) (fca_code k (k + 1) i1 i2 i3 c4 i5 i6 i7 c8)
theorem run_fca_of {i1 : Int} {i2 : Int} {i3 : Int} {c4 : Cell} {i5 : Int} {i6 : Int} {i7 : Int} {c8 : Cell} {r : Res} (k : Nat) (h : fca (k + 1) (k + 1) i1 i2 i3 c4 i5 i6 i7 c8 = some r) : run_fca [.agg [Cell.int i1, Cell.int i2, Cell.int i3, c4], .agg [Cell.int i5, Cell.int i6, Cell.int i7, c8]] [] = some r := lim_of ((fca_eq k i1 i2 i3 c4 i5 i6 i7 c8).trans h)
noncomputable def pl_fbt : List (Nat × Run) := [(fid_fbw, run_fbw), (fid_fca, run_fca)]
noncomputable def G_fbt : Ctx := ctx tyTab fiTab pl_fbt
noncomputable def run_fbt : Run := lim G_fbt fid_fbt
theorem ok_fbt : FnOk Tryz.prog OkT fid_fbt run_fbt := lim_ok (l := pl_fbt) Tryz_mix tyTab_ok fiTab_ok okT (.cons ok_fbw (.cons ok_fca .nil)) fid_fbt
noncomputable def fbt (k m : Nat) (s1 : ByteArray) (i2 : Int) (i3 : Int) (i4 : Int) (c5 : Cell) (c6 : Cell) (s7 : ByteArray) (i8 : Int) (i9 : Int) (i10 : Int) (c11 : Cell) (c12 : Cell) : Option Res :=
  cond (!(s1.toList == s7.toList))
  (some ([.one (Cell.bool false)], []))
  ((callS run_fca [.agg [Cell.int i2, Cell.int i3, Cell.int i4, c5], .agg [Cell.int i8, Cell.int i9, Cell.int i10, c11]] []).bind fun r13 =>
  cond (shapeOk rk_fca r13)
  ((cB (cellsAt r13 0) 0).bind fun b14 =>
  cond (!b14)
  (some ([.one (Cell.bool false)], []))
  ((callS run_fbw [.one (c6), .one (c12)] []).bind fun r15 =>
  cond (shapeOk rk_fbw r15)
  ((cB (cellsAt r15 0) 0).bind fun b16 =>
  cond (!b16)
  (some ([.one (Cell.bool false)], []))
  (some ([.one (Cell.bool true)], [])))
  none))
  none)
theorem fbt_code (k m : Nat) (s1 : ByteArray) (i2 : Int) (i3 : Int) (i4 : Int) (c5 : Cell) (c6 : Cell) (s7 : ByteArray) (i8 : Int) (i9 : Int) (i10 : Int) (c11 : Cell) (c12 : Cell) : evC G_fbt fi_fbt (evF G_fbt (k + 1)) m fi_fbt.code none (retK G_fbt fi_fbt) (enter fi_fbt [.agg [Cell.str s1, Cell.int i2, Cell.int i3, Cell.int i4, c5, c6], .agg [Cell.str s7, Cell.int i8, Cell.int i9, Cell.int i10, c11, c12]] []) = fbt (k + 1) m s1 i2 i3 i4 c5 c6 s7 i8 i9 i10 c11 c12 := by
  kernel_rfl
theorem fbt_eq (k : Nat) (s1 : ByteArray) (i2 : Int) (i3 : Int) (i4 : Int) (c5 : Cell) (c6 : Cell) (s7 : ByteArray) (i8 : Int) (i9 : Int) (i10 : Int) (c11 : Cell) (c12 : Cell) : evF G_fbt (k + 2) fid_fbt [.agg [Cell.str s1, Cell.int i2, Cell.int i3, Cell.int i4, c5, c6], .agg [Cell.str s7, Cell.int i8, Cell.int i9, Cell.int i10, c11, c12]] [] = fbt (k + 1) (k + 1) s1 i2 i3 i4 c5 c6 s7 i8 i9 i10 c11 c12 :=
  Eq.trans (by kernel_rfl) (fbt_code k (k + 1) s1 i2 i3 i4 c5 c6 s7 i8 i9 i10 c11 c12)
theorem run_fbt_of {s1 : ByteArray} {i2 : Int} {i3 : Int} {i4 : Int} {c5 : Cell} {c6 : Cell} {s7 : ByteArray} {i8 : Int} {i9 : Int} {i10 : Int} {c11 : Cell} {c12 : Cell} {r : Res} (k : Nat) (h : fbt (k + 1) (k + 1) s1 i2 i3 i4 c5 c6 s7 i8 i9 i10 c11 c12 = some r) : run_fbt [.agg [Cell.str s1, Cell.int i2, Cell.int i3, Cell.int i4, c5, c6], .agg [Cell.str s7, Cell.int i8, Cell.int i9, Cell.int i10, c11, c12]] [] = some r := lim_of ((fbt_eq k s1 i2 i3 i4 c5 c6 s7 i8 i9 i10 c11 c12).trans h)
noncomputable def pl_fbu : List (Nat × Run) := [(fid_fbt, run_fbt)]
noncomputable def G_fbu : Ctx := ctx tyTab fiTab pl_fbu
noncomputable def run_fbu : Run := lim G_fbu fid_fbu
theorem ok_fbu : FnOk Tryz.prog OkT fid_fbu run_fbu := lim_ok (l := pl_fbu) Tryz_mix tyTab_ok fiTab_ok okT (.cons ok_fbt .nil) fid_fbu
noncomputable def fbu_l0 (k m : Nat) : Nat → Cell → Cell → Int → Option Res
  | 0, _, _, _ => none
  | n + 1, c5, c6, i7 =>
    (lenC c5).bind fun n8 =>
    cond (decide (i7 < (n8 : Int)))
    ((idxA 6 (c5) i7).bind fun c9 =>
    (deref [] (c9)).bind fun p10 =>
    (cS p10.1 p10.2).bind fun s11 =>
    (cI .i64 p10.1 (p10.2 + 1)).bind fun i12 =>
    (cI .i64 p10.1 ((p10.2 + 1) + 1)).bind fun i13 =>
    (cI .i64 p10.1 (((p10.2 + 1) + 1) + 1)).bind fun i14 =>
    (cC p10.1 ((((p10.2 + 1) + 1) + 1) + 1)).bind fun c15 =>
    (cC p10.1 (((((p10.2 + 1) + 1) + 1) + 1) + 1)).bind fun c16 =>
    (idxA 6 (c6) i7).bind fun c17 =>
    (deref [] (c17)).bind fun p18 =>
    (cS p18.1 p18.2).bind fun s19 =>
    (cI .i64 p18.1 (p18.2 + 1)).bind fun i20 =>
    (cI .i64 p18.1 ((p18.2 + 1) + 1)).bind fun i21 =>
    (cI .i64 p18.1 (((p18.2 + 1) + 1) + 1)).bind fun i22 =>
    (cC p18.1 ((((p18.2 + 1) + 1) + 1) + 1)).bind fun c23 =>
    (cC p18.1 (((((p18.2 + 1) + 1) + 1) + 1) + 1)).bind fun c24 =>
    (callS run_fbt [.agg [Cell.str s11, Cell.int i12, Cell.int i13, Cell.int i14, c15, c16], .agg [Cell.str s19, Cell.int i20, Cell.int i21, Cell.int i22, c23, c24]] []).bind fun r25 =>
    cond (shapeOk rk_fbt r25)
    ((cB (cellsAt r25 0) 0).bind fun b26 =>
    cond (!b26)
    (some ([.one (Cell.bool false)], []))
    (fbu_l0 k m n (c5) (c6) (IntKind.i64.wrap (i7 + 1))))
    none)
    (some ([.one (Cell.bool true)], []))
noncomputable def fbu (k m : Nat) (c1 : Cell) (c2 : Cell) : Option Res :=
  (lenC c1).bind fun n3 =>
  (lenC c2).bind fun n4 =>
  cond ((n3 : Int) != (n4 : Int))
  (some ([.one (Cell.bool false)], []))
  (fbu_l0 k m m (c1) (c2) 0)
noncomputable abbrev fbu_l0_B (k m : Nat) : (Ex → Fr → Option Res) → Fr → Option Res := evC G_fbu fi_fbu (evF G_fbu (k + 1)) m (sub [1, 1, 0, 1, 2, 3] fi_fbu.code) none
noncomputable abbrev fbu_l0_K (k m : Nat) : Ex → Fr → Option Res := blockK 0 (seqK (evC G_fbu fi_fbu (evF G_fbu (k + 1)) m (sub [1, 1, 1] fi_fbu.code) none) (retK G_fbu fi_fbu))
theorem fbu_l0_eq (k m : Nat) : ∀ (n : Nat) (c5 : Cell) (c6 : Cell) (i7 : Int), loopK (some [0, 1, 5]) (fbu_l0_B k m) (fbu_l0_K k m) n ⟨fT 27 0 [(0, .av (.one (c5))), (1, .av (.one (c6))), (5, .av (.one (Cell.int i7)))], fX 27 0 [], []⟩ = fbu_l0 (k + 1) m n c5 c6 i7 := by
  intro n
  induction n with
  | zero => intros; rfl
  | succ n ih =>
    intros
    simp only [fbu_l0, ← ih]
    kernel_rfl
theorem fbu_code (k m : Nat) (c1 : Cell) (c2 : Cell) : evC G_fbu fi_fbu (evF G_fbu (k + 1)) m fi_fbu.code none (retK G_fbu fi_fbu) (enter fi_fbu [.one (c1), .one (c2)] []) = fbu (k + 1) m c1 c2 := by
  simp only [fbu, ← fbu_l0_eq k m]
  kernel_rfl
theorem fbu_eq (k : Nat) (c1 : Cell) (c2 : Cell) : evF G_fbu (k + 2) fid_fbu [.one (c1), .one (c2)] [] = fbu (k + 1) (k + 1) c1 c2 :=
  Eq.trans (by kernel_rfl) (fbu_code k (k + 1) c1 c2)
theorem run_fbu_of {c1 : Cell} {c2 : Cell} {r : Res} (k : Nat) (h : fbu (k + 1) (k + 1) c1 c2 = some r) : run_fbu [.one (c1), .one (c2)] [] = some r := lim_of ((fbu_eq k c1 c2).trans h)
noncomputable def pl_fbx : List (Nat × Run) := [(fid_fca, run_fca)]
noncomputable def G_fbx : Ctx := ctx tyTab fiTab pl_fbx
noncomputable def run_fbx : Run := lim G_fbx fid_fbx
theorem ok_fbx : FnOk Tryz.prog OkT fid_fbx run_fbx := lim_ok (l := pl_fbx) Tryz_mix tyTab_ok fiTab_ok okT (.cons ok_fca .nil) fid_fbx
noncomputable def fbx (k m : Nat) (s1 : ByteArray) (i2 : Int) (i3 : Int) (i4 : Int) (c5 : Cell) (s6 : ByteArray) (i7 : Int) (i8 : Int) (i9 : Int) (c10 : Cell) : Option Res :=
  cond (!(s1.toList == s6.toList))
  (some ([.one (Cell.bool false)], []))
  ((callS run_fca [.agg [Cell.int i2, Cell.int i3, Cell.int i4, c5], .agg [Cell.int i7, Cell.int i8, Cell.int i9, c10]] []).bind fun r11 =>
  cond (shapeOk rk_fca r11)
  ((cB (cellsAt r11 0) 0).bind fun b12 =>
  cond (!b12)
  (some ([.one (Cell.bool false)], []))
  (some ([.one (Cell.bool true)], [])))
  none)
theorem fbx_code (k m : Nat) (s1 : ByteArray) (i2 : Int) (i3 : Int) (i4 : Int) (c5 : Cell) (s6 : ByteArray) (i7 : Int) (i8 : Int) (i9 : Int) (c10 : Cell) : evC G_fbx fi_fbx (evF G_fbx (k + 1)) m fi_fbx.code none (retK G_fbx fi_fbx) (enter fi_fbx [.agg [Cell.str s1, Cell.int i2, Cell.int i3, Cell.int i4, c5], .agg [Cell.str s6, Cell.int i7, Cell.int i8, Cell.int i9, c10]] []) = fbx (k + 1) m s1 i2 i3 i4 c5 s6 i7 i8 i9 c10 := by
  kernel_rfl
theorem fbx_eq (k : Nat) (s1 : ByteArray) (i2 : Int) (i3 : Int) (i4 : Int) (c5 : Cell) (s6 : ByteArray) (i7 : Int) (i8 : Int) (i9 : Int) (c10 : Cell) : evF G_fbx (k + 2) fid_fbx [.agg [Cell.str s1, Cell.int i2, Cell.int i3, Cell.int i4, c5], .agg [Cell.str s6, Cell.int i7, Cell.int i8, Cell.int i9, c10]] [] = fbx (k + 1) (k + 1) s1 i2 i3 i4 c5 s6 i7 i8 i9 c10 :=
  Eq.trans (by kernel_rfl) (fbx_code k (k + 1) s1 i2 i3 i4 c5 s6 i7 i8 i9 c10)
theorem run_fbx_of {s1 : ByteArray} {i2 : Int} {i3 : Int} {i4 : Int} {c5 : Cell} {s6 : ByteArray} {i7 : Int} {i8 : Int} {i9 : Int} {c10 : Cell} {r : Res} (k : Nat) (h : fbx (k + 1) (k + 1) s1 i2 i3 i4 c5 s6 i7 i8 i9 c10 = some r) : run_fbx [.agg [Cell.str s1, Cell.int i2, Cell.int i3, Cell.int i4, c5], .agg [Cell.str s6, Cell.int i7, Cell.int i8, Cell.int i9, c10]] [] = some r := lim_of ((fbx_eq k s1 i2 i3 i4 c5 s6 i7 i8 i9 c10).trans h)
noncomputable def pl_fby : List (Nat × Run) := [(fid_fbx, run_fbx)]
noncomputable def G_fby : Ctx := ctx tyTab fiTab pl_fby
noncomputable def run_fby : Run := lim G_fby fid_fby
theorem ok_fby : FnOk Tryz.prog OkT fid_fby run_fby := lim_ok (l := pl_fby) Tryz_mix tyTab_ok fiTab_ok okT (.cons ok_fbx .nil) fid_fby
noncomputable def fby_l0 (k m : Nat) : Nat → Cell → Cell → Int → Option Res
  | 0, _, _, _ => none
  | n + 1, c5, c6, i7 =>
    (lenC c5).bind fun n8 =>
    cond (decide (i7 < (n8 : Int)))
    ((idxA 5 (c5) i7).bind fun c9 =>
    (deref [] (c9)).bind fun p10 =>
    (cS p10.1 p10.2).bind fun s11 =>
    (cI .i64 p10.1 (p10.2 + 1)).bind fun i12 =>
    (cI .i64 p10.1 ((p10.2 + 1) + 1)).bind fun i13 =>
    (cI .i64 p10.1 (((p10.2 + 1) + 1) + 1)).bind fun i14 =>
    (cC p10.1 ((((p10.2 + 1) + 1) + 1) + 1)).bind fun c15 =>
    (idxA 5 (c6) i7).bind fun c16 =>
    (deref [] (c16)).bind fun p17 =>
    (cS p17.1 p17.2).bind fun s18 =>
    (cI .i64 p17.1 (p17.2 + 1)).bind fun i19 =>
    (cI .i64 p17.1 ((p17.2 + 1) + 1)).bind fun i20 =>
    (cI .i64 p17.1 (((p17.2 + 1) + 1) + 1)).bind fun i21 =>
    (cC p17.1 ((((p17.2 + 1) + 1) + 1) + 1)).bind fun c22 =>
    (callS run_fbx [.agg [Cell.str s11, Cell.int i12, Cell.int i13, Cell.int i14, c15], .agg [Cell.str s18, Cell.int i19, Cell.int i20, Cell.int i21, c22]] []).bind fun r23 =>
    cond (shapeOk rk_fbx r23)
    ((cB (cellsAt r23 0) 0).bind fun b24 =>
    cond (!b24)
    (some ([.one (Cell.bool false)], []))
    (fby_l0 k m n (c5) (c6) (IntKind.i64.wrap (i7 + 1))))
    none)
    (some ([.one (Cell.bool true)], []))
noncomputable def fby (k m : Nat) (c1 : Cell) (c2 : Cell) : Option Res :=
  (lenC c1).bind fun n3 =>
  (lenC c2).bind fun n4 =>
  cond ((n3 : Int) != (n4 : Int))
  (some ([.one (Cell.bool false)], []))
  (fby_l0 k m m (c1) (c2) 0)
noncomputable abbrev fby_l0_B (k m : Nat) : (Ex → Fr → Option Res) → Fr → Option Res := evC G_fby fi_fby (evF G_fby (k + 1)) m (sub [1, 1, 0, 1, 2, 3] fi_fby.code) none
noncomputable abbrev fby_l0_K (k m : Nat) : Ex → Fr → Option Res := blockK 0 (seqK (evC G_fby fi_fby (evF G_fby (k + 1)) m (sub [1, 1, 1] fi_fby.code) none) (retK G_fby fi_fby))
theorem fby_l0_eq (k m : Nat) : ∀ (n : Nat) (c5 : Cell) (c6 : Cell) (i7 : Int), loopK (some [0, 1, 5]) (fby_l0_B k m) (fby_l0_K k m) n ⟨fT 27 0 [(0, .av (.one (c5))), (1, .av (.one (c6))), (5, .av (.one (Cell.int i7)))], fX 27 0 [], []⟩ = fby_l0 (k + 1) m n c5 c6 i7 := by
  intro n
  induction n with
  | zero => intros; rfl
  | succ n ih =>
    intros
    simp only [fby_l0, ← ih]
    kernel_rfl
theorem fby_code (k m : Nat) (c1 : Cell) (c2 : Cell) : evC G_fby fi_fby (evF G_fby (k + 1)) m fi_fby.code none (retK G_fby fi_fby) (enter fi_fby [.one (c1), .one (c2)] []) = fby (k + 1) m c1 c2 := by
  simp only [fby, ← fby_l0_eq k m]
  kernel_rfl
theorem fby_eq (k : Nat) (c1 : Cell) (c2 : Cell) : evF G_fby (k + 2) fid_fby [.one (c1), .one (c2)] [] = fby (k + 1) (k + 1) c1 c2 :=
  Eq.trans (by kernel_rfl) (fby_code k (k + 1) c1 c2)
theorem run_fby_of {c1 : Cell} {c2 : Cell} {r : Res} (k : Nat) (h : fby (k + 1) (k + 1) c1 c2 = some r) : run_fby [.one (c1), .one (c2)] [] = some r := lim_of ((fby_eq k c1 c2).trans h)
end Go.Ev
