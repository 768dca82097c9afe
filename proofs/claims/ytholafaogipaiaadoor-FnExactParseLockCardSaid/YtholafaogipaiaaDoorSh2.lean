/- What the evaluator says of the functions, each as a Lean function over cells. Printed by a program of this claim. Conditions: none. -/
import Derived.Test.YtholafaogipaiaaDoorSh1
import Derived.KernelRfl
namespace Go.Ev
open Go Go.Proofs
set_option maxRecDepth 100000
set_option linter.unusedVariables false
set_option linter.unusedSimpArgs false
noncomputable def pl_impl_ParseVer : List (Nat × Run) := [(fid_strings_Cut, run_strings_Cut), (fid_strings_Split, run_strings_Split), (fid_impl_ParseNum, run_impl_ParseNum), (fid_impl_VerText, run_impl_VerText)]
noncomputable def G_impl_ParseVer : Ctx := ctx tyTab fiTab pl_impl_ParseVer
noncomputable def run_impl_ParseVer : Run := lim G_impl_ParseVer fid_impl_ParseVer
theorem ok_impl_ParseVer : FnOk Tryd.prog OkT fid_impl_ParseVer run_impl_ParseVer := lim_ok (l := pl_impl_ParseVer) Tryd_mix tyTab_ok fiTab_ok okT (.cons ok_strings_Cut (.cons ok_strings_Split (.cons ok_impl_ParseNum (.cons ok_impl_VerText .nil)))) fid_impl_ParseVer
noncomputable def impl_ParseVer_l0 (k m : Nat) : Nat → ByteArray → ByteArray → Bool → Cell → Cell → Cell → Cell → Cell → Int → List Entry → Option Res
  | 0, _, _, _, _, _, _, _, _, _, _ => none
  | n + 1, s9, s10, b11, c12, c13, c14, c15, c16, i17, H18 =>
    cond (decide (i17 < 3))
    (if 0 ≤ i17 ∧ i17 < 3 then
    ((cC [c14, c15, c16] (i17.toNat * 1)).bind fun c19 =>
    (idxA 1 (c12) i17).bind fun c20 =>
    (deref H18 (c20)).bind fun p21 =>
    (cS p21.1 p21.2).bind fun s22 =>
    (callS run_impl_ParseNum [.one (Cell.str s22), .one (Cell.int 9999)] H18).bind fun r23 =>
    cond (shapeOk rk_impl_ParseNum r23)
    ((cI .i64 (cellsAt r23 0) 0).bind fun i24 =>
    (cB (cellsAt r23 1) 0).bind fun b25 =>
    cond (!b25)
    (some ([.agg [Cell.int 0, Cell.int 0, Cell.int 0, .lst true 1 []], .one (Cell.bool false)], H18))
    ((ptrC c19).bind fun c26 =>
    (hStore H18 (c26) [Cell.int i24]).bind fun h27 =>
    impl_ParseVer_l0 k m n s9 s10 b11 (c12) (c13) (c14) (c15) (c16) (IntKind.i64.wrap (i17 + 1)) h27))
    none) else none)
    (cond b11
    ((callF run_strings_Split [.one (Cell.str s10), .one (Cell.str (bs [46]))] H18).bind fun r28 =>
    cond (shapeOk rk_strings_Split r28.1)
    ((cC (cellsAt r28.1 0) 0).bind fun c29 =>
    (fldA c13 3).bind fun c30 =>
    (hStore r28.2 (c30) [c29]).bind fun h31 =>
    (deref h31 (c13)).bind fun p32 =>
    (cI .i64 p32.1 p32.2).bind fun i33 =>
    (cI .i64 p32.1 (p32.2 + 1)).bind fun i34 =>
    (cI .i64 p32.1 ((p32.2 + 1) + 1)).bind fun i35 =>
    (cC p32.1 (((p32.2 + 1) + 1) + 1)).bind fun c36 =>
    (callS run_impl_VerText [.agg [Cell.int i33, Cell.int i34, Cell.int i35, c36]] h31).bind fun r37 =>
    cond (shapeOk rk_impl_VerText r37)
    ((cS (cellsAt r37 0) 0).bind fun s38 =>
    cond (!(s38.toList == s9.toList))
    (some ([.agg [Cell.int 0, Cell.int 0, Cell.int 0, .lst true 1 []], .one (Cell.bool false)], h31))
    ((deref h31 (c13)).bind fun p39 =>
    (cI .i64 p39.1 p39.2).bind fun i40 =>
    (cI .i64 p39.1 (p39.2 + 1)).bind fun i41 =>
    (cI .i64 p39.1 ((p39.2 + 1) + 1)).bind fun i42 =>
    (cC p39.1 (((p39.2 + 1) + 1) + 1)).bind fun c43 =>
    some ([.agg [Cell.int i40, Cell.int i41, Cell.int i42, c43], .one (Cell.bool true)], h31)))
    none)
    none)
    ((deref H18 (c13)).bind fun p44 =>
    (cI .i64 p44.1 p44.2).bind fun i45 =>
    (cI .i64 p44.1 (p44.2 + 1)).bind fun i46 =>
    (cI .i64 p44.1 ((p44.2 + 1) + 1)).bind fun i47 =>
    (cC p44.1 (((p44.2 + 1) + 1) + 1)).bind fun c48 =>
    (callS run_impl_VerText [.agg [Cell.int i45, Cell.int i46, Cell.int i47, c48]] H18).bind fun r49 =>
    cond (shapeOk rk_impl_VerText r49)
    ((cS (cellsAt r49 0) 0).bind fun s50 =>
    cond (!(s50.toList == s9.toList))
    (some ([.agg [Cell.int 0, Cell.int 0, Cell.int 0, .lst true 1 []], .one (Cell.bool false)], H18))
    ((deref H18 (c13)).bind fun p51 =>
    (cI .i64 p51.1 p51.2).bind fun i52 =>
    (cI .i64 p51.1 (p51.2 + 1)).bind fun i53 =>
    (cI .i64 p51.1 ((p51.2 + 1) + 1)).bind fun i54 =>
    (cC p51.1 (((p51.2 + 1) + 1) + 1)).bind fun c55 =>
    some ([.agg [Cell.int i52, Cell.int i53, Cell.int i54, c55], .one (Cell.bool true)], H18)))
    none))
noncomputable def impl_ParseVer (k m : Nat) (s1 : ByteArray) : Option Res :=
  (callS run_strings_Cut [.one (Cell.str s1), .one (Cell.str (bs [45]))] []).bind fun r2 =>
  cond (shapeOk rk_strings_Cut r2)
  ((cS (cellsAt r2 0) 0).bind fun s3 =>
  (cS (cellsAt r2 1) 0).bind fun s4 =>
  (cB (cellsAt r2 2) 0).bind fun b5 =>
  (callF run_strings_Split [.one (Cell.str s3), .one (Cell.str (bs [46]))] []).bind fun r6 =>
  cond (shapeOk rk_strings_Split r6.1)
  ((cC (cellsAt r6.1 0) 0).bind fun c7 =>
  (lenC c7).bind fun n8 =>
  cond ((n8 : Int) != 3)
  (some ([.agg [Cell.int 0, Cell.int 0, Cell.int 0, .lst true 1 []], .one (Cell.bool false)], r6.2))
  (impl_ParseVer_l0 k m m s1 s4 b5 (c7) (.ptr r6.2.length 4 0 0 0) (.ptr r6.2.length 4 0 0 0) (.ptr r6.2.length 4 0 1 0) (.ptr r6.2.length 4 0 2 0) 0 (r6.2 ++ [Entry.mk 4 [[Cell.int 0, Cell.int 0, Cell.int 0, .lst true 1 []]] 0 false])))
  none)
  none
noncomputable abbrev impl_ParseVer_l0_B (k m : Nat) : (Ex → Fr → Option Res) → Fr → Option Res := evC G_impl_ParseVer fi_impl_ParseVer (evF G_impl_ParseVer (k + 1)) m (sub [1, 1, 1, 1, 1, 0, 1, 2, 3] fi_impl_ParseVer.code) none
noncomputable abbrev impl_ParseVer_l0_K (k m : Nat) : Ex → Fr → Option Res := blockK 0 (seqK (evC G_impl_ParseVer fi_impl_ParseVer (evF G_impl_ParseVer (k + 1)) m (sub [1, 1, 1, 1, 1, 1] fi_impl_ParseVer.code) none) (retK G_impl_ParseVer fi_impl_ParseVer))
theorem impl_ParseVer_l0_eq (k m : Nat) : ∀ (n : Nat) (s9 : ByteArray) (s10 : ByteArray) (b11 : Bool) (c12 : Cell) (c13 : Cell) (c14 : Cell) (c15 : Cell) (c16 : Cell) (i17 : Int) (H18 : List Entry), loopK (some [0, 2, 5, 6, 7, 8, 28, 29]) (impl_ParseVer_l0_B k m) (impl_ParseVer_l0_K k m) n ⟨fT 58 0 [(0, .av (.one (Cell.str s9))), (2, .loc 2 0), (5, .av (.one (Cell.str s10))), (6, .av (.one (Cell.bool b11))), (7, .av (.one (c12))), (8, .av (.one (c13))), (28, .av (.agg [c14, c15, c16])), (29, .av (.one (Cell.int i17)))], fX 58 0 [(2, [Cell.int 0, Cell.int 0, Cell.int 0, .lst true 1 []])], H18⟩ = impl_ParseVer_l0 (k + 1) m n s9 s10 b11 c12 c13 c14 c15 c16 i17 H18 := by
  intro n
  induction n with
  | zero => intros; rfl
  | succ n ih =>
    intros
    simp only [impl_ParseVer_l0, ← ih]
    kernel_rfl
theorem impl_ParseVer_code (k m : Nat) (s1 : ByteArray) : evC G_impl_ParseVer fi_impl_ParseVer (evF G_impl_ParseVer (k + 1)) m fi_impl_ParseVer.code none (retK G_impl_ParseVer fi_impl_ParseVer) (enter fi_impl_ParseVer [.one (Cell.str s1)] []) = impl_ParseVer (k + 1) m s1 := by
  simp only [impl_ParseVer, ← impl_ParseVer_l0_eq k m]
  kernel_rfl
theorem impl_ParseVer_eq (k : Nat) (s1 : ByteArray) : evF G_impl_ParseVer (k + 2) fid_impl_ParseVer [.one (Cell.str s1)] [] = impl_ParseVer (k + 1) (k + 1) s1 :=
  Eq.trans (by kernel_rfl) (impl_ParseVer_code k (k + 1) s1)
theorem run_impl_ParseVer_of {s1 : ByteArray} {r : Res} (k : Nat) (h : impl_ParseVer (k + 1) (k + 1) s1 = some r) : run_impl_ParseVer [.one (Cell.str s1)] [] = some r := lim_of ((impl_ParseVer_eq k s1).trans h)
noncomputable def pl_impl_NameOk : List (Nat × Run) := [(fid_impl_inRange, run_impl_inRange), (fid_impl_isFigure, run_impl_isFigure), (fid_impl_isSmall, run_impl_isSmall)]
noncomputable def G_impl_NameOk : Ctx := ctx tyTab fiTab pl_impl_NameOk
noncomputable def run_impl_NameOk : Run := lim G_impl_NameOk fid_impl_NameOk
theorem ok_impl_NameOk : FnOk Tryd.prog OkT fid_impl_NameOk run_impl_NameOk := lim_ok (l := pl_impl_NameOk) Tryd_mix tyTab_ok fiTab_ok okT (.cons ok_impl_inRange (.cons ok_impl_isFigure (.cons ok_impl_isSmall .nil))) fid_impl_NameOk
noncomputable def impl_NameOk_l0 (k m : Nat) : Nat → ByteArray → Int → Option Res
  | 0, _, _ => none
  | n + 1, s2, i3 =>
    cond (decide (i3 < (s2.size : Int)))
    ((bytS s2 i3).bind fun i4 =>
    (callS run_impl_isSmall [.one (.sc (.int .u8 i4))] []).bind fun r5 =>
    cond (shapeOk rk_impl_isSmall r5)
    ((cB (cellsAt r5 0) 0).bind fun b6 =>
    cond (!b6)
    (cond (i3 == 0)
    (some ([.one (Cell.bool false)], []))
    ((bytS s2 i3).bind fun i7 =>
    (callS run_impl_isFigure [.one (.sc (.int .u8 i7))] []).bind fun r8 =>
    cond (shapeOk rk_impl_isFigure r8)
    ((cB (cellsAt r8 0) 0).bind fun b9 =>
    cond (!b9)
    ((bytS s2 i3).bind fun i10 =>
    cond (i10 != 45)
    (some ([.one (Cell.bool false)], []))
    (impl_NameOk_l0 k m n s2 (IntKind.i64.wrap (i3 + 1))))
    (impl_NameOk_l0 k m n s2 (IntKind.i64.wrap (i3 + 1))))
    none))
    (impl_NameOk_l0 k m n s2 (IntKind.i64.wrap (i3 + 1))))
    none)
    ((callS run_impl_inRange [.one (Cell.int (s2.size : Int)), .one (Cell.int 1), .one (Cell.int 10)] []).bind fun r11 =>
    cond (shapeOk rk_impl_inRange r11)
    ((cB (cellsAt r11 0) 0).bind fun b12 =>
    some ([.one (Cell.bool b12)], []))
    none)
noncomputable def impl_NameOk (k m : Nat) (s1 : ByteArray) : Option Res :=
  impl_NameOk_l0 k m m s1 0
noncomputable abbrev impl_NameOk_l0_B (k m : Nat) : (Ex → Fr → Option Res) → Fr → Option Res := evC G_impl_NameOk fi_impl_NameOk (evF G_impl_NameOk (k + 1)) m (sub [1, 0, 1, 2, 3] fi_impl_NameOk.code) none
noncomputable abbrev impl_NameOk_l0_K (k m : Nat) : Ex → Fr → Option Res := blockK 0 (seqK (evC G_impl_NameOk fi_impl_NameOk (evF G_impl_NameOk (k + 1)) m (sub [1, 1] fi_impl_NameOk.code) none) (retK G_impl_NameOk fi_impl_NameOk))
theorem impl_NameOk_l0_eq (k m : Nat) : ∀ (n : Nat) (s2 : ByteArray) (i3 : Int), loopK (some [0, 3]) (impl_NameOk_l0_B k m) (impl_NameOk_l0_K k m) n ⟨fT 35 0 [(0, .av (.one (Cell.str s2))), (3, .av (.one (Cell.int i3)))], fX 35 0 [], []⟩ = impl_NameOk_l0 (k + 1) m n s2 i3 := by
  intro n
  induction n with
  | zero => intros; rfl
  | succ n ih =>
    intros
    simp only [impl_NameOk_l0, ← ih]
    kernel_rfl
theorem impl_NameOk_code (k m : Nat) (s1 : ByteArray) : evC G_impl_NameOk fi_impl_NameOk (evF G_impl_NameOk (k + 1)) m fi_impl_NameOk.code none (retK G_impl_NameOk fi_impl_NameOk) (enter fi_impl_NameOk [.one (Cell.str s1)] []) = impl_NameOk (k + 1) m s1 := by
  simp only [impl_NameOk, ← impl_NameOk_l0_eq k m]
  kernel_rfl
theorem impl_NameOk_eq (k : Nat) (s1 : ByteArray) : evF G_impl_NameOk (k + 2) fid_impl_NameOk [.one (Cell.str s1)] [] = impl_NameOk (k + 1) (k + 1) s1 :=
  Eq.trans (by kernel_rfl) (impl_NameOk_code k (k + 1) s1)
theorem run_impl_NameOk_of {s1 : ByteArray} {r : Res} (k : Nat) (h : impl_NameOk (k + 1) (k + 1) s1 = some r) : run_impl_NameOk [.one (Cell.str s1)] [] = some r := lim_of ((impl_NameOk_eq k s1).trans h)
noncomputable def pl_impl_LockText : List (Nat × Run) := [(fid_impl_VerText, run_impl_VerText), (fid_impl_NameOk, run_impl_NameOk), (fid_impl_VerOk, run_impl_VerOk), (fid_strings_Builder_WriteString, run_strings_Builder_WriteString), (fid_strings_Builder_String, run_strings_Builder_String)]
noncomputable def G_impl_LockText : Ctx := ctx tyTab fiTab pl_impl_LockText
noncomputable def run_impl_LockText : Run := lim G_impl_LockText fid_impl_LockText
theorem ok_impl_LockText : FnOk Tryd.prog OkT fid_impl_LockText run_impl_LockText := lim_ok (l := pl_impl_LockText) Tryd_mix tyTab_ok fiTab_ok okT (.cons ok_impl_VerText (.cons ok_impl_NameOk (.cons ok_impl_VerOk (.cons ok_strings_Builder_WriteString (.cons ok_strings_Builder_String .nil))))) fid_impl_LockText
noncomputable def impl_LockText_l0 (k m : Nat) : Nat → Cell → Cell → Int → Int → List Entry → Option Res
  | 0, _, _, _, _, _ => none
  | n + 1, c4, c5, i6, i7, H8 =>
    cond (decide (i7 < i6))
    ((idxA 5 (c5) i7).bind fun c9 =>
    (deref H8 (c9)).bind fun p10 =>
    (cS p10.1 p10.2).bind fun s11 =>
    (cI .i64 p10.1 (p10.2 + 1)).bind fun i12 =>
    (cI .i64 p10.1 ((p10.2 + 1) + 1)).bind fun i13 =>
    (cI .i64 p10.1 (((p10.2 + 1) + 1) + 1)).bind fun i14 =>
    (cC p10.1 ((((p10.2 + 1) + 1) + 1) + 1)).bind fun c15 =>
    (callS run_impl_NameOk [.one (Cell.str s11)] H8).bind fun r16 =>
    cond (shapeOk rk_impl_NameOk r16)
    ((cB (cellsAt r16 0) 0).bind fun b17 =>
    cond (!b17)
    (some ([.one (Cell.str (bs []))], H8))
    ((callS run_impl_VerOk [.agg [Cell.int i12, Cell.int i13, Cell.int i14, c15]] H8).bind fun r18 =>
    cond (shapeOk rk_impl_VerOk r18)
    ((cB (cellsAt r18 0) 0).bind fun b19 =>
    cond (!b19)
    (some ([.one (Cell.str (bs []))], H8))
    (cond (decide (i7 > 0))
    ((idxA 5 (c4) (IntKind.i64.wrap (i7 - 1))).bind fun c20 =>
    (fldA c20 0).bind fun c21 =>
    (deref H8 (c21)).bind fun p22 =>
    (cS p22.1 p22.2).bind fun s23 =>
    cond (Op.bytesLess s11.toList s23.toList || s11.toList == s23.toList)
    (some ([.one (Cell.str (bs []))], H8))
    ((catS s11 (bs [64])).bind fun s24 =>
    (callS run_impl_VerText [.agg [Cell.int i12, Cell.int i13, Cell.int i14, c15]] []).bind fun r25 =>
    cond (shapeOk rk_impl_VerText r25)
    ((cS (cellsAt r25 0) 0).bind fun s26 =>
    (catS s24 s26).bind fun s27 =>
    (catS s27 (bs [10])).bind fun s28 =>
    (run_strings_Builder_WriteString [.one (.bl 53 5 0 0), .one (Cell.str s28)] H8).bind fun r29 =>
    cond (shapeOk rk_strings_Builder_WriteString r29.1)
    ((cI .i64 (cellsAt r29.1 0) 0).bind fun i30 =>
    (cC (cellsAt r29.1 1) 0).bind fun c31 =>
    impl_LockText_l0 k m n (c4) (c5) i6 (IntKind.i64.wrap (i7 + 1)) r29.2)
    none)
    none))
    ((catS s11 (bs [64])).bind fun s32 =>
    (callS run_impl_VerText [.agg [Cell.int i12, Cell.int i13, Cell.int i14, c15]] []).bind fun r33 =>
    cond (shapeOk rk_impl_VerText r33)
    ((cS (cellsAt r33 0) 0).bind fun s34 =>
    (catS s32 s34).bind fun s35 =>
    (catS s35 (bs [10])).bind fun s36 =>
    (run_strings_Builder_WriteString [.one (.bl 53 5 0 0), .one (Cell.str s36)] H8).bind fun r37 =>
    cond (shapeOk rk_strings_Builder_WriteString r37.1)
    ((cI .i64 (cellsAt r37.1 0) 0).bind fun i38 =>
    (cC (cellsAt r37.1 1) 0).bind fun c39 =>
    impl_LockText_l0 k m n (c4) (c5) i6 (IntKind.i64.wrap (i7 + 1)) r37.2)
    none)
    none)))
    none))
    none)
    ((run_strings_Builder_String [.one (.bl 53 5 0 0)] H8).bind fun r40 =>
    cond (shapeOk rk_strings_Builder_String r40.1)
    ((cS (cellsAt r40.1 0) 0).bind fun s41 =>
    some ([.one (Cell.str s41)], r40.2))
    none)
noncomputable def impl_LockText (k m : Nat) (c1 : Cell) : Option Res :=
  (lenC c1).bind fun n2 =>
  cond (decide ((n2 : Int) > 12))
  (some ([.one (Cell.str (bs []))], []))
  ((lenC c1).bind fun n3 =>
  impl_LockText_l0 k m m (c1) (c1) (n3 : Int) 0 [Entry.mk 1 [[Cell.str (bs [])]] 0 false, Entry.mk 1 [] 0 false])
noncomputable abbrev impl_LockText_l0_B (k m : Nat) : (Ex → Fr → Option Res) → Fr → Option Res := evC G_impl_LockText fi_impl_LockText (evF G_impl_LockText (k + 1)) m (sub [1, 1, 1, 0, 1, 2, 3] fi_impl_LockText.code) none
noncomputable abbrev impl_LockText_l0_K (k m : Nat) : Ex → Fr → Option Res := blockK 0 (seqK (evC G_impl_LockText fi_impl_LockText (evF G_impl_LockText (k + 1)) m (sub [1, 1, 1, 1] fi_impl_LockText.code) none) (retK G_impl_LockText fi_impl_LockText))
theorem impl_LockText_l0_eq (k m : Nat) : ∀ (n : Nat) (c4 : Cell) (c5 : Cell) (i6 : Int) (i7 : Int) (H8 : List Entry), loopK (some [0, 3, 9, 10, 11]) (impl_LockText_l0_B k m) (impl_LockText_l0_K k m) n ⟨fT 52 0 [(0, .av (.one (c4))), (3, .av (.one (.bl 53 5 0 0))), (9, .av (.one (c5))), (10, .av (.one (Cell.int i6))), (11, .av (.one (Cell.int i7)))], fX 52 0 [], H8⟩ = impl_LockText_l0 (k + 1) m n c4 c5 i6 i7 H8 := by
  intro n
  induction n with
  | zero => intros; rfl
  | succ n ih =>
    intros
    simp only [impl_LockText_l0, ← ih]
    kernel_rfl
theorem impl_LockText_code (k m : Nat) (c1 : Cell) : evC G_impl_LockText fi_impl_LockText (evF G_impl_LockText (k + 1)) m fi_impl_LockText.code none (retK G_impl_LockText fi_impl_LockText) (enter fi_impl_LockText [.one (c1)] []) = impl_LockText (k + 1) m c1 := by
  simp only [impl_LockText, ← impl_LockText_l0_eq k m]
  kernel_rfl
theorem impl_LockText_eq (k : Nat) (c1 : Cell) : evF G_impl_LockText (k + 2) fid_impl_LockText [.one (c1)] [] = impl_LockText (k + 1) (k + 1) c1 :=
  Eq.trans (by kernel_rfl) (impl_LockText_code k (k + 1) c1)
theorem run_impl_LockText_of {c1 : Cell} {r : Res} (k : Nat) (h : impl_LockText (k + 1) (k + 1) c1 = some r) : run_impl_LockText [.one (c1)] [] = some r := lim_of ((impl_LockText_eq k c1).trans h)
noncomputable def pl_impl_ParseLock : List (Nat × Run) := [(fid_strings_Cut, run_strings_Cut), (fid_impl_ParseVer, run_impl_ParseVer), (fid_impl_LockText, run_impl_LockText)]
noncomputable def G_impl_ParseLock : Ctx := ctx tyTab fiTab pl_impl_ParseLock
noncomputable def run_impl_ParseLock : Run := lim G_impl_ParseLock fid_impl_ParseLock
theorem ok_impl_ParseLock : FnOk Tryd.prog OkT fid_impl_ParseLock run_impl_ParseLock := lim_ok (l := pl_impl_ParseLock) Tryd_mix tyTab_ok fiTab_ok okT (.cons ok_strings_Cut (.cons ok_impl_ParseVer (.cons ok_impl_LockText .nil))) fid_impl_ParseLock
noncomputable def impl_ParseLock_l0 (k m : Nat) : Nat → ByteArray → Cell → ByteArray → List Entry → Option Res
  | 0, _, _, _, _ => none
  | n + 1, s2, c3, s4, H5 =>
    cond (!(s4.toList == (bs []).toList))
    ((lenC c3).bind fun n6 =>
    cond (decide ((n6 : Int) ≤ 12))
    ((callS run_strings_Cut [.one (Cell.str s4), .one (Cell.str (bs [10]))] H5).bind fun r7 =>
    cond (shapeOk rk_strings_Cut r7)
    ((cS (cellsAt r7 0) 0).bind fun s8 =>
    (cS (cellsAt r7 1) 0).bind fun s9 =>
    (cB (cellsAt r7 2) 0).bind fun b10 =>
    (callS run_strings_Cut [.one (Cell.str s8), .one (Cell.str (bs [64]))] H5).bind fun r11 =>
    cond (shapeOk rk_strings_Cut r11)
    ((cS (cellsAt r11 0) 0).bind fun s12 =>
    (cS (cellsAt r11 1) 0).bind fun s13 =>
    (cB (cellsAt r11 2) 0).bind fun b14 =>
    (callF run_impl_ParseVer [.one (Cell.str s13)] H5).bind fun r15 =>
    cond (shapeOk rk_impl_ParseVer r15.1)
    ((cI .i64 (cellsAt r15.1 0) 0).bind fun i16 =>
    (cI .i64 (cellsAt r15.1 0) 1).bind fun i17 =>
    (cI .i64 (cellsAt r15.1 0) 2).bind fun i18 =>
    (cC (cellsAt r15.1 0) 3).bind fun c19 =>
    (cB (cellsAt r15.1 1) 0).bind fun b20 =>
    cond (!b20)
    (some ([.one (.lst true 5 []), .one (Cell.bool false)], r15.2))
    ((srcRows (r15.2 ++ [Entry.mk 5 [[Cell.str s12, Cell.int i16, Cell.int i17, Cell.int i18, c19]] 0 false]) 5 (.vs r15.2.length 5 0 1 0)).bind fun r21 =>
    (app (r15.2 ++ [Entry.mk 5 [[Cell.str s12, Cell.int i16, Cell.int i17, Cell.int i18, c19]] 0 false]) 5 64 (c3) r21).bind fun p22 =>
    impl_ParseLock_l0 k m n s2 (p22.1) s9 p22.2))
    none)
    none)
    none)
    ((callS run_impl_LockText [.one (c3)] H5).bind fun r23 =>
    cond (shapeOk rk_impl_LockText r23)
    ((cS (cellsAt r23 0) 0).bind fun s24 =>
    cond (!(s24.toList == s2.toList))
    (some ([.one (.lst true 5 []), .one (Cell.bool false)], H5))
    (some ([.one (c3), .one (Cell.bool true)], H5)))
    none))
    ((callS run_impl_LockText [.one (c3)] H5).bind fun r25 =>
    cond (shapeOk rk_impl_LockText r25)
    ((cS (cellsAt r25 0) 0).bind fun s26 =>
    cond (!(s26.toList == s2.toList))
    (some ([.one (.lst true 5 []), .one (Cell.bool false)], H5))
    (some ([.one (c3), .one (Cell.bool true)], H5)))
    none)
noncomputable def impl_ParseLock (k m : Nat) (s1 : ByteArray) : Option Res :=
  impl_ParseLock_l0 k m m s1 (.lst true 5 []) s1 []
noncomputable abbrev impl_ParseLock_l0_B (k m : Nat) : (Ex → Fr → Option Res) → Fr → Option Res := evC G_impl_ParseLock fi_impl_ParseLock (evF G_impl_ParseLock (k + 1)) m (sub [1, 1, 0, 1, 2, 3] fi_impl_ParseLock.code) none
noncomputable abbrev impl_ParseLock_l0_K (k m : Nat) : Ex → Fr → Option Res := blockK 0 (seqK (evC G_impl_ParseLock fi_impl_ParseLock (evF G_impl_ParseLock (k + 1)) m (sub [1, 1, 1] fi_impl_ParseLock.code) none) (retK G_impl_ParseLock fi_impl_ParseLock))
theorem impl_ParseLock_l0_eq (k m : Nat) : ∀ (n : Nat) (s2 : ByteArray) (c3 : Cell) (s4 : ByteArray) (H5 : List Entry), loopK (some [0, 4, 5]) (impl_ParseLock_l0_B k m) (impl_ParseLock_l0_K k m) n ⟨fT 53 0 [(0, .av (.one (Cell.str s2))), (4, .av (.one (c3))), (5, .av (.one (Cell.str s4)))], fX 53 0 [], H5⟩ = impl_ParseLock_l0 (k + 1) m n s2 c3 s4 H5 := by
  intro n
  induction n with
  | zero => intros; rfl
  | succ n ih =>
    intros
    simp only [impl_ParseLock_l0, ← ih]
    kernel_rfl
theorem impl_ParseLock_code (k m : Nat) (s1 : ByteArray) : evC G_impl_ParseLock fi_impl_ParseLock (evF G_impl_ParseLock (k + 1)) m fi_impl_ParseLock.code none (retK G_impl_ParseLock fi_impl_ParseLock) (enter fi_impl_ParseLock [.one (Cell.str s1)] []) = impl_ParseLock (k + 1) m s1 := by
  simp only [impl_ParseLock, ← impl_ParseLock_l0_eq k m]
  kernel_rfl
theorem impl_ParseLock_eq (k : Nat) (s1 : ByteArray) : evF G_impl_ParseLock (k + 2) fid_impl_ParseLock [.one (Cell.str s1)] [] = impl_ParseLock (k + 1) (k + 1) s1 :=
  Eq.trans (by kernel_rfl) (impl_ParseLock_code k (k + 1) s1)
theorem run_impl_ParseLock_of {s1 : ByteArray} {r : Res} (k : Nat) (h : impl_ParseLock (k + 1) (k + 1) s1 = some r) : run_impl_ParseLock [.one (Cell.str s1)] [] = some r := lim_of ((impl_ParseLock_eq k s1).trans h)
noncomputable def pl_laws_eqStringS : List (Nat × Run) := []
noncomputable def G_laws_eqStringS : Ctx := ctx tyTab fiTab pl_laws_eqStringS
noncomputable def run_laws_eqStringS : Run := lim G_laws_eqStringS fid_laws_eqStringS
theorem ok_laws_eqStringS : FnOk Tryd.prog OkT fid_laws_eqStringS run_laws_eqStringS := lim_ok (l := pl_laws_eqStringS) Tryd_mix tyTab_ok fiTab_ok okT .nil fid_laws_eqStringS
noncomputable def laws_eqStringS_l0 (k m : Nat) : Nat → Cell → Cell → Int → Option Res
  | 0, _, _, _ => none
  | n + 1, c5, c6, i7 =>
    (lenC c5).bind fun n8 =>
    cond (decide (i7 < (n8 : Int)))
    ((idxA 1 (c5) i7).bind fun c9 =>
    (deref [] (c9)).bind fun p10 =>
    (cS p10.1 p10.2).bind fun s11 =>
    (idxA 1 (c6) i7).bind fun c12 =>
    (deref [] (c12)).bind fun p13 =>
    (cS p13.1 p13.2).bind fun s14 =>
    cond (!(s11.toList == s14.toList))
    (some ([.one (Cell.bool false)], []))
    (laws_eqStringS_l0 k m n (c5) (c6) (IntKind.i64.wrap (i7 + 1))))
    (some ([.one (Cell.bool true)], []))
noncomputable def laws_eqStringS (k m : Nat) (c1 : Cell) (c2 : Cell) : Option Res :=
  (lenC c1).bind fun n3 =>
  (lenC c2).bind fun n4 =>
  cond ((n3 : Int) != (n4 : Int))
  (some ([.one (Cell.bool false)], []))
  (laws_eqStringS_l0 k m m (c1) (c2) 0)
noncomputable abbrev laws_eqStringS_l0_B (k m : Nat) : (Ex → Fr → Option Res) → Fr → Option Res := evC G_laws_eqStringS fi_laws_eqStringS (evF G_laws_eqStringS (k + 1)) m (sub [1, 1, 0, 1, 2, 3] fi_laws_eqStringS.code) none
noncomputable abbrev laws_eqStringS_l0_K (k m : Nat) : Ex → Fr → Option Res := blockK 0 (seqK (evC G_laws_eqStringS fi_laws_eqStringS (evF G_laws_eqStringS (k + 1)) m (sub [1, 1, 1] fi_laws_eqStringS.code) none) (retK G_laws_eqStringS fi_laws_eqStringS))
theorem laws_eqStringS_l0_eq (k m : Nat) : ∀ (n : Nat) (c5 : Cell) (c6 : Cell) (i7 : Int), loopK (some [0, 1, 5]) (laws_eqStringS_l0_B k m) (laws_eqStringS_l0_K k m) n ⟨fT 26 0 [(0, .av (.one (c5))), (1, .av (.one (c6))), (5, .av (.one (Cell.int i7)))], fX 26 0 [], []⟩ = laws_eqStringS_l0 (k + 1) m n c5 c6 i7 := by
  intro n
  induction n with
  | zero => intros; rfl
  | succ n ih =>
    intros
    simp only [laws_eqStringS_l0, ← ih]
    kernel_rfl
theorem laws_eqStringS_code (k m : Nat) (c1 : Cell) (c2 : Cell) : evC G_laws_eqStringS fi_laws_eqStringS (evF G_laws_eqStringS (k + 1)) m fi_laws_eqStringS.code none (retK G_laws_eqStringS fi_laws_eqStringS) (enter fi_laws_eqStringS [.one (c1), .one (c2)] []) = laws_eqStringS (k + 1) m c1 c2 := by
  simp only [laws_eqStringS, ← laws_eqStringS_l0_eq k m]
  kernel_rfl
theorem laws_eqStringS_eq (k : Nat) (c1 : Cell) (c2 : Cell) : evF G_laws_eqStringS (k + 2) fid_laws_eqStringS [.one (c1), .one (c2)] [] = laws_eqStringS (k + 1) (k + 1) c1 c2 :=
  Eq.trans (by kernel_rfl) (laws_eqStringS_code k (k + 1) c1 c2)
theorem run_laws_eqStringS_of {c1 : Cell} {c2 : Cell} {r : Res} (k : Nat) (h : laws_eqStringS (k + 1) (k + 1) c1 c2 = some r) : run_laws_eqStringS [.one (c1), .one (c2)] [] = some r := lim_of ((laws_eqStringS_eq k c1 c2).trans h)
noncomputable def pl_laws_eqVer : List (Nat × Run) := [(fid_laws_eqStringS, run_laws_eqStringS)]
noncomputable def G_laws_eqVer : Ctx := ctx tyTab fiTab pl_laws_eqVer
noncomputable def run_laws_eqVer : Run := lim G_laws_eqVer fid_laws_eqVer
theorem ok_laws_eqVer : FnOk Tryd.prog OkT fid_laws_eqVer run_laws_eqVer := lim_ok (l := pl_laws_eqVer) Tryd_mix tyTab_ok fiTab_ok okT (.cons ok_laws_eqStringS .nil) fid_laws_eqVer
noncomputable def laws_eqVer (k m : Nat) (i1 : Int) (i2 : Int) (i3 : Int) (c4 : Cell) (i5 : Int) (i6 : Int) (i7 : Int) (c8 : Cell) : Option Res :=
  cond (i1 != i5)
  (some ([.one (Cell.bool false)], []))
  (cond (i2 != i6)
  (some ([.one (Cell.bool false)], []))
  (cond (i3 != i7)
  (some ([.one (Cell.bool false)], []))
  ((callS run_laws_eqStringS [.one (c4), .one (c8)] []).bind fun r9 =>
  cond (shapeOk rk_laws_eqStringS r9)
  ((cB (cellsAt r9 0) 0).bind fun b10 =>
  cond (!b10)
  (some ([.one (Cell.bool false)], []))
  (some ([.one (Cell.bool true)], [])))
  none)))
theorem laws_eqVer_code (k m : Nat) (i1 : Int) (i2 : Int) (i3 : Int) (c4 : Cell) (i5 : Int) (i6 : Int) (i7 : Int) (c8 : Cell) : evC G_laws_eqVer fi_laws_eqVer (evF G_laws_eqVer (k + 1)) m fi_laws_eqVer.code none (retK G_laws_eqVer fi_laws_eqVer) (enter fi_laws_eqVer [.agg [Cell.int i1, Cell.int i2, Cell.int i3, c4], .agg [Cell.int i5, Cell.int i6, Cell.int i7, c8]] []) = laws_eqVer (k + 1) m i1 i2 i3 c4 i5 i6 i7 c8 := by
  kernel_rfl
theorem laws_eqVer_eq (k : Nat) (i1 : Int) (i2 : Int) (i3 : Int) (c4 : Cell) (i5 : Int) (i6 : Int) (i7 : Int) (c8 : Cell) : evF G_laws_eqVer (k + 2) fid_laws_eqVer [.agg [Cell.int i1, Cell.int i2, Cell.int i3, c4], .agg [Cell.int i5, Cell.int i6, Cell.int i7, c8]] [] = laws_eqVer (k + 1) (k + 1) i1 i2 i3 c4 i5 i6 i7 c8 :=
  Eq.trans (by kernel_rfl) (laws_eqVer_code k (k + 1) i1 i2 i3 c4 i5 i6 i7 c8)
theorem run_laws_eqVer_of {i1 : Int} {i2 : Int} {i3 : Int} {c4 : Cell} {i5 : Int} {i6 : Int} {i7 : Int} {c8 : Cell} {r : Res} (k : Nat) (h : laws_eqVer (k + 1) (k + 1) i1 i2 i3 c4 i5 i6 i7 c8 = some r) : run_laws_eqVer [.agg [Cell.int i1, Cell.int i2, Cell.int i3, c4], .agg [Cell.int i5, Cell.int i6, Cell.int i7, c8]] [] = some r := lim_of ((laws_eqVer_eq k i1 i2 i3 c4 i5 i6 i7 c8).trans h)
noncomputable def pl_laws_eqPick : List (Nat × Run) := [(fid_laws_eqVer, run_laws_eqVer)]
noncomputable def G_laws_eqPick : Ctx := ctx tyTab fiTab pl_laws_eqPick
noncomputable def run_laws_eqPick : Run := lim G_laws_eqPick fid_laws_eqPick
theorem ok_laws_eqPick : FnOk Tryd.prog OkT fid_laws_eqPick run_laws_eqPick := lim_ok (l := pl_laws_eqPick) Tryd_mix tyTab_ok fiTab_ok okT (.cons ok_laws_eqVer .nil) fid_laws_eqPick
noncomputable def laws_eqPick (k m : Nat) (s1 : ByteArray) (i2 : Int) (i3 : Int) (i4 : Int) (c5 : Cell) (s6 : ByteArray) (i7 : Int) (i8 : Int) (i9 : Int) (c10 : Cell) : Option Res :=
  cond (!(s1.toList == s6.toList))
  (some ([.one (Cell.bool false)], []))
  ((callS run_laws_eqVer [.agg [Cell.int i2, Cell.int i3, Cell.int i4, c5], .agg [Cell.int i7, Cell.int i8, Cell.int i9, c10]] []).bind fun r11 =>
  cond (shapeOk rk_laws_eqVer r11)
  ((cB (cellsAt r11 0) 0).bind fun b12 =>
  cond (!b12)
  (some ([.one (Cell.bool false)], []))
  (some ([.one (Cell.bool true)], [])))
  none)
theorem laws_eqPick_code (k m : Nat) (s1 : ByteArray) (i2 : Int) (i3 : Int) (i4 : Int) (c5 : Cell) (s6 : ByteArray) (i7 : Int) (i8 : Int) (i9 : Int) (c10 : Cell) : evC G_laws_eqPick fi_laws_eqPick (evF G_laws_eqPick (k + 1)) m fi_laws_eqPick.code none (retK G_laws_eqPick fi_laws_eqPick) (enter fi_laws_eqPick [.agg [Cell.str s1, Cell.int i2, Cell.int i3, Cell.int i4, c5], .agg [Cell.str s6, Cell.int i7, Cell.int i8, Cell.int i9, c10]] []) = laws_eqPick (k + 1) m s1 i2 i3 i4 c5 s6 i7 i8 i9 c10 := by
  kernel_rfl
theorem laws_eqPick_eq (k : Nat) (s1 : ByteArray) (i2 : Int) (i3 : Int) (i4 : Int) (c5 : Cell) (s6 : ByteArray) (i7 : Int) (i8 : Int) (i9 : Int) (c10 : Cell) : evF G_laws_eqPick (k + 2) fid_laws_eqPick [.agg [Cell.str s1, Cell.int i2, Cell.int i3, Cell.int i4, c5], .agg [Cell.str s6, Cell.int i7, Cell.int i8, Cell.int i9, c10]] [] = laws_eqPick (k + 1) (k + 1) s1 i2 i3 i4 c5 s6 i7 i8 i9 c10 :=
  Eq.trans (by kernel_rfl) (laws_eqPick_code k (k + 1) s1 i2 i3 i4 c5 s6 i7 i8 i9 c10)
theorem run_laws_eqPick_of {s1 : ByteArray} {i2 : Int} {i3 : Int} {i4 : Int} {c5 : Cell} {s6 : ByteArray} {i7 : Int} {i8 : Int} {i9 : Int} {c10 : Cell} {r : Res} (k : Nat) (h : laws_eqPick (k + 1) (k + 1) s1 i2 i3 i4 c5 s6 i7 i8 i9 c10 = some r) : run_laws_eqPick [.agg [Cell.str s1, Cell.int i2, Cell.int i3, Cell.int i4, c5], .agg [Cell.str s6, Cell.int i7, Cell.int i8, Cell.int i9, c10]] [] = some r := lim_of ((laws_eqPick_eq k s1 i2 i3 i4 c5 s6 i7 i8 i9 c10).trans h)
noncomputable def pl_laws_eqPickS : List (Nat × Run) := [(fid_laws_eqPick, run_laws_eqPick)]
noncomputable def G_laws_eqPickS : Ctx := ctx tyTab fiTab pl_laws_eqPickS
noncomputable def run_laws_eqPickS : Run := lim G_laws_eqPickS fid_laws_eqPickS
theorem ok_laws_eqPickS : FnOk Tryd.prog OkT fid_laws_eqPickS run_laws_eqPickS := lim_ok (l := pl_laws_eqPickS) Tryd_mix tyTab_ok fiTab_ok okT (.cons ok_laws_eqPick .nil) fid_laws_eqPickS
noncomputable def laws_eqPickS_l0 (k m : Nat) : Nat → Cell → Cell → Int → Option Res
  | 0, _, _, _ => none
  | n + 1, c5, c6, i7 =>
    (lenC c5).bind fun n8 =>
    cond (decide (i7 < (n8 : Int)))
    ((idxA 5 (c5) i7).bind fun c9 =>
    (deref [] (c9)).bind fun p10 =>
    (cS p10.1 p10.2).bind fun s11 =>
    (cI .i64 p10.1 (p10.2 + 1)).bind fun i12 =>
    (cI .i64 p10.1 ((p10.2 + 1) + 1)).bind fun i13 =>
    (cI .i64 p10.1 (((p10.2 + 1) + 1) + 1)).bind fun i14 =>
    (cC p10.1 ((((p10.2 + 1) + 1) + 1) + 1)).bind fun c15 =>
    (idxA 5 (c6) i7).bind fun c16 =>
    (deref [] (c16)).bind fun p17 =>
    (cS p17.1 p17.2).bind fun s18 =>
    (cI .i64 p17.1 (p17.2 + 1)).bind fun i19 =>
    (cI .i64 p17.1 ((p17.2 + 1) + 1)).bind fun i20 =>
    (cI .i64 p17.1 (((p17.2 + 1) + 1) + 1)).bind fun i21 =>
    (cC p17.1 ((((p17.2 + 1) + 1) + 1) + 1)).bind fun c22 =>
    (callS run_laws_eqPick [.agg [Cell.str s11, Cell.int i12, Cell.int i13, Cell.int i14, c15], .agg [Cell.str s18, Cell.int i19, Cell.int i20, Cell.int i21, c22]] []).bind fun r23 =>
    cond (shapeOk rk_laws_eqPick r23)
    ((cB (cellsAt r23 0) 0).bind fun b24 =>
    cond (!b24)
    (some ([.one (Cell.bool false)], []))
    (laws_eqPickS_l0 k m n (c5) (c6) (IntKind.i64.wrap (i7 + 1))))
    none)
    (some ([.one (Cell.bool true)], []))
noncomputable def laws_eqPickS (k m : Nat) (c1 : Cell) (c2 : Cell) : Option Res :=
  (lenC c1).bind fun n3 =>
  (lenC c2).bind fun n4 =>
  cond ((n3 : Int) != (n4 : Int))
  (some ([.one (Cell.bool false)], []))
  (laws_eqPickS_l0 k m m (c1) (c2) 0)
noncomputable abbrev laws_eqPickS_l0_B (k m : Nat) : (Ex → Fr → Option Res) → Fr → Option Res := evC G_laws_eqPickS fi_laws_eqPickS (evF G_laws_eqPickS (k + 1)) m (sub [1, 1, 0, 1, 2, 3] fi_laws_eqPickS.code) none
noncomputable abbrev laws_eqPickS_l0_K (k m : Nat) : Ex → Fr → Option Res := blockK 0 (seqK (evC G_laws_eqPickS fi_laws_eqPickS (evF G_laws_eqPickS (k + 1)) m (sub [1, 1, 1] fi_laws_eqPickS.code) none) (retK G_laws_eqPickS fi_laws_eqPickS))
theorem laws_eqPickS_l0_eq (k m : Nat) : ∀ (n : Nat) (c5 : Cell) (c6 : Cell) (i7 : Int), loopK (some [0, 1, 5]) (laws_eqPickS_l0_B k m) (laws_eqPickS_l0_K k m) n ⟨fT 27 0 [(0, .av (.one (c5))), (1, .av (.one (c6))), (5, .av (.one (Cell.int i7)))], fX 27 0 [], []⟩ = laws_eqPickS_l0 (k + 1) m n c5 c6 i7 := by
  intro n
  induction n with
  | zero => intros; rfl
  | succ n ih =>
    intros
    simp only [laws_eqPickS_l0, ← ih]
    kernel_rfl
theorem laws_eqPickS_code (k m : Nat) (c1 : Cell) (c2 : Cell) : evC G_laws_eqPickS fi_laws_eqPickS (evF G_laws_eqPickS (k + 1)) m fi_laws_eqPickS.code none (retK G_laws_eqPickS fi_laws_eqPickS) (enter fi_laws_eqPickS [.one (c1), .one (c2)] []) = laws_eqPickS (k + 1) m c1 c2 := by
  simp only [laws_eqPickS, ← laws_eqPickS_l0_eq k m]
  kernel_rfl
theorem laws_eqPickS_eq (k : Nat) (c1 : Cell) (c2 : Cell) : evF G_laws_eqPickS (k + 2) fid_laws_eqPickS [.one (c1), .one (c2)] [] = laws_eqPickS (k + 1) (k + 1) c1 c2 :=
  Eq.trans (by kernel_rfl) (laws_eqPickS_code k (k + 1) c1 c2)
theorem run_laws_eqPickS_of {c1 : Cell} {c2 : Cell} {r : Res} (k : Nat) (h : laws_eqPickS (k + 1) (k + 1) c1 c2 = some r) : run_laws_eqPickS [.one (c1), .one (c2)] [] = some r := lim_of ((laws_eqPickS_eq k c1 c2).trans h)
noncomputable def pl_laws_markText : List (Nat × Run) := []
noncomputable def G_laws_markText : Ctx := ctx tyTab fiTab pl_laws_markText
noncomputable def run_laws_markText : Run := lim G_laws_markText fid_laws_markText
theorem ok_laws_markText : FnOk Tryd.prog OkT fid_laws_markText run_laws_markText := lim_ok (l := pl_laws_markText) Tryd_mix tyTab_ok fiTab_ok okT .nil fid_laws_markText
noncomputable def laws_markText_l0 (k m : Nat) : Nat → Int → ByteArray → Option Res
  | 0, _, _ => none
  | n + 1, i2, s3 =>
    cond (decide (i2 > 0))
    ((bytesOf [] (.lst true 1 [[.sc (.int .u8 (IntKind.u8.wrap (IntKind.i64.wrap (48 + (i2.tmod 10)))))]])).bind fun s4 =>
    (catS s4 s3).bind fun s5 =>
    laws_markText_l0 k m n (IntKind.i64.wrap (i2.tdiv 10)) s5)
    ((catS (bs [109]) s3).bind fun s6 =>
    some ([.one (Cell.str s6)], []))
noncomputable def laws_markText (k m : Nat) (i1 : Int) : Option Res :=
  cond (decide (i1 ≤ 0))
  (some ([.one (Cell.str (bs [109, 48]))], []))
  (laws_markText_l0 k m m i1 (bs []))
noncomputable abbrev laws_markText_l0_B (k m : Nat) : (Ex → Fr → Option Res) → Fr → Option Res := evC G_laws_markText fi_laws_markText (evF G_laws_markText (k + 1)) m (sub [1, 1, 1, 0, 2, 3] fi_laws_markText.code) none
noncomputable abbrev laws_markText_l0_K (k m : Nat) : Ex → Fr → Option Res := blockK 0 (seqK (evC G_laws_markText fi_laws_markText (evF G_laws_markText (k + 1)) m (sub [1, 1, 1, 1] fi_laws_markText.code) none) (retK G_laws_markText fi_laws_markText))
theorem laws_markText_l0_eq (k m : Nat) : ∀ (n : Nat) (i2 : Int) (s3 : ByteArray), loopK (some [0, 3]) (laws_markText_l0_B k m) (laws_markText_l0_K k m) n ⟨fT 20 0 [(0, .av (.one (Cell.int i2))), (3, .av (.one (Cell.str s3)))], fX 20 0 [], []⟩ = laws_markText_l0 (k + 1) m n i2 s3 := by
  intro n
  induction n with
  | zero => intros; rfl
  | succ n ih =>
    intros
    simp only [laws_markText_l0, ← ih]
    kernel_rfl
theorem laws_markText_code (k m : Nat) (i1 : Int) : evC G_laws_markText fi_laws_markText (evF G_laws_markText (k + 1)) m fi_laws_markText.code none (retK G_laws_markText fi_laws_markText) (enter fi_laws_markText [.one (Cell.int i1)] []) = laws_markText (k + 1) m i1 := by
  simp only [laws_markText, ← laws_markText_l0_eq k m]
  kernel_rfl
theorem laws_markText_eq (k : Nat) (i1 : Int) : evF G_laws_markText (k + 2) fid_laws_markText [.one (Cell.int i1)] [] = laws_markText (k + 1) (k + 1) i1 :=
  Eq.trans (by kernel_rfl) (laws_markText_code k (k + 1) i1)
theorem run_laws_markText_of {i1 : Int} {r : Res} (k : Nat) (h : laws_markText (k + 1) (k + 1) i1 = some r) : run_laws_markText [.one (Cell.int i1)] [] = some r := lim_of ((laws_markText_eq k i1).trans h)
noncomputable def pl_laws_markStringS : List (Nat × Run) := [(fid_laws_markText, run_laws_markText)]
noncomputable def G_laws_markStringS : Ctx := ctx tyTab fiTab pl_laws_markStringS
noncomputable def run_laws_markStringS : Run := lim G_laws_markStringS fid_laws_markStringS
theorem ok_laws_markStringS : FnOk Tryd.prog OkT fid_laws_markStringS run_laws_markStringS := lim_ok (l := pl_laws_markStringS) Tryd_mix tyTab_ok fiTab_ok okT (.cons ok_laws_markText .nil) fid_laws_markStringS
noncomputable def laws_markStringS_l0 (k m : Nat) : Nat → Cell → Int → Int → List Entry → Option Res
  | 0, _, _, _, _ => none
  | n + 1, c3, i4, i5, H6 =>
    (lenC c3).bind fun n7 =>
    cond (decide (i5 < (n7 : Int)))
    ((callS run_laws_markText [.one (Cell.int i4)] H6).bind fun r8 =>
    cond (shapeOk rk_laws_markText r8)
    ((cS (cellsAt r8 0) 0).bind fun s9 =>
    (idxA 1 (c3) i5).bind fun c10 =>
    (hStore H6 (c10) [Cell.str s9]).bind fun h11 =>
    laws_markStringS_l0 k m n (c3) (IntKind.i64.wrap (i4 + 1)) (IntKind.i64.wrap (i5 + 1)) h11)
    none)
    (some ([.one (Cell.int i4)], H6))
noncomputable def laws_markStringS (k m : Nat) (c1 : Cell) (i2 : Int) (H : List Entry) : Option Res :=
  laws_markStringS_l0 k m m (c1) i2 0 H
noncomputable abbrev laws_markStringS_l0_B (k m : Nat) : (Ex → Fr → Option Res) → Fr → Option Res := evC G_laws_markStringS fi_laws_markStringS (evF G_laws_markStringS (k + 1)) m (sub [1, 0, 1, 2, 3] fi_laws_markStringS.code) none
noncomputable abbrev laws_markStringS_l0_K (k m : Nat) : Ex → Fr → Option Res := blockK 0 (seqK (evC G_laws_markStringS fi_laws_markStringS (evF G_laws_markStringS (k + 1)) m (sub [1, 1] fi_laws_markStringS.code) none) (retK G_laws_markStringS fi_laws_markStringS))
theorem laws_markStringS_l0_eq (k m : Nat) : ∀ (n : Nat) (c3 : Cell) (i4 : Int) (i5 : Int) (H6 : List Entry), loopK (some [0, 1, 5]) (laws_markStringS_l0_B k m) (laws_markStringS_l0_K k m) n ⟨fT 20 0 [(0, .av (.one (c3))), (1, .av (.one (Cell.int i4))), (5, .av (.one (Cell.int i5)))], fX 20 0 [], H6⟩ = laws_markStringS_l0 (k + 1) m n c3 i4 i5 H6 := by
  intro n
  induction n with
  | zero => intros; rfl
  | succ n ih =>
    intros
    simp only [laws_markStringS_l0, ← ih]
    kernel_rfl
theorem laws_markStringS_code (k m : Nat) (c1 : Cell) (i2 : Int) (H : List Entry) : evC G_laws_markStringS fi_laws_markStringS (evF G_laws_markStringS (k + 1)) m fi_laws_markStringS.code none (retK G_laws_markStringS fi_laws_markStringS) (enter fi_laws_markStringS [.one (c1), .one (Cell.int i2)] H) = laws_markStringS (k + 1) m c1 i2 H := by
  simp only [laws_markStringS, ← laws_markStringS_l0_eq k m]
  kernel_rfl
theorem laws_markStringS_eq (k : Nat) (c1 : Cell) (i2 : Int) (H : List Entry) : evF G_laws_markStringS (k + 2) fid_laws_markStringS [.one (c1), .one (Cell.int i2)] H = laws_markStringS (k + 1) (k + 1) c1 i2 H :=
  Eq.trans (by kernel_rfl) (laws_markStringS_code k (k + 1) c1 i2 H)
theorem run_laws_markStringS_of {c1 : Cell} {i2 : Int} {H : List Entry} {r : Res} (k : Nat) (h : laws_markStringS (k + 1) (k + 1) c1 i2 H = some r) : run_laws_markStringS [.one (c1), .one (Cell.int i2)] H = some r := lim_of ((laws_markStringS_eq k c1 i2 H).trans h)
noncomputable def pl_laws_markPickS : List (Nat × Run) := [(fid_laws_markText, run_laws_markText), (fid_laws_markStringS, run_laws_markStringS)]
noncomputable def G_laws_markPickS : Ctx := ctx tyTab fiTab pl_laws_markPickS
noncomputable def run_laws_markPickS : Run := lim G_laws_markPickS fid_laws_markPickS
theorem ok_laws_markPickS : FnOk Tryd.prog OkT fid_laws_markPickS run_laws_markPickS := lim_ok (l := pl_laws_markPickS) Tryd_mix tyTab_ok fiTab_ok okT (.cons ok_laws_markText (.cons ok_laws_markStringS .nil)) fid_laws_markPickS
noncomputable def laws_markPickS_l0 (k m : Nat) : Nat → Cell → Int → Int → List Entry → Option Res
  | 0, _, _, _, _ => none
  | n + 1, c3, i4, i5, H6 =>
    (lenC c3).bind fun n7 =>
    cond (decide (i5 < (n7 : Int)))
    ((callS run_laws_markText [.one (Cell.int i4)] H6).bind fun r8 =>
    cond (shapeOk rk_laws_markText r8)
    ((cS (cellsAt r8 0) 0).bind fun s9 =>
    (idxA 5 (c3) i5).bind fun c10 =>
    (fldA c10 0).bind fun c11 =>
    (hStore H6 (c11) [Cell.str s9]).bind fun h12 =>
    (idxA 5 (c3) i5).bind fun c13 =>
    (fldA c13 1).bind fun c14 =>
    (fldA c14 0).bind fun c15 =>
    (hStore h12 (c15) [Cell.int (IntKind.i64.wrap (i4 + 1))]).bind fun h16 =>
    (idxA 5 (c3) i5).bind fun c17 =>
    (fldA c17 1).bind fun c18 =>
    (fldA c18 1).bind fun c19 =>
    (hStore h16 (c19) [Cell.int (IntKind.i64.wrap ((IntKind.i64.wrap (i4 + 1)) + 1))]).bind fun h20 =>
    (idxA 5 (c3) i5).bind fun c21 =>
    (fldA c21 1).bind fun c22 =>
    (fldA c22 2).bind fun c23 =>
    (hStore h20 (c23) [Cell.int (IntKind.i64.wrap ((IntKind.i64.wrap ((IntKind.i64.wrap (i4 + 1)) + 1)) + 1))]).bind fun h24 =>
    (idxA 5 (c3) i5).bind fun c25 =>
    (fldA c25 1).bind fun c26 =>
    (fldA c26 3).bind fun c27 =>
    (deref h24 (c27)).bind fun p28 =>
    (cC p28.1 p28.2).bind fun c29 =>
    (run_laws_markStringS [.one (c29), .one (Cell.int (IntKind.i64.wrap ((IntKind.i64.wrap ((IntKind.i64.wrap ((IntKind.i64.wrap (i4 + 1)) + 1)) + 1)) + 1)))] h24).bind fun r30 =>
    cond (shapeOk rk_laws_markStringS r30.1)
    ((cI .i64 (cellsAt r30.1 0) 0).bind fun i31 =>
    laws_markPickS_l0 k m n (c3) i31 (IntKind.i64.wrap (i5 + 1)) r30.2)
    none)
    none)
    (some ([.one (Cell.int i4)], H6))
noncomputable def laws_markPickS (k m : Nat) (c1 : Cell) (i2 : Int) (H : List Entry) : Option Res :=
  laws_markPickS_l0 k m m (c1) i2 0 H
noncomputable abbrev laws_markPickS_l0_B (k m : Nat) : (Ex → Fr → Option Res) → Fr → Option Res := evC G_laws_markPickS fi_laws_markPickS (evF G_laws_markPickS (k + 1)) m (sub [1, 0, 1, 2, 3] fi_laws_markPickS.code) none
noncomputable abbrev laws_markPickS_l0_K (k m : Nat) : Ex → Fr → Option Res := blockK 0 (seqK (evC G_laws_markPickS fi_laws_markPickS (evF G_laws_markPickS (k + 1)) m (sub [1, 1] fi_laws_markPickS.code) none) (retK G_laws_markPickS fi_laws_markPickS))
theorem laws_markPickS_l0_eq (k m : Nat) : ∀ (n : Nat) (c3 : Cell) (i4 : Int) (i5 : Int) (H6 : List Entry), loopK (some [0, 1, 5]) (laws_markPickS_l0_B k m) (laws_markPickS_l0_K k m) n ⟨fT 53 0 [(0, .av (.one (c3))), (1, .av (.one (Cell.int i4))), (5, .av (.one (Cell.int i5)))], fX 53 0 [], H6⟩ = laws_markPickS_l0 (k + 1) m n c3 i4 i5 H6 := by
  intro n
  induction n with
  | zero => intros; rfl
  | succ n ih =>
    intros
    simp only [laws_markPickS_l0, ← ih]
    kernel_rfl
theorem laws_markPickS_code (k m : Nat) (c1 : Cell) (i2 : Int) (H : List Entry) : evC G_laws_markPickS fi_laws_markPickS (evF G_laws_markPickS (k + 1)) m fi_laws_markPickS.code none (retK G_laws_markPickS fi_laws_markPickS) (enter fi_laws_markPickS [.one (c1), .one (Cell.int i2)] H) = laws_markPickS (k + 1) m c1 i2 H := by
  simp only [laws_markPickS, ← laws_markPickS_l0_eq k m]
  kernel_rfl
theorem laws_markPickS_eq (k : Nat) (c1 : Cell) (i2 : Int) (H : List Entry) : evF G_laws_markPickS (k + 2) fid_laws_markPickS [.one (c1), .one (Cell.int i2)] H = laws_markPickS (k + 1) (k + 1) c1 i2 H :=
  Eq.trans (by kernel_rfl) (laws_markPickS_code k (k + 1) c1 i2 H)
theorem run_laws_markPickS_of {c1 : Cell} {i2 : Int} {H : List Entry} {r : Res} (k : Nat) (h : laws_markPickS (k + 1) (k + 1) c1 i2 H = some r) : run_laws_markPickS [.one (c1), .one (Cell.int i2)] H = some r := lim_of ((laws_markPickS_eq k c1 i2 H).trans h)
noncomputable def pl_laws_heldStringS : List (Nat × Run) := [(fid_laws_markText, run_laws_markText)]
noncomputable def G_laws_heldStringS : Ctx := ctx tyTab fiTab pl_laws_heldStringS
noncomputable def run_laws_heldStringS : Run := lim G_laws_heldStringS fid_laws_heldStringS
theorem ok_laws_heldStringS : FnOk Tryd.prog OkT fid_laws_heldStringS run_laws_heldStringS := lim_ok (l := pl_laws_heldStringS) Tryd_mix tyTab_ok fiTab_ok okT (.cons ok_laws_markText .nil) fid_laws_heldStringS
noncomputable def laws_heldStringS_l0 (k m : Nat) : Nat → Cell → Int → Int → Option Res
  | 0, _, _, _ => none
  | n + 1, c3, i4, i5 =>
    (lenC c3).bind fun n6 =>
    cond (decide (i5 < (n6 : Int)))
    ((idxA 1 (c3) i5).bind fun c7 =>
    (deref [] (c7)).bind fun p8 =>
    (cS p8.1 p8.2).bind fun s9 =>
    (callS run_laws_markText [.one (Cell.int i4)] []).bind fun r10 =>
    cond (shapeOk rk_laws_markText r10)
    ((cS (cellsAt r10 0) 0).bind fun s11 =>
    cond (!(s9.toList == s11.toList))
    (some ([.one (Cell.int (-1))], []))
    (laws_heldStringS_l0 k m n (c3) (IntKind.i64.wrap (i4 + 1)) (IntKind.i64.wrap (i5 + 1))))
    none)
    (some ([.one (Cell.int i4)], []))
noncomputable def laws_heldStringS (k m : Nat) (c1 : Cell) (i2 : Int) : Option Res :=
  laws_heldStringS_l0 k m m (c1) i2 0
noncomputable abbrev laws_heldStringS_l0_B (k m : Nat) : (Ex → Fr → Option Res) → Fr → Option Res := evC G_laws_heldStringS fi_laws_heldStringS (evF G_laws_heldStringS (k + 1)) m (sub [1, 0, 1, 2, 3] fi_laws_heldStringS.code) none
noncomputable abbrev laws_heldStringS_l0_K (k m : Nat) : Ex → Fr → Option Res := blockK 0 (seqK (evC G_laws_heldStringS fi_laws_heldStringS (evF G_laws_heldStringS (k + 1)) m (sub [1, 1] fi_laws_heldStringS.code) none) (retK G_laws_heldStringS fi_laws_heldStringS))
theorem laws_heldStringS_l0_eq (k m : Nat) : ∀ (n : Nat) (c3 : Cell) (i4 : Int) (i5 : Int), loopK (some [0, 1, 5]) (laws_heldStringS_l0_B k m) (laws_heldStringS_l0_K k m) n ⟨fT 22 0 [(0, .av (.one (c3))), (1, .av (.one (Cell.int i4))), (5, .av (.one (Cell.int i5)))], fX 22 0 [], []⟩ = laws_heldStringS_l0 (k + 1) m n c3 i4 i5 := by
  intro n
  induction n with
  | zero => intros; rfl
  | succ n ih =>
    intros
    simp only [laws_heldStringS_l0, ← ih]
    kernel_rfl
theorem laws_heldStringS_code (k m : Nat) (c1 : Cell) (i2 : Int) : evC G_laws_heldStringS fi_laws_heldStringS (evF G_laws_heldStringS (k + 1)) m fi_laws_heldStringS.code none (retK G_laws_heldStringS fi_laws_heldStringS) (enter fi_laws_heldStringS [.one (c1), .one (Cell.int i2)] []) = laws_heldStringS (k + 1) m c1 i2 := by
  simp only [laws_heldStringS, ← laws_heldStringS_l0_eq k m]
  kernel_rfl
theorem laws_heldStringS_eq (k : Nat) (c1 : Cell) (i2 : Int) : evF G_laws_heldStringS (k + 2) fid_laws_heldStringS [.one (c1), .one (Cell.int i2)] [] = laws_heldStringS (k + 1) (k + 1) c1 i2 :=
  Eq.trans (by kernel_rfl) (laws_heldStringS_code k (k + 1) c1 i2)
theorem run_laws_heldStringS_of {c1 : Cell} {i2 : Int} {r : Res} (k : Nat) (h : laws_heldStringS (k + 1) (k + 1) c1 i2 = some r) : run_laws_heldStringS [.one (c1), .one (Cell.int i2)] [] = some r := lim_of ((laws_heldStringS_eq k c1 i2).trans h)
noncomputable def pl_laws_heldPickS : List (Nat × Run) := [(fid_laws_markText, run_laws_markText), (fid_laws_heldStringS, run_laws_heldStringS)]
noncomputable def G_laws_heldPickS : Ctx := ctx tyTab fiTab pl_laws_heldPickS
noncomputable def run_laws_heldPickS : Run := lim G_laws_heldPickS fid_laws_heldPickS
theorem ok_laws_heldPickS : FnOk Tryd.prog OkT fid_laws_heldPickS run_laws_heldPickS := lim_ok (l := pl_laws_heldPickS) Tryd_mix tyTab_ok fiTab_ok okT (.cons ok_laws_markText (.cons ok_laws_heldStringS .nil)) fid_laws_heldPickS
noncomputable def laws_heldPickS_l0 (k m : Nat) : Nat → Cell → Int → Int → Option Res
  | 0, _, _, _ => none
  | n + 1, c3, i4, i5 =>
    (lenC c3).bind fun n6 =>
    cond (decide (i5 < (n6 : Int)))
    ((idxA 5 (c3) i5).bind fun c7 =>
    (fldA c7 0).bind fun c8 =>
    (deref [] (c8)).bind fun p9 =>
    (cS p9.1 p9.2).bind fun s10 =>
    (callS run_laws_markText [.one (Cell.int i4)] []).bind fun r11 =>
    cond (shapeOk rk_laws_markText r11)
    ((cS (cellsAt r11 0) 0).bind fun s12 =>
    cond (!(s10.toList == s12.toList))
    (some ([.one (Cell.int (-1))], []))
    ((idxA 5 (c3) i5).bind fun c13 =>
    (fldA c13 1).bind fun c14 =>
    (fldA c14 0).bind fun c15 =>
    (deref [] (c15)).bind fun p16 =>
    (cI .i64 p16.1 p16.2).bind fun i17 =>
    cond (i17 != (IntKind.i64.wrap (i4 + 1)))
    (some ([.one (Cell.int (-1))], []))
    ((idxA 5 (c3) i5).bind fun c18 =>
    (fldA c18 1).bind fun c19 =>
    (fldA c19 1).bind fun c20 =>
    (deref [] (c20)).bind fun p21 =>
    (cI .i64 p21.1 p21.2).bind fun i22 =>
    cond (i22 != (IntKind.i64.wrap ((IntKind.i64.wrap (i4 + 1)) + 1)))
    (some ([.one (Cell.int (-1))], []))
    ((idxA 5 (c3) i5).bind fun c23 =>
    (fldA c23 1).bind fun c24 =>
    (fldA c24 2).bind fun c25 =>
    (deref [] (c25)).bind fun p26 =>
    (cI .i64 p26.1 p26.2).bind fun i27 =>
    cond (i27 != (IntKind.i64.wrap ((IntKind.i64.wrap ((IntKind.i64.wrap (i4 + 1)) + 1)) + 1)))
    (some ([.one (Cell.int (-1))], []))
    ((idxA 5 (c3) i5).bind fun c28 =>
    (fldA c28 1).bind fun c29 =>
    (fldA c29 3).bind fun c30 =>
    (deref [] (c30)).bind fun p31 =>
    (cC p31.1 p31.2).bind fun c32 =>
    (callS run_laws_heldStringS [.one (c32), .one (Cell.int (IntKind.i64.wrap ((IntKind.i64.wrap ((IntKind.i64.wrap ((IntKind.i64.wrap (i4 + 1)) + 1)) + 1)) + 1)))] []).bind fun r33 =>
    cond (shapeOk rk_laws_heldStringS r33)
    ((cI .i64 (cellsAt r33 0) 0).bind fun i34 =>
    cond (decide (i34 < 0))
    (some ([.one (Cell.int (-1))], []))
    (laws_heldPickS_l0 k m n (c3) i34 (IntKind.i64.wrap (i5 + 1))))
    none)))))
    none)
    (some ([.one (Cell.int i4)], []))
noncomputable def laws_heldPickS (k m : Nat) (c1 : Cell) (i2 : Int) : Option Res :=
  laws_heldPickS_l0 k m m (c1) i2 0
noncomputable abbrev laws_heldPickS_l0_B (k m : Nat) : (Ex → Fr → Option Res) → Fr → Option Res := evC G_laws_heldPickS fi_laws_heldPickS (evF G_laws_heldPickS (k + 1)) m (sub [1, 0, 1, 2, 3] fi_laws_heldPickS.code) none
noncomputable abbrev laws_heldPickS_l0_K (k m : Nat) : Ex → Fr → Option Res := blockK 0 (seqK (evC G_laws_heldPickS fi_laws_heldPickS (evF G_laws_heldPickS (k + 1)) m (sub [1, 1] fi_laws_heldPickS.code) none) (retK G_laws_heldPickS fi_laws_heldPickS))
theorem laws_heldPickS_l0_eq (k m : Nat) : ∀ (n : Nat) (c3 : Cell) (i4 : Int) (i5 : Int), loopK (some [0, 1, 5]) (laws_heldPickS_l0_B k m) (laws_heldPickS_l0_K k m) n ⟨fT 63 0 [(0, .av (.one (c3))), (1, .av (.one (Cell.int i4))), (5, .av (.one (Cell.int i5)))], fX 63 0 [], []⟩ = laws_heldPickS_l0 (k + 1) m n c3 i4 i5 := by
  intro n
  induction n with
  | zero => intros; rfl
  | succ n ih =>
    intros
    simp only [laws_heldPickS_l0, ← ih]
    kernel_rfl
theorem laws_heldPickS_code (k m : Nat) (c1 : Cell) (i2 : Int) : evC G_laws_heldPickS fi_laws_heldPickS (evF G_laws_heldPickS (k + 1)) m fi_laws_heldPickS.code none (retK G_laws_heldPickS fi_laws_heldPickS) (enter fi_laws_heldPickS [.one (c1), .one (Cell.int i2)] []) = laws_heldPickS (k + 1) m c1 i2 := by
  simp only [laws_heldPickS, ← laws_heldPickS_l0_eq k m]
  kernel_rfl
theorem laws_heldPickS_eq (k : Nat) (c1 : Cell) (i2 : Int) : evF G_laws_heldPickS (k + 2) fid_laws_heldPickS [.one (c1), .one (Cell.int i2)] [] = laws_heldPickS (k + 1) (k + 1) c1 i2 :=
  Eq.trans (by kernel_rfl) (laws_heldPickS_code k (k + 1) c1 i2)
theorem run_laws_heldPickS_of {c1 : Cell} {i2 : Int} {r : Res} (k : Nat) (h : laws_heldPickS (k + 1) (k + 1) c1 i2 = some r) : run_laws_heldPickS [.one (c1), .one (Cell.int i2)] [] = some r := lim_of ((laws_heldPickS_eq k c1 i2).trans h)
noncomputable def pl_laws_FnExactParseLock : List (Nat × Run) := [(fid_spec_ParseLock, run_spec_ParseLock), (fid_impl_ParseLock, run_impl_ParseLock), (fid_laws_eqPickS, run_laws_eqPickS), (fid_laws_markPickS, run_laws_markPickS), (fid_laws_heldPickS, run_laws_heldPickS)]
noncomputable def G_laws_FnExactParseLock : Ctx := ctx tyTab fiTab pl_laws_FnExactParseLock
noncomputable def run_laws_FnExactParseLock : Run := lim G_laws_FnExactParseLock fid_laws_FnExactParseLock
theorem ok_laws_FnExactParseLock : FnOk Tryd.prog OkT fid_laws_FnExactParseLock run_laws_FnExactParseLock := lim_ok (l := pl_laws_FnExactParseLock) Tryd_mix tyTab_ok fiTab_ok okT (.cons ok_spec_ParseLock (.cons ok_impl_ParseLock (.cons ok_laws_eqPickS (.cons ok_laws_markPickS (.cons ok_laws_heldPickS .nil))))) fid_laws_FnExactParseLock
noncomputable def laws_FnExactParseLock (k m : Nat) (s1 : ByteArray) : Option Res :=
  cond (decide ((s1.size : Int) > 1048576))
  (some ([.one (Cell.bool true)], []))
  ((callL run_spec_ParseLock [.one (Cell.str s1)] []).bind fun r2 =>
  cond (shapeOk rk_spec_ParseLock r2.1)
  ((cC (cellsAt r2.1 0) 0).bind fun c3 =>
  (cB (cellsAt r2.1 1) 0).bind fun b4 =>
  (callF run_impl_ParseLock [.one (Cell.str s1)] r2.2).bind fun r5 =>
  cond (shapeOk rk_impl_ParseLock r5.1)
  ((cC (cellsAt r5.1 0) 0).bind fun c6 =>
  (cB (cellsAt r5.1 1) 0).bind fun b7 =>
  (callS run_laws_eqPickS [.one (c6), .one (c3)] r5.2).bind fun r8 =>
  cond (shapeOk rk_laws_eqPickS r8)
  ((cB (cellsAt r8 0) 0).bind fun b9 =>
  cond (!b9)
  (some ([.one (Cell.bool false)], r5.2))
  (cond (!(b7 == b4))
  (some ([.one (Cell.bool false)], r5.2))
  ((run_laws_markPickS [.one (c6), .one (Cell.int 1)] r5.2).bind fun r10 =>
  cond (shapeOk rk_laws_markPickS r10.1)
  ((cI .i64 (cellsAt r10.1 0) 0).bind fun i11 =>
  (callS run_laws_heldPickS [.one (c6), .one (Cell.int 1)] r10.2).bind fun r12 =>
  cond (shapeOk rk_laws_heldPickS r12)
  ((cI .i64 (cellsAt r12 0) 0).bind fun i13 =>
  cond (decide (i13 < 0))
  (some ([.one (Cell.bool false)], r10.2))
  (cond (i13 != i11)
  (some ([.one (Cell.bool false)], r10.2))
  ((callF run_impl_ParseLock [.one (Cell.str s1)] r10.2).bind fun r14 =>
  cond (shapeOk rk_impl_ParseLock r14.1)
  ((cC (cellsAt r14.1 0) 0).bind fun c15 =>
  (cB (cellsAt r14.1 1) 0).bind fun b16 =>
  (callS run_laws_eqPickS [.one (c15), .one (c3)] r14.2).bind fun r17 =>
  cond (shapeOk rk_laws_eqPickS r17)
  ((cB (cellsAt r17 0) 0).bind fun b18 =>
  cond (!b18)
  (some ([.one (Cell.bool false)], r14.2))
  (cond (!(b16 == b4))
  (some ([.one (Cell.bool false)], r14.2))
  ((callS run_laws_heldPickS [.one (c6), .one (Cell.int 1)] r14.2).bind fun r19 =>
  cond (shapeOk rk_laws_heldPickS r19)
  ((cI .i64 (cellsAt r19 0) 0).bind fun i20 =>
  cond (decide (i20 < 0))
  (some ([.one (Cell.bool false)], r14.2))
  (cond (i20 != i11)
  (some ([.one (Cell.bool false)], r14.2))
  (some ([.one (Cell.bool true)], r14.2))))
  none)))
  none)
  none)))
  none)
  none)))
  none)
  none)
  none)
theorem laws_FnExactParseLock_code (k m : Nat) (s1 : ByteArray) : evC G_laws_FnExactParseLock fi_laws_FnExactParseLock (evF G_laws_FnExactParseLock (k + 1)) m fi_laws_FnExactParseLock.code none (retK G_laws_FnExactParseLock fi_laws_FnExactParseLock) (enter fi_laws_FnExactParseLock [.one (Cell.str s1)] []) = laws_FnExactParseLock (k + 1) m s1 := by
  kernel_rfl
theorem laws_FnExactParseLock_eq (k : Nat) (s1 : ByteArray) : evF G_laws_FnExactParseLock (k + 2) fid_laws_FnExactParseLock [.one (Cell.str s1)] [] = laws_FnExactParseLock (k + 1) (k + 1) s1 :=
  Eq.trans (by kernel_rfl) (laws_FnExactParseLock_code k (k + 1) s1)
theorem run_laws_FnExactParseLock_of {s1 : ByteArray} {r : Res} (k : Nat) (h : laws_FnExactParseLock (k + 1) (k + 1) s1 = some r) : run_laws_FnExactParseLock [.one (Cell.str s1)] [] = some r := lim_of ((laws_FnExactParseLock_eq k s1).trans h)
end Go.Ev
