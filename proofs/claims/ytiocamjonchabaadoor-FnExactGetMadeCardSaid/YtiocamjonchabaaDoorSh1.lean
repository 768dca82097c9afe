/- What the evaluator says of the functions, each as a Lean function over cells. Printed by a program of this claim. Conditions: none. -/
import Derived.Test.YtiocamjonchabaaDoorSh0
import Derived.KernelRfl
namespace Go.Ev
open Go Go.Proofs
set_option maxRecDepth 100000
set_option linter.unusedVariables false
set_option linter.unusedSimpArgs false
noncomputable def pl_impl_textReader_next : List (Nat × Run) := [(fid_impl_GetText, run_impl_GetText)]
noncomputable def G_impl_textReader_next : Ctx := ctx tyTab fiTab pl_impl_textReader_next
noncomputable def run_impl_textReader_next : Run := lim G_impl_textReader_next fid_impl_textReader_next
theorem ok_impl_textReader_next : FnOk Tryd.prog OkT fid_impl_textReader_next run_impl_textReader_next := lim_ok (l := pl_impl_textReader_next) Tryd_mix tyTab_ok fiTab_ok okT (.cons ok_impl_GetText .nil) fid_impl_textReader_next
noncomputable def impl_textReader_next (k m : Nat) (c1 : Cell) (H : List Entry) : Option Res :=
  (ptrC c1).bind fun c2 =>
  (fldA c2 0).bind fun c3 =>
  (deref H (c3)).bind fun p4 =>
  (cC p4.1 p4.2).bind fun c5 =>
  (ptrC c1).bind fun c6 =>
  (fldA c6 1).bind fun c7 =>
  (deref H (c7)).bind fun p8 =>
  (cI .i64 p8.1 p8.2).bind fun i9 =>
  (callS run_impl_GetText [.one (c5), .one (Cell.int i9)] H).bind fun r10 =>
  cond (shapeOk rk_impl_GetText r10)
  ((cS (cellsAt r10 0) 0).bind fun s11 =>
  (cI .i64 (cellsAt r10 1) 0).bind fun i12 =>
  (cB (cellsAt r10 2) 0).bind fun b13 =>
  (ptrC c1).bind fun c14 =>
  (fldA c14 2).bind fun c15 =>
  (deref H (c15)).bind fun p16 =>
  (cB p16.1 p16.2).bind fun b17 =>
  cond b17
  ((ptrC c1).bind fun c18 =>
  (fldA c18 2).bind fun c19 =>
  (hStore H (c19) [Cell.bool true]).bind fun h20 =>
  some ([.one (Cell.str (bs []))], h20))
  (cond (!b13)
  ((ptrC c1).bind fun c21 =>
  (fldA c21 2).bind fun c22 =>
  (hStore H (c22) [Cell.bool true]).bind fun h23 =>
  some ([.one (Cell.str (bs []))], h23))
  ((ptrC c1).bind fun c24 =>
  (fldA c24 1).bind fun c25 =>
  (hStore H (c25) [Cell.int i12]).bind fun h26 =>
  some ([.one (Cell.str s11)], h26))))
  none
theorem impl_textReader_next_code (k m : Nat) (c1 : Cell) (H : List Entry) : evC G_impl_textReader_next fi_impl_textReader_next (evF G_impl_textReader_next (k + 1)) m fi_impl_textReader_next.code none (retK G_impl_textReader_next fi_impl_textReader_next) (enter fi_impl_textReader_next [.one (c1)] H) = impl_textReader_next (k + 1) m c1 H := by
  kernel_rfl
theorem impl_textReader_next_eq (k : Nat) (c1 : Cell) (H : List Entry) : evF G_impl_textReader_next (k + 2) fid_impl_textReader_next [.one (c1)] H = impl_textReader_next (k + 1) (k + 1) c1 H :=
  Eq.trans (by kernel_rfl) (impl_textReader_next_code k (k + 1) c1 H)
theorem run_impl_textReader_next_of {c1 : Cell} {H : List Entry} {r : Res} (k : Nat) (h : impl_textReader_next (k + 1) (k + 1) c1 H = some r) : run_impl_textReader_next [.one (c1)] H = some r := lim_of ((impl_textReader_next_eq k c1 H).trans h)
noncomputable def pl_impl_inRange : List (Nat × Run) := []
noncomputable def G_impl_inRange : Ctx := ctx tyTab fiTab pl_impl_inRange
noncomputable def run_impl_inRange : Run := lim G_impl_inRange fid_impl_inRange
theorem ok_impl_inRange : FnOk Tryd.prog OkT fid_impl_inRange run_impl_inRange := lim_ok (l := pl_impl_inRange) Tryd_mix tyTab_ok fiTab_ok okT .nil fid_impl_inRange
noncomputable def impl_inRange (k m : Nat) (i1 : Int) (i2 : Int) (i3 : Int) : Option Res :=
  cond (decide (i1 ≥ i2))
  (some ([.one (Cell.bool (decide (i1 ≤ i3)))], []))
  (some ([.one (Cell.bool false)], []))
theorem impl_inRange_code (k m : Nat) (i1 : Int) (i2 : Int) (i3 : Int) : evC G_impl_inRange fi_impl_inRange (evF G_impl_inRange (k + 1)) m fi_impl_inRange.code none (retK G_impl_inRange fi_impl_inRange) (enter fi_impl_inRange [.one (Cell.int i1), .one (Cell.int i2), .one (Cell.int i3)] []) = impl_inRange (k + 1) m i1 i2 i3 := by
  kernel_rfl
theorem impl_inRange_eq (k : Nat) (i1 : Int) (i2 : Int) (i3 : Int) : evF G_impl_inRange (k + 2) fid_impl_inRange [.one (Cell.int i1), .one (Cell.int i2), .one (Cell.int i3)] [] = impl_inRange (k + 1) (k + 1) i1 i2 i3 :=
  Eq.trans (by kernel_rfl) (impl_inRange_code k (k + 1) i1 i2 i3)
theorem run_impl_inRange_of {i1 : Int} {i2 : Int} {i3 : Int} {r : Res} (k : Nat) (h : impl_inRange (k + 1) (k + 1) i1 i2 i3 = some r) : run_impl_inRange [.one (Cell.int i1), .one (Cell.int i2), .one (Cell.int i3)] [] = some r := lim_of ((impl_inRange_eq k i1 i2 i3).trans h)
noncomputable def pl_impl_isFigure : List (Nat × Run) := []
noncomputable def G_impl_isFigure : Ctx := ctx tyTab fiTab pl_impl_isFigure
noncomputable def run_impl_isFigure : Run := lim G_impl_isFigure fid_impl_isFigure
theorem ok_impl_isFigure : FnOk Tryd.prog OkT fid_impl_isFigure run_impl_isFigure := lim_ok (l := pl_impl_isFigure) Tryd_mix tyTab_ok fiTab_ok okT .nil fid_impl_isFigure
noncomputable def impl_isFigure (k m : Nat) (i1 : Int) : Option Res :=
  cond (decide (i1 ≥ 48))
  (some ([.one (Cell.bool (decide (i1 ≤ 57)))], []))
  (some ([.one (Cell.bool false)], []))
theorem impl_isFigure_code (k m : Nat) (i1 : Int) : evC G_impl_isFigure fi_impl_isFigure (evF G_impl_isFigure (k + 1)) m fi_impl_isFigure.code none (retK G_impl_isFigure fi_impl_isFigure) (enter fi_impl_isFigure [.one (.sc (.int .u8 i1))] []) = impl_isFigure (k + 1) m i1 := by
  kernel_rfl
theorem impl_isFigure_eq (k : Nat) (i1 : Int) : evF G_impl_isFigure (k + 2) fid_impl_isFigure [.one (.sc (.int .u8 i1))] [] = impl_isFigure (k + 1) (k + 1) i1 :=
  Eq.trans (by kernel_rfl) (impl_isFigure_code k (k + 1) i1)
theorem run_impl_isFigure_of {i1 : Int} {r : Res} (k : Nat) (h : impl_isFigure (k + 1) (k + 1) i1 = some r) : run_impl_isFigure [.one (.sc (.int .u8 i1))] [] = some r := lim_of ((impl_isFigure_eq k i1).trans h)
noncomputable def pl_impl_ParseNum : List (Nat × Run) := [(fid_impl_NumText, run_impl_NumText), (fid_impl_inRange, run_impl_inRange), (fid_impl_isFigure, run_impl_isFigure)]
noncomputable def G_impl_ParseNum : Ctx := ctx tyTab fiTab pl_impl_ParseNum
noncomputable def run_impl_ParseNum : Run := lim G_impl_ParseNum fid_impl_ParseNum
theorem ok_impl_ParseNum : FnOk Tryd.prog OkT fid_impl_ParseNum run_impl_ParseNum := lim_ok (l := pl_impl_ParseNum) Tryd_mix tyTab_ok fiTab_ok okT (.cons ok_impl_NumText (.cons ok_impl_inRange (.cons ok_impl_isFigure .nil))) fid_impl_ParseNum
noncomputable def impl_ParseNum_l0 (k m : Nat) : Nat → ByteArray → Int → Int → Int → Option Res
  | 0, _, _, _, _ => none
  | n + 1, s5, i6, i7, i8 =>
    cond (decide (i8 < (s5.size : Int)))
    ((bytS s5 i8).bind fun i9 =>
    (callS run_impl_isFigure [.one (.sc (.int .u8 i9))] []).bind fun r10 =>
    cond (shapeOk rk_impl_isFigure r10)
    ((cB (cellsAt r10 0) 0).bind fun b11 =>
    cond (!b11)
    (some ([.one (Cell.int 0), .one (Cell.bool false)], []))
    ((bytS s5 i8).bind fun i12 =>
    impl_ParseNum_l0 k m n s5 i6 (IntKind.i64.wrap ((IntKind.i64.wrap (i7 * 10)) + (IntKind.i64.wrap (IntKind.u8.wrap (i12 - 48))))) (IntKind.i64.wrap (i8 + 1))))
    none)
    ((callS run_impl_NumText [.one (Cell.int i7)] []).bind fun r13 =>
    cond (shapeOk rk_impl_NumText r13)
    ((cS (cellsAt r13 0) 0).bind fun s14 =>
    cond (!(s14.toList == s5.toList))
    (some ([.one (Cell.int 0), .one (Cell.bool false)], []))
    (cond (decide (i7 > i6))
    (some ([.one (Cell.int 0), .one (Cell.bool false)], []))
    (some ([.one (Cell.int i7), .one (Cell.bool true)], []))))
    none)
noncomputable def impl_ParseNum (k m : Nat) (s1 : ByteArray) (i2 : Int) : Option Res :=
  (callS run_impl_inRange [.one (Cell.int (s1.size : Int)), .one (Cell.int 1), .one (Cell.int 7)] []).bind fun r3 =>
  cond (shapeOk rk_impl_inRange r3)
  ((cB (cellsAt r3 0) 0).bind fun b4 =>
  cond (!b4)
  (some ([.one (Cell.int 0), .one (Cell.bool false)], []))
  (impl_ParseNum_l0 k m m s1 i2 0 0))
  none
noncomputable abbrev impl_ParseNum_l0_B (k m : Nat) : (Ex → Fr → Option Res) → Fr → Option Res := evC G_impl_ParseNum fi_impl_ParseNum (evF G_impl_ParseNum (k + 1)) m (sub [1, 1, 1, 0, 1, 2, 3] fi_impl_ParseNum.code) none
noncomputable abbrev impl_ParseNum_l0_K (k m : Nat) : Ex → Fr → Option Res := blockK 0 (seqK (evC G_impl_ParseNum fi_impl_ParseNum (evF G_impl_ParseNum (k + 1)) m (sub [1, 1, 1, 1] fi_impl_ParseNum.code) none) (retK G_impl_ParseNum fi_impl_ParseNum))
theorem impl_ParseNum_l0_eq (k m : Nat) : ∀ (n : Nat) (s5 : ByteArray) (i6 : Int) (i7 : Int) (i8 : Int), loopK (some [0, 1, 6, 7]) (impl_ParseNum_l0_B k m) (impl_ParseNum_l0_K k m) n ⟨fT 41 0 [(0, .av (.one (Cell.str s5))), (1, .av (.one (Cell.int i6))), (6, .av (.one (Cell.int i7))), (7, .av (.one (Cell.int i8)))], fX 41 0 [], []⟩ = impl_ParseNum_l0 (k + 1) m n s5 i6 i7 i8 := by
  intro n
  induction n with
  | zero => intros; rfl
  | succ n ih =>
    intros
    simp only [impl_ParseNum_l0, ← ih]
    kernel_rfl
theorem impl_ParseNum_code (k m : Nat) (s1 : ByteArray) (i2 : Int) : evC G_impl_ParseNum fi_impl_ParseNum (evF G_impl_ParseNum (k + 1)) m fi_impl_ParseNum.code none (retK G_impl_ParseNum fi_impl_ParseNum) (enter fi_impl_ParseNum [.one (Cell.str s1), .one (Cell.int i2)] []) = impl_ParseNum (k + 1) m s1 i2 := by
  simp only [impl_ParseNum, ← impl_ParseNum_l0_eq k m]
  kernel_rfl
theorem impl_ParseNum_eq (k : Nat) (s1 : ByteArray) (i2 : Int) : evF G_impl_ParseNum (k + 2) fid_impl_ParseNum [.one (Cell.str s1), .one (Cell.int i2)] [] = impl_ParseNum (k + 1) (k + 1) s1 i2 :=
  Eq.trans (by kernel_rfl) (impl_ParseNum_code k (k + 1) s1 i2)
theorem run_impl_ParseNum_of {s1 : ByteArray} {i2 : Int} {r : Res} (k : Nat) (h : impl_ParseNum (k + 1) (k + 1) s1 i2 = some r) : run_impl_ParseNum [.one (Cell.str s1), .one (Cell.int i2)] [] = some r := lim_of ((impl_ParseNum_eq k s1 i2).trans h)
noncomputable def pl_bytes_Equal : List (Nat × Run) := []
noncomputable def G_bytes_Equal : Ctx := ctx tyTab fiTab pl_bytes_Equal
noncomputable def run_bytes_Equal : Run := lim G_bytes_Equal fid_bytes_Equal
theorem ok_bytes_Equal : FnOk Tryd.prog OkT fid_bytes_Equal run_bytes_Equal := lim_ok (l := pl_bytes_Equal) Tryd_mix tyTab_ok fiTab_ok okT .nil fid_bytes_Equal
noncomputable def bytes_Equal (k m : Nat) (c1 : Cell) (c2 : Cell) : Option Res :=
  (bytesOf [] (c1)).bind fun s3 =>
  (bytesOf [] (c2)).bind fun s4 =>
  some ([.one (Cell.bool (s3.toList == s4.toList))], [])
theorem bytes_Equal_code (k m : Nat) (c1 : Cell) (c2 : Cell) : evC G_bytes_Equal fi_bytes_Equal (evF G_bytes_Equal (k + 1)) m fi_bytes_Equal.code none (retK G_bytes_Equal fi_bytes_Equal) (enter fi_bytes_Equal [.one (c1), .one (c2)] []) = bytes_Equal (k + 1) m c1 c2 := by
  kernel_rfl
theorem bytes_Equal_eq (k : Nat) (c1 : Cell) (c2 : Cell) : evF G_bytes_Equal (k + 2) fid_bytes_Equal [.one (c1), .one (c2)] [] = bytes_Equal (k + 1) (k + 1) c1 c2 :=
  Eq.trans (by kernel_rfl) (bytes_Equal_code k (k + 1) c1 c2)
theorem run_bytes_Equal_of {c1 : Cell} {c2 : Cell} {r : Res} (k : Nat) (h : bytes_Equal (k + 1) (k + 1) c1 c2 = some r) : run_bytes_Equal [.one (c1), .one (c2)] [] = some r := lim_of ((bytes_Equal_eq k c1 c2).trans h)
noncomputable def pl_impl_GetMade : List (Nat × Run) := [(fid_impl_PutMade, run_impl_PutMade), (fid_impl_textReader_next, run_impl_textReader_next), (fid_impl_ParseNum, run_impl_ParseNum), (fid_bytes_Equal, run_bytes_Equal)]
noncomputable def G_impl_GetMade : Ctx := ctx tyTab fiTab pl_impl_GetMade
noncomputable def run_impl_GetMade : Run := lim G_impl_GetMade fid_impl_GetMade
theorem ok_impl_GetMade : FnOk Tryd.prog OkT fid_impl_GetMade run_impl_GetMade := lim_ok (l := pl_impl_GetMade) Tryd_mix tyTab_ok fiTab_ok okT (.cons ok_impl_PutMade (.cons ok_impl_textReader_next (.cons ok_impl_ParseNum (.cons ok_bytes_Equal .nil)))) fid_impl_GetMade
noncomputable def impl_GetMade_l0 (k m : Nat) : Nat → Cell → Bool → Int → Int → ByteArray → Cell → ByteArray → List Entry → Option Res
  | 0, _, _, _, _, _, _, _, _ => none
  | n + 1, c11, b12, i13, i14, s15, c16, s17, H18 =>
    cond (decide (i14 < i13))
    ((run_impl_textReader_next [.one (.ptr 0 3 0 0 0)] H18).bind fun r19 =>
    cond (shapeOk rk_impl_textReader_next r19.1)
    ((cS (cellsAt r19.1 0) 0).bind fun s20 =>
    (run_impl_textReader_next [.one (.ptr 0 3 0 0 0)] r19.2).bind fun r21 =>
    cond (shapeOk rk_impl_textReader_next r21.1)
    ((cS (cellsAt r21.1 0) 0).bind fun s22 =>
    (app r21.2 2 32 (c16) [[Cell.str s20, Cell.str s22]]).bind fun p23 =>
    impl_GetMade_l0 k m n (c11) b12 i13 (IntKind.i64.wrap (i14 + 1)) s15 (p23.1) s17 p23.2)
    none)
    none)
    (cond (!b12)
    (some ([.agg [Cell.str (bs []), .lst true 2 [], Cell.str (bs [])], .one (Cell.bool false)], H18))
    ((deref H18 (.ptr 0 3 0 2 0)).bind fun p24 =>
    (cB p24.1 p24.2).bind fun b25 =>
    cond b25
    (some ([.agg [Cell.str (bs []), .lst true 2 [], Cell.str (bs [])], .one (Cell.bool false)], H18))
    ((callF run_impl_PutMade [.agg [Cell.str s15, c16, Cell.str s17]] H18).bind fun r26 =>
    cond (shapeOk rk_impl_PutMade r26.1)
    ((cC (cellsAt r26.1 0) 0).bind fun c27 =>
    (callS run_bytes_Equal [.one (c27), .one (c11)] r26.2).bind fun r28 =>
    cond (shapeOk rk_bytes_Equal r28)
    ((cB (cellsAt r28 0) 0).bind fun b29 =>
    cond (!b29)
    (some ([.agg [Cell.str (bs []), .lst true 2 [], Cell.str (bs [])], .one (Cell.bool false)], r26.2))
    (some ([.agg [Cell.str s15, c16, Cell.str s17], .one (Cell.bool true)], r26.2)))
    none)
    none)))
noncomputable def impl_GetMade (k m : Nat) (c1 : Cell) : Option Res :=
  (run_impl_textReader_next [.one (.ptr 0 3 0 0 0)] [Entry.mk 3 [[c1, Cell.int 0, Cell.bool false]] 0 false]).bind fun r2 =>
  cond (shapeOk rk_impl_textReader_next r2.1)
  ((cS (cellsAt r2.1 0) 0).bind fun s3 =>
  (run_impl_textReader_next [.one (.ptr 0 3 0 0 0)] r2.2).bind fun r4 =>
  cond (shapeOk rk_impl_textReader_next r4.1)
  ((cS (cellsAt r4.1 0) 0).bind fun s5 =>
  (run_impl_textReader_next [.one (.ptr 0 3 0 0 0)] r4.2).bind fun r6 =>
  cond (shapeOk rk_impl_textReader_next r6.1)
  ((cS (cellsAt r6.1 0) 0).bind fun s7 =>
  (callS run_impl_ParseNum [.one (Cell.str s7), .one (Cell.int 1000)] r6.2).bind fun r8 =>
  cond (shapeOk rk_impl_ParseNum r8)
  ((cI .i64 (cellsAt r8 0) 0).bind fun i9 =>
  (cB (cellsAt r8 1) 0).bind fun b10 =>
  impl_GetMade_l0 k m m (c1) b10 i9 0 s3 (.lst true 2 []) s5 r6.2)
  none)
  none)
  none)
  none
noncomputable abbrev impl_GetMade_l0_B (k m : Nat) : (Ex → Fr → Option Res) → Fr → Option Res := evC G_impl_GetMade fi_impl_GetMade (evF G_impl_GetMade (k + 1)) m (sub [1, 1, 1, 1, 1, 0, 1, 2, 3] fi_impl_GetMade.code) none
noncomputable abbrev impl_GetMade_l0_K (k m : Nat) : Ex → Fr → Option Res := blockK 0 (seqK (evC G_impl_GetMade fi_impl_GetMade (evF G_impl_GetMade (k + 1)) m (sub [1, 1, 1, 1, 1, 1] fi_impl_GetMade.code) none) (retK G_impl_GetMade fi_impl_GetMade))
theorem impl_GetMade_l0_eq (k m : Nat) : ∀ (n : Nat) (c11 : Cell) (b12 : Bool) (i13 : Int) (i14 : Int) (s15 : ByteArray) (c16 : Cell) (s17 : ByteArray) (H18 : List Entry), loopK (some [0, 2, 4, 5, 7, 20, 21]) (impl_GetMade_l0_B k m) (impl_GetMade_l0_K k m) n ⟨fT 49 0 [(0, .av (.one (c11))), (2, .loc 2 0), (4, .av (.one (.ptr 0 3 0 0 0))), (5, .loc 5 0), (7, .av (.one (Cell.bool b12))), (20, .av (.one (Cell.int i13))), (21, .av (.one (Cell.int i14)))], fX 49 0 [(2, [Cell.str (bs []), .lst true 2 [], Cell.str (bs [])]), (5, [Cell.str s15, c16, Cell.str s17])], H18⟩ = impl_GetMade_l0 (k + 1) m n c11 b12 i13 i14 s15 c16 s17 H18 := by
  intro n
  induction n with
  | zero => intros; rfl
  | succ n ih =>
    intros
    simp only [impl_GetMade_l0, ← ih]
    kernel_rfl
theorem impl_GetMade_code (k m : Nat) (c1 : Cell) : evC G_impl_GetMade fi_impl_GetMade (evF G_impl_GetMade (k + 1)) m fi_impl_GetMade.code none (retK G_impl_GetMade fi_impl_GetMade) (enter fi_impl_GetMade [.one (c1)] []) = impl_GetMade (k + 1) m c1 := by
  simp only [impl_GetMade, ← impl_GetMade_l0_eq k m]
  kernel_rfl
theorem impl_GetMade_eq (k : Nat) (c1 : Cell) : evF G_impl_GetMade (k + 2) fid_impl_GetMade [.one (c1)] [] = impl_GetMade (k + 1) (k + 1) c1 :=
  Eq.trans (by kernel_rfl) (impl_GetMade_code k (k + 1) c1)
theorem run_impl_GetMade_of {c1 : Cell} {r : Res} (k : Nat) (h : impl_GetMade (k + 1) (k + 1) c1 = some r) : run_impl_GetMade [.one (c1)] [] = some r := lim_of ((impl_GetMade_eq k c1).trans h)
noncomputable def pl_laws_heldFileS : List (Nat × Run) := [(fid_laws_markText, run_laws_markText)]
noncomputable def G_laws_heldFileS : Ctx := ctx tyTab fiTab pl_laws_heldFileS
noncomputable def run_laws_heldFileS : Run := lim G_laws_heldFileS fid_laws_heldFileS
theorem ok_laws_heldFileS : FnOk Tryd.prog OkT fid_laws_heldFileS run_laws_heldFileS := lim_ok (l := pl_laws_heldFileS) Tryd_mix tyTab_ok fiTab_ok okT (.cons ok_laws_markText .nil) fid_laws_heldFileS
noncomputable def laws_heldFileS_l0 (k m : Nat) : Nat → Cell → Int → Int → Option Res
  | 0, _, _, _ => none
  | n + 1, c3, i4, i5 =>
    (lenC c3).bind fun n6 =>
    cond (decide (i5 < (n6 : Int)))
    ((idxA 2 (c3) i5).bind fun c7 =>
    (fldA c7 0).bind fun c8 =>
    (deref [] (c8)).bind fun p9 =>
    (cS p9.1 p9.2).bind fun s10 =>
    (callS run_laws_markText [.one (Cell.int i4)] []).bind fun r11 =>
    cond (shapeOk rk_laws_markText r11)
    ((cS (cellsAt r11 0) 0).bind fun s12 =>
    cond (!(s10.toList == s12.toList))
    (some ([.one (Cell.int (-1))], []))
    ((idxA 2 (c3) i5).bind fun c13 =>
    (fldA c13 1).bind fun c14 =>
    (deref [] (c14)).bind fun p15 =>
    (cS p15.1 p15.2).bind fun s16 =>
    (callS run_laws_markText [.one (Cell.int (IntKind.i64.wrap (i4 + 1)))] []).bind fun r17 =>
    cond (shapeOk rk_laws_markText r17)
    ((cS (cellsAt r17 0) 0).bind fun s18 =>
    cond (!(s16.toList == s18.toList))
    (some ([.one (Cell.int (-1))], []))
    (laws_heldFileS_l0 k m n (c3) (IntKind.i64.wrap ((IntKind.i64.wrap (i4 + 1)) + 1)) (IntKind.i64.wrap (i5 + 1))))
    none))
    none)
    (some ([.one (Cell.int i4)], []))
noncomputable def laws_heldFileS (k m : Nat) (c1 : Cell) (i2 : Int) : Option Res :=
  laws_heldFileS_l0 k m m (c1) i2 0
noncomputable abbrev laws_heldFileS_l0_B (k m : Nat) : (Ex → Fr → Option Res) → Fr → Option Res := evC G_laws_heldFileS fi_laws_heldFileS (evF G_laws_heldFileS (k + 1)) m (sub [1, 0, 1, 2, 3] fi_laws_heldFileS.code) none
noncomputable abbrev laws_heldFileS_l0_K (k m : Nat) : Ex → Fr → Option Res := blockK 0 (seqK (evC G_laws_heldFileS fi_laws_heldFileS (evF G_laws_heldFileS (k + 1)) m (sub [1, 1] fi_laws_heldFileS.code) none) (retK G_laws_heldFileS fi_laws_heldFileS))
theorem laws_heldFileS_l0_eq (k m : Nat) : ∀ (n : Nat) (c3 : Cell) (i4 : Int) (i5 : Int), loopK (some [0, 1, 5]) (laws_heldFileS_l0_B k m) (laws_heldFileS_l0_K k m) n ⟨fT 33 0 [(0, .av (.one (c3))), (1, .av (.one (Cell.int i4))), (5, .av (.one (Cell.int i5)))], fX 33 0 [], []⟩ = laws_heldFileS_l0 (k + 1) m n c3 i4 i5 := by
  intro n
  induction n with
  | zero => intros; rfl
  | succ n ih =>
    intros
    simp only [laws_heldFileS_l0, ← ih]
    kernel_rfl
theorem laws_heldFileS_code (k m : Nat) (c1 : Cell) (i2 : Int) : evC G_laws_heldFileS fi_laws_heldFileS (evF G_laws_heldFileS (k + 1)) m fi_laws_heldFileS.code none (retK G_laws_heldFileS fi_laws_heldFileS) (enter fi_laws_heldFileS [.one (c1), .one (Cell.int i2)] []) = laws_heldFileS (k + 1) m c1 i2 := by
  simp only [laws_heldFileS, ← laws_heldFileS_l0_eq k m]
  kernel_rfl
theorem laws_heldFileS_eq (k : Nat) (c1 : Cell) (i2 : Int) : evF G_laws_heldFileS (k + 2) fid_laws_heldFileS [.one (c1), .one (Cell.int i2)] [] = laws_heldFileS (k + 1) (k + 1) c1 i2 :=
  Eq.trans (by kernel_rfl) (laws_heldFileS_code k (k + 1) c1 i2)
theorem run_laws_heldFileS_of {c1 : Cell} {i2 : Int} {r : Res} (k : Nat) (h : laws_heldFileS (k + 1) (k + 1) c1 i2 = some r) : run_laws_heldFileS [.one (c1), .one (Cell.int i2)] [] = some r := lim_of ((laws_heldFileS_eq k c1 i2).trans h)
noncomputable def pl_laws_heldMade : List (Nat × Run) := [(fid_laws_heldFileS, run_laws_heldFileS)]
noncomputable def G_laws_heldMade : Ctx := ctx tyTab fiTab pl_laws_heldMade
noncomputable def run_laws_heldMade : Run := lim G_laws_heldMade fid_laws_heldMade
theorem ok_laws_heldMade : FnOk Tryd.prog OkT fid_laws_heldMade run_laws_heldMade := lim_ok (l := pl_laws_heldMade) Tryd_mix tyTab_ok fiTab_ok okT (.cons ok_laws_heldFileS .nil) fid_laws_heldMade
noncomputable def laws_heldMade (k m : Nat) (s1 : ByteArray) (c2 : Cell) (s3 : ByteArray) (i4 : Int) : Option Res :=
  (callS run_laws_heldFileS [.one (c2), .one (Cell.int i4)] []).bind fun r5 =>
  cond (shapeOk rk_laws_heldFileS r5)
  ((cI .i64 (cellsAt r5 0) 0).bind fun i6 =>
  cond (decide (i6 < 0))
  (some ([.one (Cell.int (-1))], []))
  (some ([.one (Cell.int i6)], [])))
  none
theorem laws_heldMade_code (k m : Nat) (s1 : ByteArray) (c2 : Cell) (s3 : ByteArray) (i4 : Int) : evC G_laws_heldMade fi_laws_heldMade (evF G_laws_heldMade (k + 1)) m fi_laws_heldMade.code none (retK G_laws_heldMade fi_laws_heldMade) (enter fi_laws_heldMade [.agg [Cell.str s1, c2, Cell.str s3], .one (Cell.int i4)] []) = laws_heldMade (k + 1) m s1 c2 s3 i4 := by
  kernel_rfl
theorem laws_heldMade_eq (k : Nat) (s1 : ByteArray) (c2 : Cell) (s3 : ByteArray) (i4 : Int) : evF G_laws_heldMade (k + 2) fid_laws_heldMade [.agg [Cell.str s1, c2, Cell.str s3], .one (Cell.int i4)] [] = laws_heldMade (k + 1) (k + 1) s1 c2 s3 i4 :=
  Eq.trans (by kernel_rfl) (laws_heldMade_code k (k + 1) s1 c2 s3 i4)
theorem run_laws_heldMade_of {s1 : ByteArray} {c2 : Cell} {s3 : ByteArray} {i4 : Int} {r : Res} (k : Nat) (h : laws_heldMade (k + 1) (k + 1) s1 c2 s3 i4 = some r) : run_laws_heldMade [.agg [Cell.str s1, c2, Cell.str s3], .one (Cell.int i4)] [] = some r := lim_of ((laws_heldMade_eq k s1 c2 s3 i4).trans h)
noncomputable def pl_laws_FnExactGetMade : List (Nat × Run) := [(fid_laws_eqByteS, run_laws_eqByteS), (fid_laws_eqMade, run_laws_eqMade), (fid_laws_markMade, run_laws_markMade), (fid_laws_markByteS, run_laws_markByteS), (fid_spec_GetMade, run_spec_GetMade), (fid_laws_toByteS, run_laws_toByteS), (fid_impl_GetMade, run_impl_GetMade), (fid_laws_heldMade, run_laws_heldMade)]
noncomputable def G_laws_FnExactGetMade : Ctx := ctx tyTab fiTab pl_laws_FnExactGetMade
noncomputable def run_laws_FnExactGetMade : Run := lim G_laws_FnExactGetMade fid_laws_FnExactGetMade
theorem ok_laws_FnExactGetMade : FnOk Tryd.prog OkT fid_laws_FnExactGetMade run_laws_FnExactGetMade := lim_ok (l := pl_laws_FnExactGetMade) Tryd_mix tyTab_ok fiTab_ok okT (.cons ok_laws_eqByteS (.cons ok_laws_eqMade (.cons ok_laws_markMade (.cons ok_laws_markByteS (.cons ok_spec_GetMade (.cons ok_laws_toByteS (.cons ok_impl_GetMade (.cons ok_laws_heldMade .nil)))))))) fid_laws_FnExactGetMade
noncomputable def laws_FnExactGetMade (k m : Nat) (c1 : Cell) : Option Res :=
  (lenC c1).bind fun n2 =>
  cond (decide ((n2 : Int) > 1048576))
  (some ([.one (Cell.bool true)], []))
  ((callF run_laws_toByteS [.one (c1)] []).bind fun r3 =>
  cond (shapeOk rk_laws_toByteS r3.1)
  ((cC (cellsAt r3.1 0) 0).bind fun c4 =>
  (callL run_spec_GetMade [.one (c4)] r3.2).bind fun r5 =>
  cond (shapeOk rk_spec_GetMade r5.1)
  ((cS (cellsAt r5.1 0) 0).bind fun s6 =>
  (cC (cellsAt r5.1 0) 1).bind fun c7 =>
  (cS (cellsAt r5.1 0) 2).bind fun s8 =>
  (cB (cellsAt r5.1 1) 0).bind fun b9 =>
  (callF run_laws_toByteS [.one (c1)] r5.2).bind fun r10 =>
  cond (shapeOk rk_laws_toByteS r10.1)
  ((cC (cellsAt r10.1 0) 0).bind fun c11 =>
  (callF run_impl_GetMade [.one (c11)] r10.2).bind fun r12 =>
  cond (shapeOk rk_impl_GetMade r12.1)
  ((cS (cellsAt r12.1 0) 0).bind fun s13 =>
  (cC (cellsAt r12.1 0) 1).bind fun c14 =>
  (cS (cellsAt r12.1 0) 2).bind fun s15 =>
  (cB (cellsAt r12.1 1) 0).bind fun b16 =>
  (callS run_laws_eqMade [.agg [Cell.str s13, c14, Cell.str s15], .agg [Cell.str s6, c7, Cell.str s8]] r12.2).bind fun r17 =>
  cond (shapeOk rk_laws_eqMade r17)
  ((cB (cellsAt r17 0) 0).bind fun b18 =>
  cond (!b18)
  (some ([.one (Cell.bool false)], r12.2))
  (cond (!(b16 == b9))
  (some ([.one (Cell.bool false)], r12.2))
  ((callF run_laws_toByteS [.one (c1)] r12.2).bind fun r19 =>
  cond (shapeOk rk_laws_toByteS r19.1)
  ((cC (cellsAt r19.1 0) 0).bind fun c20 =>
  (callS run_laws_eqByteS [.one (c11), .one (c20)] r19.2).bind fun r21 =>
  cond (shapeOk rk_laws_eqByteS r21)
  ((cB (cellsAt r21 0) 0).bind fun b22 =>
  cond (!b22)
  (some ([.one (Cell.bool false)], r19.2))
  ((run_laws_markByteS [.one (c11), .one (Cell.int 1)] r19.2).bind fun r23 =>
  cond (shapeOk rk_laws_markByteS r23.1)
  ((cI .i64 (cellsAt r23.1 0) 0).bind fun i24 =>
  cond (decide (i24 < 0))
  (some ([.one (Cell.bool false)], r23.2))
  ((callS run_laws_eqMade [.agg [Cell.str s13, c14, Cell.str s15], .agg [Cell.str s6, c7, Cell.str s8]] r23.2).bind fun r25 =>
  cond (shapeOk rk_laws_eqMade r25)
  ((cB (cellsAt r25 0) 0).bind fun b26 =>
  cond (!b26)
  (some ([.one (Cell.bool false)], r23.2))
  (cond (!(b16 == b9))
  (some ([.one (Cell.bool false)], r23.2))
  ((run_laws_markMade [.agg [Cell.str s13, c14, Cell.str s15], .one (Cell.int 1)] r23.2).bind fun r27 =>
  cond (shapeOk rk_laws_markMade r27.1)
  ((cI .i64 (cellsAt r27.1 0) 0).bind fun i28 =>
  (callS run_laws_heldMade [.agg [Cell.str s13, c14, Cell.str s15], .one (Cell.int 1)] r27.2).bind fun r29 =>
  cond (shapeOk rk_laws_heldMade r29)
  ((cI .i64 (cellsAt r29 0) 0).bind fun i30 =>
  cond (decide (i30 < 0))
  (some ([.one (Cell.bool false)], r27.2))
  (cond (i30 != i28)
  (some ([.one (Cell.bool false)], r27.2))
  ((callF run_laws_toByteS [.one (c1)] r27.2).bind fun r31 =>
  cond (shapeOk rk_laws_toByteS r31.1)
  ((cC (cellsAt r31.1 0) 0).bind fun c32 =>
  (callF run_impl_GetMade [.one (c32)] r31.2).bind fun r33 =>
  cond (shapeOk rk_impl_GetMade r33.1)
  ((cS (cellsAt r33.1 0) 0).bind fun s34 =>
  (cC (cellsAt r33.1 0) 1).bind fun c35 =>
  (cS (cellsAt r33.1 0) 2).bind fun s36 =>
  (cB (cellsAt r33.1 1) 0).bind fun b37 =>
  (callS run_laws_eqMade [.agg [Cell.str s34, c35, Cell.str s36], .agg [Cell.str s6, c7, Cell.str s8]] r33.2).bind fun r38 =>
  cond (shapeOk rk_laws_eqMade r38)
  ((cB (cellsAt r38 0) 0).bind fun b39 =>
  cond (!b39)
  (some ([.one (Cell.bool false)], r33.2))
  (cond (!(b37 == b9))
  (some ([.one (Cell.bool false)], r33.2))
  ((callS run_laws_heldMade [.agg [Cell.str s13, c14, Cell.str s15], .one (Cell.int 1)] r33.2).bind fun r40 =>
  cond (shapeOk rk_laws_heldMade r40)
  ((cI .i64 (cellsAt r40 0) 0).bind fun i41 =>
  cond (decide (i41 < 0))
  (some ([.one (Cell.bool false)], r33.2))
  (cond (i41 != i28)
  (some ([.one (Cell.bool false)], r33.2))
  (some ([.one (Cell.bool true)], r33.2))))
  none)))
  none)
  none)
  none)))
  none)
  none)))
  none))
  none))
  none)
  none)))
  none)
  none)
  none)
  none)
  none)
theorem laws_FnExactGetMade_code (k m : Nat) (c1 : Cell) : evC G_laws_FnExactGetMade fi_laws_FnExactGetMade (evF G_laws_FnExactGetMade (k + 1)) m fi_laws_FnExactGetMade.code none (retK G_laws_FnExactGetMade fi_laws_FnExactGetMade) (enter fi_laws_FnExactGetMade [.one (c1)] []) = laws_FnExactGetMade (k + 1) m c1 := by
  kernel_rfl
theorem laws_FnExactGetMade_eq (k : Nat) (c1 : Cell) : evF G_laws_FnExactGetMade (k + 2) fid_laws_FnExactGetMade [.one (c1)] [] = laws_FnExactGetMade (k + 1) (k + 1) c1 :=
  Eq.trans (by kernel_rfl) (laws_FnExactGetMade_code k (k + 1) c1)
theorem run_laws_FnExactGetMade_of {c1 : Cell} {r : Res} (k : Nat) (h : laws_FnExactGetMade (k + 1) (k + 1) c1 = some r) : run_laws_FnExactGetMade [.one (c1)] [] = some r := lim_of ((laws_FnExactGetMade_eq k c1).trans h)
end Go.Ev
