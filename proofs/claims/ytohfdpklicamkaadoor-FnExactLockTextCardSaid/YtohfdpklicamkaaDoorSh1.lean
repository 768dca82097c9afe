/- What the evaluator says of the functions, each as a Lean function over cells. Printed by a program of this claim. Conditions: none. -/
import Derived.Test.YtohfdpklicamkaaDoorSh0
import Derived.KernelRfl
namespace Go.Ev
open Go Go.Proofs
set_option maxRecDepth 100000
set_option linter.unusedVariables false
set_option linter.unusedSimpArgs false
noncomputable def pl_impl_inRange : List (Nat × Run) := []
noncomputable def G_impl_inRange : Ctx := ctx tyTab fiTab pl_impl_inRange
noncomputable def run_impl_inRange : Run := lim G_impl_inRange fid_impl_inRange
theorem ok_impl_inRange : FnOk Tryd.prog OkT fid_impl_inRange run_impl_inRange := lim_ok (l := pl_impl_inRange) Tryd_mix tyTab_ok fiTab_ok okT .nil fid_impl_inRange
noncomputable def impl_inRange (k m : Nat) (i1 : Int) (i2 : Int) (i3 : Int) : Option Res :=
  cond (decide (i1 ≥ i2))
  (some ([.one (Cell.bool (decide (i1 ≤ i3)))], []))
  (some ([.one (Cell.bool false)], []))
theorem impl_inRange_code (k m : Nat) (i1 : Int) (i2 : Int) (i3 : Int) : evC G_impl_inRange fi_impl_inRange (evF G_impl_inRange (k + 1)) m fi_impl_inRange.code none (retK G_impl_inRange fi_impl_inRange) (enter fi_impl_inRange [.one (Cell.int i1), .one (Cell.int i2), .one (Cell.int i3)] []) = impl_inRange (k + 1) m i1 i2 i3 := by
  kernel_rfl
theorem impl_inRange_eq (k : Nat) (i1 : Int) (i2 : Int) (i3 : Int) : evF G_impl_inRange (k + 2) fid_impl_inRange [.one (Cell.int i1), .one (Cell.int i2), .one (Cell.int i3)] [] = impl_inRange (k + 1) (k + 1) i1 i2 i3 :=
  Eq.trans (by kernel_rfl) (impl_inRange_code k (k + 1) i1 i2 i3)
theorem run_impl_inRange_of {i1 : Int} {i2 : Int} {i3 : Int} {r : Res} (k : Nat) (h : impl_inRange (k + 1) (k + 1) i1 i2 i3 = some r) : run_impl_inRange [.one (Cell.int i1), .one (Cell.int i2), .one (Cell.int i3)] [] = some r := lim_of ((impl_inRange_eq k i1 i2 i3).trans h)
noncomputable def pl_impl_NameOk : List (Nat × Run) := [(fid_impl_isSmall, run_impl_isSmall), (fid_impl_isFigure, run_impl_isFigure), (fid_impl_inRange, run_impl_inRange)]
noncomputable def G_impl_NameOk : Ctx := ctx tyTab fiTab pl_impl_NameOk
noncomputable def run_impl_NameOk : Run := lim G_impl_NameOk fid_impl_NameOk
theorem ok_impl_NameOk : FnOk Tryd.prog OkT fid_impl_NameOk run_impl_NameOk := lim_ok (l := pl_impl_NameOk) Tryd_mix tyTab_ok fiTab_ok okT (.cons ok_impl_isSmall (.cons ok_impl_isFigure (.cons ok_impl_inRange .nil))) fid_impl_NameOk
noncomputable def impl_NameOk_l0 (k m : Nat) : Nat → ByteArray → Int → Option Res
  | 0, _, _ => none
  | n + 1, s2, i3 =>
    cond (decide (i3 < (s2.size : Int)))
    ((bytS s2 i3).bind fun i4 =>
    (callS run_impl_isSmall [.one (.sc (.int .u8 i4))] []).bind fun r5 =>
    cond (shapeOk rk_impl_isSmall r5)
    ((cB (cellsAt r5 0) 0).bind fun b6 =>
    cond (!b6)
    (cond (i3 == 0)
    (some ([.one (Cell.bool false)], []))
    ((bytS s2 i3).bind fun i7 =>
    (callS run_impl_isFigure [.one (.sc (.int .u8 i7))] []).bind fun r8 =>
    cond (shapeOk rk_impl_isFigure r8)
    ((cB (cellsAt r8 0) 0).bind fun b9 =>
    cond (!b9)
    ((bytS s2 i3).bind fun i10 =>
    cond (i10 != 45)
    (some ([.one (Cell.bool false)], []))
    (impl_NameOk_l0 k m n s2 (IntKind.i64.wrap (i3 + 1))))
    (impl_NameOk_l0 k m n s2 (IntKind.i64.wrap (i3 + 1))))
    none))
    (impl_NameOk_l0 k m n s2 (IntKind.i64.wrap (i3 + 1))))
    none)
    ((callS run_impl_inRange [.one (Cell.int (s2.size : Int)), .one (Cell.int 1), .one (Cell.int 10)] []).bind fun r11 =>
    cond (shapeOk rk_impl_inRange r11)
    ((cB (cellsAt r11 0) 0).bind fun b12 =>
    some ([.one (Cell.bool b12)], []))
    none)
noncomputable def impl_NameOk (k m : Nat) (s1 : ByteArray) : Option Res :=
  impl_NameOk_l0 k m m s1 0
noncomputable abbrev impl_NameOk_l0_B (k m : Nat) : (Ex → Fr → Option Res) → Fr → Option Res := evC G_impl_NameOk fi_impl_NameOk (evF G_impl_NameOk (k + 1)) m (sub [1, 0, 1, 2, 3] fi_impl_NameOk.code) none
noncomputable abbrev impl_NameOk_l0_K (k m : Nat) : Ex → Fr → Option Res := blockK 0 (seqK (evC G_impl_NameOk fi_impl_NameOk (evF G_impl_NameOk (k + 1)) m (sub [1, 1] fi_impl_NameOk.code) none) (retK G_impl_NameOk fi_impl_NameOk))
theorem impl_NameOk_l0_eq (k m : Nat) : ∀ (n : Nat) (s2 : ByteArray) (i3 : Int), loopK (some [0, 3]) (impl_NameOk_l0_B k m) (impl_NameOk_l0_K k m) n ⟨fT 35 0 [(0, .av (.one (Cell.str s2))), (3, .av (.one (Cell.int i3)))], fX 35 0 [], []⟩ = impl_NameOk_l0 (k + 1) m n s2 i3 := by
  intro n
  induction n with
  | zero => intros; rfl
  | succ n ih =>
    intros
    simp only [impl_NameOk_l0, ← ih]
    kernel_rfl
theorem impl_NameOk_code (k m : Nat) (s1 : ByteArray) : evC G_impl_NameOk fi_impl_NameOk (evF G_impl_NameOk (k + 1)) m fi_impl_NameOk.code none (retK G_impl_NameOk fi_impl_NameOk) (enter fi_impl_NameOk [.one (Cell.str s1)] []) = impl_NameOk (k + 1) m s1 := by
  simp only [impl_NameOk, ← impl_NameOk_l0_eq k m]
  kernel_rfl
theorem impl_NameOk_eq (k : Nat) (s1 : ByteArray) : evF G_impl_NameOk (k + 2) fid_impl_NameOk [.one (Cell.str s1)] [] = impl_NameOk (k + 1) (k + 1) s1 :=
  Eq.trans (by kernel_rfl) (impl_NameOk_code k (k + 1) s1)
theorem run_impl_NameOk_of {s1 : ByteArray} {r : Res} (k : Nat) (h : impl_NameOk (k + 1) (k + 1) s1 = some r) : run_impl_NameOk [.one (Cell.str s1)] [] = some r := lim_of ((impl_NameOk_eq k s1).trans h)
noncomputable def pl_impl_isFigures : List (Nat × Run) := [(fid_impl_isFigure, run_impl_isFigure)]
noncomputable def G_impl_isFigures : Ctx := ctx tyTab fiTab pl_impl_isFigures
noncomputable def run_impl_isFigures : Run := lim G_impl_isFigures fid_impl_isFigures
theorem ok_impl_isFigures : FnOk Tryd.prog OkT fid_impl_isFigures run_impl_isFigures := lim_ok (l := pl_impl_isFigures) Tryd_mix tyTab_ok fiTab_ok okT (.cons ok_impl_isFigure .nil) fid_impl_isFigures
noncomputable def impl_isFigures_l0 (k m : Nat) : Nat → ByteArray → Int → Option Res
  | 0, _, _ => none
  | n + 1, s2, i3 =>
    cond (decide (i3 < (s2.size : Int)))
    ((bytS s2 i3).bind fun i4 =>
    (callS run_impl_isFigure [.one (.sc (.int .u8 i4))] []).bind fun r5 =>
    cond (shapeOk rk_impl_isFigure r5)
    ((cB (cellsAt r5 0) 0).bind fun b6 =>
    cond (!b6)
    (some ([.one (Cell.bool false)], []))
    (impl_isFigures_l0 k m n s2 (IntKind.i64.wrap (i3 + 1))))
    none)
    (some ([.one (Cell.bool (!(s2.toList == (bs []).toList)))], []))
noncomputable def impl_isFigures (k m : Nat) (s1 : ByteArray) : Option Res :=
  impl_isFigures_l0 k m m s1 0
noncomputable abbrev impl_isFigures_l0_B (k m : Nat) : (Ex → Fr → Option Res) → Fr → Option Res := evC G_impl_isFigures fi_impl_isFigures (evF G_impl_isFigures (k + 1)) m (sub [1, 0, 1, 2, 3] fi_impl_isFigures.code) none
noncomputable abbrev impl_isFigures_l0_K (k m : Nat) : Ex → Fr → Option Res := blockK 0 (seqK (evC G_impl_isFigures fi_impl_isFigures (evF G_impl_isFigures (k + 1)) m (sub [1, 1] fi_impl_isFigures.code) none) (retK G_impl_isFigures fi_impl_isFigures))
theorem impl_isFigures_l0_eq (k m : Nat) : ∀ (n : Nat) (s2 : ByteArray) (i3 : Int), loopK (some [0, 3]) (impl_isFigures_l0_B k m) (impl_isFigures_l0_K k m) n ⟨fT 17 0 [(0, .av (.one (Cell.str s2))), (3, .av (.one (Cell.int i3)))], fX 17 0 [], []⟩ = impl_isFigures_l0 (k + 1) m n s2 i3 := by
  intro n
  induction n with
  | zero => intros; rfl
  | succ n ih =>
    intros
    simp only [impl_isFigures_l0, ← ih]
    kernel_rfl
theorem impl_isFigures_code (k m : Nat) (s1 : ByteArray) : evC G_impl_isFigures fi_impl_isFigures (evF G_impl_isFigures (k + 1)) m fi_impl_isFigures.code none (retK G_impl_isFigures fi_impl_isFigures) (enter fi_impl_isFigures [.one (Cell.str s1)] []) = impl_isFigures (k + 1) m s1 := by
  simp only [impl_isFigures, ← impl_isFigures_l0_eq k m]
  kernel_rfl
theorem impl_isFigures_eq (k : Nat) (s1 : ByteArray) : evF G_impl_isFigures (k + 2) fid_impl_isFigures [.one (Cell.str s1)] [] = impl_isFigures (k + 1) (k + 1) s1 :=
  Eq.trans (by kernel_rfl) (impl_isFigures_code k (k + 1) s1)
theorem run_impl_isFigures_of {s1 : ByteArray} {r : Res} (k : Nat) (h : impl_isFigures (k + 1) (k + 1) s1 = some r) : run_impl_isFigures [.one (Cell.str s1)] [] = some r := lim_of ((impl_isFigures_eq k s1).trans h)
noncomputable def pl_impl_preOk : List (Nat × Run) := [(fid_impl_isSmall, run_impl_isSmall), (fid_impl_isFigure, run_impl_isFigure), (fid_impl_inRange, run_impl_inRange), (fid_impl_isFigures, run_impl_isFigures)]
noncomputable def G_impl_preOk : Ctx := ctx tyTab fiTab pl_impl_preOk
noncomputable def run_impl_preOk : Run := lim G_impl_preOk fid_impl_preOk
theorem ok_impl_preOk : FnOk Tryd.prog OkT fid_impl_preOk run_impl_preOk := lim_ok (l := pl_impl_preOk) Tryd_mix tyTab_ok fiTab_ok okT (.cons ok_impl_isSmall (.cons ok_impl_isFigure (.cons ok_impl_inRange (.cons ok_impl_isFigures .nil)))) fid_impl_preOk
noncomputable def impl_preOk_l0 (k m : Nat) : Nat → ByteArray → Int → Option Res
  | 0, _, _ => none
  | n + 1, s2, i3 =>
    cond (decide (i3 < (s2.size : Int)))
    ((bytS s2 i3).bind fun i4 =>
    (callS run_impl_isSmall [.one (.sc (.int .u8 i4))] []).bind fun r5 =>
    cond (shapeOk rk_impl_isSmall r5)
    ((cB (cellsAt r5 0) 0).bind fun b6 =>
    cond (!b6)
    (cond (decide (i4 ≥ 65))
    (cond (!(decide (i4 ≤ 90)))
    ((callS run_impl_isFigure [.one (.sc (.int .u8 i4))] []).bind fun r7 =>
    cond (shapeOk rk_impl_isFigure r7)
    ((cB (cellsAt r7 0) 0).bind fun b8 =>
    cond (!b8)
    (cond (i4 != 45)
    (some ([.one (Cell.bool false)], []))
    (impl_preOk_l0 k m n s2 (IntKind.i64.wrap (i3 + 1))))
    (impl_preOk_l0 k m n s2 (IntKind.i64.wrap (i3 + 1))))
    none)
    (impl_preOk_l0 k m n s2 (IntKind.i64.wrap (i3 + 1))))
    ((callS run_impl_isFigure [.one (.sc (.int .u8 i4))] []).bind fun r9 =>
    cond (shapeOk rk_impl_isFigure r9)
    ((cB (cellsAt r9 0) 0).bind fun b10 =>
    cond (!b10)
    (cond (i4 != 45)
    (some ([.one (Cell.bool false)], []))
    (impl_preOk_l0 k m n s2 (IntKind.i64.wrap (i3 + 1))))
    (impl_preOk_l0 k m n s2 (IntKind.i64.wrap (i3 + 1))))
    none))
    (impl_preOk_l0 k m n s2 (IntKind.i64.wrap (i3 + 1))))
    none)
    ((callS run_impl_inRange [.one (Cell.int (s2.size : Int)), .one (Cell.int 1), .one (Cell.int 8)] []).bind fun r11 =>
    cond (shapeOk rk_impl_inRange r11)
    ((cB (cellsAt r11 0) 0).bind fun b12 =>
    cond b12
    ((callS run_impl_isFigures [.one (Cell.str s2)] []).bind fun r13 =>
    cond (shapeOk rk_impl_isFigures r13)
    ((cB (cellsAt r13 0) 0).bind fun b14 =>
    cond (!b14)
    (some ([.one (Cell.bool true)], []))
    (cond (s2.toList == (bs [48]).toList)
    (some ([.one (Cell.bool true)], []))
    ((bytS s2 0).bind fun i15 =>
    some ([.one (Cell.bool (i15 != 48))], []))))
    none)
    (some ([.one (Cell.bool false)], [])))
    none)
noncomputable def impl_preOk (k m : Nat) (s1 : ByteArray) : Option Res :=
  impl_preOk_l0 k m m s1 0
noncomputable abbrev impl_preOk_l0_B (k m : Nat) : (Ex → Fr → Option Res) → Fr → Option Res := evC G_impl_preOk fi_impl_preOk (evF G_impl_preOk (k + 1)) m (sub [1, 0, 1, 2, 3] fi_impl_preOk.code) none
noncomputable abbrev impl_preOk_l0_K (k m : Nat) : Ex → Fr → Option Res := blockK 0 (seqK (evC G_impl_preOk fi_impl_preOk (evF G_impl_preOk (k + 1)) m (sub [1, 1] fi_impl_preOk.code) none) (retK G_impl_preOk fi_impl_preOk))
theorem impl_preOk_l0_eq (k m : Nat) : ∀ (n : Nat) (s2 : ByteArray) (i3 : Int), loopK (some [0, 3]) (impl_preOk_l0_B k m) (impl_preOk_l0_K k m) n ⟨fT 52 0 [(0, .av (.one (Cell.str s2))), (3, .av (.one (Cell.int i3)))], fX 52 0 [], []⟩ = impl_preOk_l0 (k + 1) m n s2 i3 := by
  intro n
  induction n with
  | zero => intros; rfl
  | succ n ih =>
    intros
    simp only [impl_preOk_l0, ← ih]
    kernel_rfl
theorem impl_preOk_code (k m : Nat) (s1 : ByteArray) : evC G_impl_preOk fi_impl_preOk (evF G_impl_preOk (k + 1)) m fi_impl_preOk.code none (retK G_impl_preOk fi_impl_preOk) (enter fi_impl_preOk [.one (Cell.str s1)] []) = impl_preOk (k + 1) m s1 := by
  simp only [impl_preOk, ← impl_preOk_l0_eq k m]
  kernel_rfl
theorem impl_preOk_eq (k : Nat) (s1 : ByteArray) : evF G_impl_preOk (k + 2) fid_impl_preOk [.one (Cell.str s1)] [] = impl_preOk (k + 1) (k + 1) s1 :=
  Eq.trans (by kernel_rfl) (impl_preOk_code k (k + 1) s1)
theorem run_impl_preOk_of {s1 : ByteArray} {r : Res} (k : Nat) (h : impl_preOk (k + 1) (k + 1) s1 = some r) : run_impl_preOk [.one (Cell.str s1)] [] = some r := lim_of ((impl_preOk_eq k s1).trans h)
noncomputable def pl_impl_VerOk : List (Nat × Run) := [(fid_impl_inRange, run_impl_inRange), (fid_impl_preOk, run_impl_preOk)]
noncomputable def G_impl_VerOk : Ctx := ctx tyTab fiTab pl_impl_VerOk
noncomputable def run_impl_VerOk : Run := lim G_impl_VerOk fid_impl_VerOk
theorem ok_impl_VerOk : FnOk Tryd.prog OkT fid_impl_VerOk run_impl_VerOk := lim_ok (l := pl_impl_VerOk) Tryd_mix tyTab_ok fiTab_ok okT (.cons ok_impl_inRange (.cons ok_impl_preOk .nil)) fid_impl_VerOk
noncomputable def impl_VerOk_l0 (k m : Nat) : Nat → Cell → Int → Int → Int → Int → Int → Cell → Option Res
  | 0, _, _, _, _, _, _, _ => none
  | n + 1, c6, i7, i8, i9, i10, i11, c12 =>
    cond (decide (i8 < i7))
    ((idxA 1 (c6) i8).bind fun c13 =>
    (deref [] (c13)).bind fun p14 =>
    (cS p14.1 p14.2).bind fun s15 =>
    (callS run_impl_preOk [.one (Cell.str s15)] []).bind fun r16 =>
    cond (shapeOk rk_impl_preOk r16)
    ((cB (cellsAt r16 0) 0).bind fun b17 =>
    cond (!b17)
    (some ([.one (Cell.bool false)], []))
    (impl_VerOk_l0 k m n (c6) i7 (IntKind.i64.wrap (i8 + 1)) i9 i10 i11 (c12)))
    none)
    ((callS run_impl_inRange [.one (Cell.int i9), .one (Cell.int 0), .one (Cell.int 9999)] []).bind fun r18 =>
    cond (shapeOk rk_impl_inRange r18)
    ((cB (cellsAt r18 0) 0).bind fun b19 =>
    cond b19
    ((callS run_impl_inRange [.one (Cell.int i10), .one (Cell.int 0), .one (Cell.int 9999)] []).bind fun r20 =>
    cond (shapeOk rk_impl_inRange r20)
    ((cB (cellsAt r20 0) 0).bind fun b21 =>
    cond b21
    ((callS run_impl_inRange [.one (Cell.int i11), .one (Cell.int 0), .one (Cell.int 9999)] []).bind fun r22 =>
    cond (shapeOk rk_impl_inRange r22)
    ((cB (cellsAt r22 0) 0).bind fun b23 =>
    cond b23
    ((lenC c12).bind fun n24 =>
    some ([.one (Cell.bool (decide ((n24 : Int) ≤ 3)))], []))
    (some ([.one (Cell.bool false)], [])))
    none)
    (some ([.one (Cell.bool false)], [])))
    none)
    (some ([.one (Cell.bool false)], [])))
    none)
noncomputable def impl_VerOk (k m : Nat) (i1 : Int) (i2 : Int) (i3 : Int) (c4 : Cell) : Option Res :=
  (lenC c4).bind fun n5 =>
  impl_VerOk_l0 k m m (c4) (n5 : Int) 0 i1 i2 i3 (c4)
noncomputable abbrev impl_VerOk_l0_B (k m : Nat) : (Ex → Fr → Option Res) → Fr → Option Res := evC G_impl_VerOk fi_impl_VerOk (evF G_impl_VerOk (k + 1)) m (sub [1, 0, 1, 2, 3] fi_impl_VerOk.code) none
noncomputable abbrev impl_VerOk_l0_K (k m : Nat) : Ex → Fr → Option Res := blockK 0 (seqK (evC G_impl_VerOk fi_impl_VerOk (evF G_impl_VerOk (k + 1)) m (sub [1, 1] fi_impl_VerOk.code) none) (retK G_impl_VerOk fi_impl_VerOk))
theorem impl_VerOk_l0_eq (k m : Nat) : ∀ (n : Nat) (c6 : Cell) (i7 : Int) (i8 : Int) (i9 : Int) (i10 : Int) (i11 : Int) (c12 : Cell), loopK (some [1, 6, 7, 8]) (impl_VerOk_l0_B k m) (impl_VerOk_l0_K k m) n ⟨fT 35 0 [(1, .loc 1 0), (6, .av (.one (c6))), (7, .av (.one (Cell.int i7))), (8, .av (.one (Cell.int i8)))], fX 35 0 [(1, [Cell.int i9, Cell.int i10, Cell.int i11, c12])], []⟩ = impl_VerOk_l0 (k + 1) m n c6 i7 i8 i9 i10 i11 c12 := by
  intro n
  induction n with
  | zero => intros; rfl
  | succ n ih =>
    intros
    simp only [impl_VerOk_l0, ← ih]
    kernel_rfl
theorem impl_VerOk_code (k m : Nat) (i1 : Int) (i2 : Int) (i3 : Int) (c4 : Cell) : evC G_impl_VerOk fi_impl_VerOk (evF G_impl_VerOk (k + 1)) m fi_impl_VerOk.code none (retK G_impl_VerOk fi_impl_VerOk) (enter fi_impl_VerOk [.agg [Cell.int i1, Cell.int i2, Cell.int i3, c4]] []) = impl_VerOk (k + 1) m i1 i2 i3 c4 := by
  simp only [impl_VerOk, ← impl_VerOk_l0_eq k m]
  kernel_rfl
theorem impl_VerOk_eq (k : Nat) (i1 : Int) (i2 : Int) (i3 : Int) (c4 : Cell) : evF G_impl_VerOk (k + 2) fid_impl_VerOk [.agg [Cell.int i1, Cell.int i2, Cell.int i3, c4]] [] = impl_VerOk (k + 1) (k + 1) i1 i2 i3 c4 :=
  Eq.trans (by kernel_rfl) (impl_VerOk_code k (k + 1) i1 i2 i3 c4)
theorem run_impl_VerOk_of {i1 : Int} {i2 : Int} {i3 : Int} {c4 : Cell} {r : Res} (k : Nat) (h : impl_VerOk (k + 1) (k + 1) i1 i2 i3 c4 = some r) : run_impl_VerOk [.agg [Cell.int i1, Cell.int i2, Cell.int i3, c4]] [] = some r := lim_of ((impl_VerOk_eq k i1 i2 i3 c4).trans h)
noncomputable def pl_impl_NumText : List (Nat × Run) := [(fid_strconv_Itoa, run_strconv_Itoa)]
noncomputable def G_impl_NumText : Ctx := ctx tyTab fiTab pl_impl_NumText
noncomputable def run_impl_NumText : Run := lim G_impl_NumText fid_impl_NumText
theorem ok_impl_NumText : FnOk Tryd.prog OkT fid_impl_NumText run_impl_NumText := lim_ok (l := pl_impl_NumText) Tryd_mix tyTab_ok fiTab_ok okT (.cons ok_strconv_Itoa .nil) fid_impl_NumText
noncomputable def impl_NumText (k m : Nat) (i1 : Int) : Option Res :=
  (callS run_strconv_Itoa [.one (Cell.int (if i1 < 0 then 0 else i1))] []).bind fun r2 =>
  cond (shapeOk rk_strconv_Itoa r2)
  ((cS (cellsAt r2 0) 0).bind fun s3 =>
  some ([.one (Cell.str s3)], []))
  none
theorem impl_NumText_code (k m : Nat) (i1 : Int) : evC G_impl_NumText fi_impl_NumText (evF G_impl_NumText (k + 1)) m fi_impl_NumText.code none (retK G_impl_NumText fi_impl_NumText) (enter fi_impl_NumText [.one (Cell.int i1)] []) = impl_NumText (k + 1) m i1 := by
  kernel_rfl
theorem impl_NumText_eq (k : Nat) (i1 : Int) : evF G_impl_NumText (k + 2) fid_impl_NumText [.one (Cell.int i1)] [] = impl_NumText (k + 1) (k + 1) i1 :=
  Eq.trans (by kernel_rfl) (impl_NumText_code k (k + 1) i1)
theorem run_impl_NumText_of {i1 : Int} {r : Res} (k : Nat) (h : impl_NumText (k + 1) (k + 1) i1 = some r) : run_impl_NumText [.one (Cell.int i1)] [] = some r := lim_of ((impl_NumText_eq k i1).trans h)
noncomputable def pl_impl_VerText : List (Nat × Run) := [(fid_impl_VerOk, run_impl_VerOk), (fid_strings_Join, run_strings_Join), (fid_impl_NumText, run_impl_NumText)]
noncomputable def G_impl_VerText : Ctx := ctx tyTab fiTab pl_impl_VerText
noncomputable def run_impl_VerText : Run := lim G_impl_VerText fid_impl_VerText
theorem ok_impl_VerText : FnOk Tryd.prog OkT fid_impl_VerText run_impl_VerText := lim_ok (l := pl_impl_VerText) Tryd_mix tyTab_ok fiTab_ok okT (.cons ok_impl_VerOk (.cons ok_strings_Join (.cons ok_impl_NumText .nil))) fid_impl_VerText
noncomputable def impl_VerText (k m : Nat) (i1 : Int) (i2 : Int) (i3 : Int) (c4 : Cell) : Option Res :=
  (callS run_impl_VerOk [.agg [Cell.int i1, Cell.int i2, Cell.int i3, c4]] []).bind fun r5 =>
  cond (shapeOk rk_impl_VerOk r5)
  ((cB (cellsAt r5 0) 0).bind fun b6 =>
  cond (!b6)
  (some ([.one (Cell.str (bs []))], []))
  ((callS run_impl_NumText [.one (Cell.int i1)] []).bind fun r7 =>
  cond (shapeOk rk_impl_NumText r7)
  ((cS (cellsAt r7 0) 0).bind fun s8 =>
  (catS s8 (bs [46])).bind fun s9 =>
  (callS run_impl_NumText [.one (Cell.int i2)] []).bind fun r10 =>
  cond (shapeOk rk_impl_NumText r10)
  ((cS (cellsAt r10 0) 0).bind fun s11 =>
  (catS s9 s11).bind fun s12 =>
  (catS s12 (bs [46])).bind fun s13 =>
  (callS run_impl_NumText [.one (Cell.int i3)] []).bind fun r14 =>
  cond (shapeOk rk_impl_NumText r14)
  ((cS (cellsAt r14 0) 0).bind fun s15 =>
  (catS s13 s15).bind fun s16 =>
  (lenC c4).bind fun n17 =>
  cond (decide ((n17 : Int) > 0))
  ((callS run_strings_Join [.one (c4), .one (Cell.str (bs [46]))] []).bind fun r18 =>
  cond (shapeOk rk_strings_Join r18)
  ((cS (cellsAt r18 0) 0).bind fun s19 =>
  (catS (bs [45]) s19).bind fun s20 =>
  (catS s16 s20).bind fun s21 =>
  some ([.one (Cell.str s21)], []))
  none)
  (some ([.one (Cell.str s16)], [])))
  none)
  none)
  none))
  none
theorem impl_VerText_code (k m : Nat) (i1 : Int) (i2 : Int) (i3 : Int) (c4 : Cell) : evC G_impl_VerText fi_impl_VerText (evF G_impl_VerText (k + 1)) m fi_impl_VerText.code none (retK G_impl_VerText fi_impl_VerText) (enter fi_impl_VerText [.agg [Cell.int i1, Cell.int i2, Cell.int i3, c4]] []) = impl_VerText (k + 1) m i1 i2 i3 c4 := by
  kernel_rfl
theorem impl_VerText_eq (k : Nat) (i1 : Int) (i2 : Int) (i3 : Int) (c4 : Cell) : evF G_impl_VerText (k + 2) fid_impl_VerText [.agg [Cell.int i1, Cell.int i2, Cell.int i3, c4]] [] = impl_VerText (k + 1) (k + 1) i1 i2 i3 c4 :=
  Eq.trans (by kernel_rfl) (impl_VerText_code k (k + 1) i1 i2 i3 c4)
theorem run_impl_VerText_of {i1 : Int} {i2 : Int} {i3 : Int} {c4 : Cell} {r : Res} (k : Nat) (h : impl_VerText (k + 1) (k + 1) i1 i2 i3 c4 = some r) : run_impl_VerText [.agg [Cell.int i1, Cell.int i2, Cell.int i3, c4]] [] = some r := lim_of ((impl_VerText_eq k i1 i2 i3 c4).trans h)
noncomputable def pl_impl_LockText : List (Nat × Run) := [(fid_impl_NameOk, run_impl_NameOk), (fid_impl_VerOk, run_impl_VerOk), (fid_strings_Builder_WriteString, run_strings_Builder_WriteString), (fid_impl_VerText, run_impl_VerText), (fid_strings_Builder_String, run_strings_Builder_String)]
noncomputable def G_impl_LockText : Ctx := ctx tyTab fiTab pl_impl_LockText
noncomputable def run_impl_LockText : Run := lim G_impl_LockText fid_impl_LockText
theorem ok_impl_LockText : FnOk Tryd.prog OkT fid_impl_LockText run_impl_LockText := lim_ok (l := pl_impl_LockText) Tryd_mix tyTab_ok fiTab_ok okT (.cons ok_impl_NameOk (.cons ok_impl_VerOk (.cons ok_strings_Builder_WriteString (.cons ok_impl_VerText (.cons ok_strings_Builder_String .nil))))) fid_impl_LockText
noncomputable def impl_LockText_l0 (k m : Nat) : Nat → Cell → Cell → Int → Int → List Entry → Option Res
  | 0, _, _, _, _, _ => none
  | n + 1, c4, c5, i6, i7, H8 =>
    cond (decide (i7 < i6))
    ((idxA 5 (c5) i7).bind fun c9 =>
    (deref H8 (c9)).bind fun p10 =>
    (cS p10.1 p10.2).bind fun s11 =>
    (cI .i64 p10.1 (p10.2 + 1)).bind fun i12 =>
    (cI .i64 p10.1 ((p10.2 + 1) + 1)).bind fun i13 =>
    (cI .i64 p10.1 (((p10.2 + 1) + 1) + 1)).bind fun i14 =>
    (cC p10.1 ((((p10.2 + 1) + 1) + 1) + 1)).bind fun c15 =>
    (callS run_impl_NameOk [.one (Cell.str s11)] H8).bind fun r16 =>
    cond (shapeOk rk_impl_NameOk r16)
    ((cB (cellsAt r16 0) 0).bind fun b17 =>
    cond (!b17)
    (some ([.one (Cell.str (bs []))], H8))
    ((callS run_impl_VerOk [.agg [Cell.int i12, Cell.int i13, Cell.int i14, c15]] H8).bind fun r18 =>
    cond (shapeOk rk_impl_VerOk r18)
    ((cB (cellsAt r18 0) 0).bind fun b19 =>
    cond (!b19)
    (some ([.one (Cell.str (bs []))], H8))
    (cond (decide (i7 > 0))
    ((idxA 5 (c4) (IntKind.i64.wrap (i7 - 1))).bind fun c20 =>
    (fldA c20 0).bind fun c21 =>
    (deref H8 (c21)).bind fun p22 =>
    (cS p22.1 p22.2).bind fun s23 =>
    cond (Op.bytesLess s11.toList s23.toList || s11.toList == s23.toList)
    (some ([.one (Cell.str (bs []))], H8))
    ((catS s11 (bs [64])).bind fun s24 =>
    (callS run_impl_VerText [.agg [Cell.int i12, Cell.int i13, Cell.int i14, c15]] []).bind fun r25 =>
    cond (shapeOk rk_impl_VerText r25)
    ((cS (cellsAt r25 0) 0).bind fun s26 =>
    (catS s24 s26).bind fun s27 =>
    (catS s27 (bs [10])).bind fun s28 =>
    (run_strings_Builder_WriteString [.one (.bl 88 5 0 0), .one (Cell.str s28)] H8).bind fun r29 =>
    cond (shapeOk rk_strings_Builder_WriteString r29.1)
    ((cI .i64 (cellsAt r29.1 0) 0).bind fun i30 =>
    (cC (cellsAt r29.1 1) 0).bind fun c31 =>
    impl_LockText_l0 k m n (c4) (c5) i6 (IntKind.i64.wrap (i7 + 1)) r29.2)
    none)
    none))
    ((catS s11 (bs [64])).bind fun s32 =>
    (callS run_impl_VerText [.agg [Cell.int i12, Cell.int i13, Cell.int i14, c15]] []).bind fun r33 =>
    cond (shapeOk rk_impl_VerText r33)
    ((cS (cellsAt r33 0) 0).bind fun s34 =>
    (catS s32 s34).bind fun s35 =>
    (catS s35 (bs [10])).bind fun s36 =>
    (run_strings_Builder_WriteString [.one (.bl 88 5 0 0), .one (Cell.str s36)] H8).bind fun r37 =>
    cond (shapeOk rk_strings_Builder_WriteString r37.1)
    ((cI .i64 (cellsAt r37.1 0) 0).bind fun i38 =>
    (cC (cellsAt r37.1 1) 0).bind fun c39 =>
    impl_LockText_l0 k m n (c4) (c5) i6 (IntKind.i64.wrap (i7 + 1)) r37.2)
    none)
    none)))
    none))
    none)
    ((run_strings_Builder_String [.one (.bl 88 5 0 0)] H8).bind fun r40 =>
    cond (shapeOk rk_strings_Builder_String r40.1)
    ((cS (cellsAt r40.1 0) 0).bind fun s41 =>
    some ([.one (Cell.str s41)], r40.2))
    none)
noncomputable def impl_LockText (k m : Nat) (c1 : Cell) : Option Res :=
  (lenC c1).bind fun n2 =>
  cond (decide ((n2 : Int) > 12))
  (some ([.one (Cell.str (bs []))], []))
  ((lenC c1).bind fun n3 =>
  impl_LockText_l0 k m m (c1) (c1) (n3 : Int) 0 [Entry.mk 1 [[Cell.str (bs [])]] 0 false, Entry.mk 1 [] 0 false])
noncomputable abbrev impl_LockText_l0_B (k m : Nat) : (Ex → Fr → Option Res) → Fr → Option Res := evC G_impl_LockText fi_impl_LockText (evF G_impl_LockText (k + 1)) m (sub [1, 1, 1, 0, 1, 2, 3] fi_impl_LockText.code) none
noncomputable abbrev impl_LockText_l0_K (k m : Nat) : Ex → Fr → Option Res := blockK 0 (seqK (evC G_impl_LockText fi_impl_LockText (evF G_impl_LockText (k + 1)) m (sub [1, 1, 1, 1] fi_impl_LockText.code) none) (retK G_impl_LockText fi_impl_LockText))
theorem impl_LockText_l0_eq (k m : Nat) : ∀ (n : Nat) (c4 : Cell) (c5 : Cell) (i6 : Int) (i7 : Int) (H8 : List Entry), loopK (some [0, 3, 9, 10, 11]) (impl_LockText_l0_B k m) (impl_LockText_l0_K k m) n ⟨fT 52 0 [(0, .av (.one (c4))), (3, .av (.one (.bl 88 5 0 0))), (9, .av (.one (c5))), (10, .av (.one (Cell.int i6))), (11, .av (.one (Cell.int i7)))], fX 52 0 [], H8⟩ = impl_LockText_l0 (k + 1) m n c4 c5 i6 i7 H8 := by
  intro n
  induction n with
  | zero => intros; rfl
  | succ n ih =>
    intros
    simp only [impl_LockText_l0, ← ih]
    kernel_rfl
theorem impl_LockText_code (k m : Nat) (c1 : Cell) : evC G_impl_LockText fi_impl_LockText (evF G_impl_LockText (k + 1)) m fi_impl_LockText.code none (retK G_impl_LockText fi_impl_LockText) (enter fi_impl_LockText [.one (c1)] []) = impl_LockText (k + 1) m c1 := by
  simp only [impl_LockText, ← impl_LockText_l0_eq k m]
  kernel_rfl
theorem impl_LockText_eq (k : Nat) (c1 : Cell) : evF G_impl_LockText (k + 2) fid_impl_LockText [.one (c1)] [] = impl_LockText (k + 1) (k + 1) c1 :=
  Eq.trans (by kernel_rfl) (impl_LockText_code k (k + 1) c1)
theorem run_impl_LockText_of {c1 : Cell} {r : Res} (k : Nat) (h : impl_LockText (k + 1) (k + 1) c1 = some r) : run_impl_LockText [.one (c1)] [] = some r := lim_of ((impl_LockText_eq k c1).trans h)
noncomputable def pl_laws_eqStringS : List (Nat × Run) := []
noncomputable def G_laws_eqStringS : Ctx := ctx tyTab fiTab pl_laws_eqStringS
noncomputable def run_laws_eqStringS : Run := lim G_laws_eqStringS fid_laws_eqStringS
theorem ok_laws_eqStringS : FnOk Tryd.prog OkT fid_laws_eqStringS run_laws_eqStringS := lim_ok (l := pl_laws_eqStringS) Tryd_mix tyTab_ok fiTab_ok okT .nil fid_laws_eqStringS
noncomputable def laws_eqStringS_l0 (k m : Nat) : Nat → Cell → Cell → Int → Option Res
  | 0, _, _, _ => none
  | n + 1, c5, c6, i7 =>
    (lenC c5).bind fun n8 =>
    cond (decide (i7 < (n8 : Int)))
    ((idxA 1 (c5) i7).bind fun c9 =>
    (deref [] (c9)).bind fun p10 =>
    (cS p10.1 p10.2).bind fun s11 =>
    (idxA 1 (c6) i7).bind fun c12 =>
    (deref [] (c12)).bind fun p13 =>
    (cS p13.1 p13.2).bind fun s14 =>
    cond (!(s11.toList == s14.toList))
    (some ([.one (Cell.bool false)], []))
    (laws_eqStringS_l0 k m n (c5) (c6) (IntKind.i64.wrap (i7 + 1))))
    (some ([.one (Cell.bool true)], []))
noncomputable def laws_eqStringS (k m : Nat) (c1 : Cell) (c2 : Cell) : Option Res :=
  (lenC c1).bind fun n3 =>
  (lenC c2).bind fun n4 =>
  cond ((n3 : Int) != (n4 : Int))
  (some ([.one (Cell.bool false)], []))
  (laws_eqStringS_l0 k m m (c1) (c2) 0)
noncomputable abbrev laws_eqStringS_l0_B (k m : Nat) : (Ex → Fr → Option Res) → Fr → Option Res := evC G_laws_eqStringS fi_laws_eqStringS (evF G_laws_eqStringS (k + 1)) m (sub [1, 1, 0, 1, 2, 3] fi_laws_eqStringS.code) none
noncomputable abbrev laws_eqStringS_l0_K (k m : Nat) : Ex → Fr → Option Res := blockK 0 (seqK (evC G_laws_eqStringS fi_laws_eqStringS (evF G_laws_eqStringS (k + 1)) m (sub [1, 1, 1] fi_laws_eqStringS.code) none) (retK G_laws_eqStringS fi_laws_eqStringS))
theorem laws_eqStringS_l0_eq (k m : Nat) : ∀ (n : Nat) (c5 : Cell) (c6 : Cell) (i7 : Int), loopK (some [0, 1, 5]) (laws_eqStringS_l0_B k m) (laws_eqStringS_l0_K k m) n ⟨fT 26 0 [(0, .av (.one (c5))), (1, .av (.one (c6))), (5, .av (.one (Cell.int i7)))], fX 26 0 [], []⟩ = laws_eqStringS_l0 (k + 1) m n c5 c6 i7 := by
  intro n
  induction n with
  | zero => intros; rfl
  | succ n ih =>
    intros
    simp only [laws_eqStringS_l0, ← ih]
    kernel_rfl
theorem laws_eqStringS_code (k m : Nat) (c1 : Cell) (c2 : Cell) : evC G_laws_eqStringS fi_laws_eqStringS (evF G_laws_eqStringS (k + 1)) m fi_laws_eqStringS.code none (retK G_laws_eqStringS fi_laws_eqStringS) (enter fi_laws_eqStringS [.one (c1), .one (c2)] []) = laws_eqStringS (k + 1) m c1 c2 := by
  simp only [laws_eqStringS, ← laws_eqStringS_l0_eq k m]
  kernel_rfl
theorem laws_eqStringS_eq (k : Nat) (c1 : Cell) (c2 : Cell) : evF G_laws_eqStringS (k + 2) fid_laws_eqStringS [.one (c1), .one (c2)] [] = laws_eqStringS (k + 1) (k + 1) c1 c2 :=
  Eq.trans (by kernel_rfl) (laws_eqStringS_code k (k + 1) c1 c2)
theorem run_laws_eqStringS_of {c1 : Cell} {c2 : Cell} {r : Res} (k : Nat) (h : laws_eqStringS (k + 1) (k + 1) c1 c2 = some r) : run_laws_eqStringS [.one (c1), .one (c2)] [] = some r := lim_of ((laws_eqStringS_eq k c1 c2).trans h)
noncomputable def pl_laws_eqVer : List (Nat × Run) := [(fid_laws_eqStringS, run_laws_eqStringS)]
noncomputable def G_laws_eqVer : Ctx := ctx tyTab fiTab pl_laws_eqVer
noncomputable def run_laws_eqVer : Run := lim G_laws_eqVer fid_laws_eqVer
theorem ok_laws_eqVer : FnOk Tryd.prog OkT fid_laws_eqVer run_laws_eqVer := lim_ok (l := pl_laws_eqVer) Tryd_mix tyTab_ok fiTab_ok okT (.cons ok_laws_eqStringS .nil) fid_laws_eqVer
noncomputable def laws_eqVer (k m : Nat) (i1 : Int) (i2 : Int) (i3 : Int) (c4 : Cell) (i5 : Int) (i6 : Int) (i7 : Int) (c8 : Cell) : Option Res :=
  cond (i1 != i5)
  (some ([.one (Cell.bool false)], []))
  (cond (i2 != i6)
  (some ([.one (Cell.bool false)], []))
  (cond (i3 != i7)
  (some ([.one (Cell.bool false)], []))
  ((callS run_laws_eqStringS [.one (c4), .one (c8)] []).bind fun r9 =>
  cond (shapeOk rk_laws_eqStringS r9)
  ((cB (cellsAt r9 0) 0).bind fun b10 =>
  cond (!b10)
  (some ([.one (Cell.bool false)], []))
  (some ([.one (Cell.bool true)], [])))
  none)))
theorem laws_eqVer_code (k m : Nat) (i1 : Int) (i2 : Int) (i3 : Int) (c4 : Cell) (i5 : Int) (i6 : Int) (i7 : Int) (c8 : Cell) : evC G_laws_eqVer fi_laws_eqVer (evF G_laws_eqVer (k + 1)) m fi_laws_eqVer.code none (retK G_laws_eqVer fi_laws_eqVer) (enter fi_laws_eqVer [.agg [Cell.int i1, Cell.int i2, Cell.int i3, c4], .agg [Cell.int i5, Cell.int i6, Cell.int i7, c8]] []) = laws_eqVer (k + 1) m i1 i2 i3 c4 i5 i6 i7 c8 := by
  kernel_rfl
theorem laws_eqVer_eq (k : Nat) (i1 : Int) (i2 : Int) (i3 : Int) (c4 : Cell) (i5 : Int) (i6 : Int) (i7 : Int) (c8 : Cell) : evF G_laws_eqVer (k + 2) fid_laws_eqVer [.agg [Cell.int i1, Cell.int i2, Cell.int i3, c4], .agg [Cell.int i5, Cell.int i6, Cell.int i7, c8]] [] = laws_eqVer (k + 1) (k + 1) i1 i2 i3 c4 i5 i6 i7 c8 :=
  Eq.trans (by kernel_rfl) (laws_eqVer_code k (k + 1) i1 i2 i3 c4 i5 i6 i7 c8)
theorem run_laws_eqVer_of {i1 : Int} {i2 : Int} {i3 : Int} {c4 : Cell} {i5 : Int} {i6 : Int} {i7 : Int} {c8 : Cell} {r : Res} (k : Nat) (h : laws_eqVer (k + 1) (k + 1) i1 i2 i3 c4 i5 i6 i7 c8 = some r) : run_laws_eqVer [.agg [Cell.int i1, Cell.int i2, Cell.int i3, c4], .agg [Cell.int i5, Cell.int i6, Cell.int i7, c8]] [] = some r := lim_of ((laws_eqVer_eq k i1 i2 i3 c4 i5 i6 i7 c8).trans h)
noncomputable def pl_laws_eqPick : List (Nat × Run) := [(fid_laws_eqVer, run_laws_eqVer)]
noncomputable def G_laws_eqPick : Ctx := ctx tyTab fiTab pl_laws_eqPick
noncomputable def run_laws_eqPick : Run := lim G_laws_eqPick fid_laws_eqPick
theorem ok_laws_eqPick : FnOk Tryd.prog OkT fid_laws_eqPick run_laws_eqPick := lim_ok (l := pl_laws_eqPick) Tryd_mix tyTab_ok fiTab_ok okT (.cons ok_laws_eqVer .nil) fid_laws_eqPick
noncomputable def laws_eqPick (k m : Nat) (s1 : ByteArray) (i2 : Int) (i3 : Int) (i4 : Int) (c5 : Cell) (s6 : ByteArray) (i7 : Int) (i8 : Int) (i9 : Int) (c10 : Cell) : Option Res :=
  cond (!(s1.toList == s6.toList))
  (some ([.one (Cell.bool false)], []))
  ((callS run_laws_eqVer [.agg [Cell.int i2, Cell.int i3, Cell.int i4, c5], .agg [Cell.int i7, Cell.int i8, Cell.int i9, c10]] []).bind fun r11 =>
  cond (shapeOk rk_laws_eqVer r11)
  ((cB (cellsAt r11 0) 0).bind fun b12 =>
  cond (!b12)
  (some ([.one (Cell.bool false)], []))
  (some ([.one (Cell.bool true)], [])))
  none)
theorem laws_eqPick_code (k m : Nat) (s1 : ByteArray) (i2 : Int) (i3 : Int) (i4 : Int) (c5 : Cell) (s6 : ByteArray) (i7 : Int) (i8 : Int) (i9 : Int) (c10 : Cell) : evC G_laws_eqPick fi_laws_eqPick (evF G_laws_eqPick (k + 1)) m fi_laws_eqPick.code none (retK G_laws_eqPick fi_laws_eqPick) (enter fi_laws_eqPick [.agg [Cell.str s1, Cell.int i2, Cell.int i3, Cell.int i4, c5], .agg [Cell.str s6, Cell.int i7, Cell.int i8, Cell.int i9, c10]] []) = laws_eqPick (k + 1) m s1 i2 i3 i4 c5 s6 i7 i8 i9 c10 := by
  kernel_rfl
theorem laws_eqPick_eq (k : Nat) (s1 : ByteArray) (i2 : Int) (i3 : Int) (i4 : Int) (c5 : Cell) (s6 : ByteArray) (i7 : Int) (i8 : Int) (i9 : Int) (c10 : Cell) : evF G_laws_eqPick (k + 2) fid_laws_eqPick [.agg [Cell.str s1, Cell.int i2, Cell.int i3, Cell.int i4, c5], .agg [Cell.str s6, Cell.int i7, Cell.int i8, Cell.int i9, c10]] [] = laws_eqPick (k + 1) (k + 1) s1 i2 i3 i4 c5 s6 i7 i8 i9 c10 :=
  Eq.trans (by kernel_rfl) (laws_eqPick_code k (k + 1) s1 i2 i3 i4 c5 s6 i7 i8 i9 c10)
theorem run_laws_eqPick_of {s1 : ByteArray} {i2 : Int} {i3 : Int} {i4 : Int} {c5 : Cell} {s6 : ByteArray} {i7 : Int} {i8 : Int} {i9 : Int} {c10 : Cell} {r : Res} (k : Nat) (h : laws_eqPick (k + 1) (k + 1) s1 i2 i3 i4 c5 s6 i7 i8 i9 c10 = some r) : run_laws_eqPick [.agg [Cell.str s1, Cell.int i2, Cell.int i3, Cell.int i4, c5], .agg [Cell.str s6, Cell.int i7, Cell.int i8, Cell.int i9, c10]] [] = some r := lim_of ((laws_eqPick_eq k s1 i2 i3 i4 c5 s6 i7 i8 i9 c10).trans h)
noncomputable def pl_laws_eqPickS : List (Nat × Run) := [(fid_laws_eqPick, run_laws_eqPick)]
noncomputable def G_laws_eqPickS : Ctx := ctx tyTab fiTab pl_laws_eqPickS
noncomputable def run_laws_eqPickS : Run := lim G_laws_eqPickS fid_laws_eqPickS
theorem ok_laws_eqPickS : FnOk Tryd.prog OkT fid_laws_eqPickS run_laws_eqPickS := lim_ok (l := pl_laws_eqPickS) Tryd_mix tyTab_ok fiTab_ok okT (.cons ok_laws_eqPick .nil) fid_laws_eqPickS
noncomputable def laws_eqPickS_l0 (k m : Nat) : Nat → Cell → Cell → Int → Option Res
  | 0, _, _, _ => none
  | n + 1, c5, c6, i7 =>
    (lenC c5).bind fun n8 =>
    cond (decide (i7 < (n8 : Int)))
    ((idxA 5 (c5) i7).bind fun c9 =>
    (deref [] (c9)).bind fun p10 =>
    (cS p10.1 p10.2).bind fun s11 =>
    (cI .i64 p10.1 (p10.2 + 1)).bind fun i12 =>
    (cI .i64 p10.1 ((p10.2 + 1) + 1)).bind fun i13 =>
    (cI .i64 p10.1 (((p10.2 + 1) + 1) + 1)).bind fun i14 =>
    (cC p10.1 ((((p10.2 + 1) + 1) + 1) + 1)).bind fun c15 =>
    (idxA 5 (c6) i7).bind fun c16 =>
    (deref [] (c16)).bind fun p17 =>
    (cS p17.1 p17.2).bind fun s18 =>
    (cI .i64 p17.1 (p17.2 + 1)).bind fun i19 =>
    (cI .i64 p17.1 ((p17.2 + 1) + 1)).bind fun i20 =>
    (cI .i64 p17.1 (((p17.2 + 1) + 1) + 1)).bind fun i21 =>
    (cC p17.1 ((((p17.2 + 1) + 1) + 1) + 1)).bind fun c22 =>
    (callS run_laws_eqPick [.agg [Cell.str s11, Cell.int i12, Cell.int i13, Cell.int i14, c15], .agg [Cell.str s18, Cell.int i19, Cell.int i20, Cell.int i21, c22]] []).bind fun r23 =>
    cond (shapeOk rk_laws_eqPick r23)
    ((cB (cellsAt r23 0) 0).bind fun b24 =>
    cond (!b24)
    (some ([.one (Cell.bool false)], []))
    (laws_eqPickS_l0 k m n (c5) (c6) (IntKind.i64.wrap (i7 + 1))))
    none)
    (some ([.one (Cell.bool true)], []))
noncomputable def laws_eqPickS (k m : Nat) (c1 : Cell) (c2 : Cell) : Option Res :=
  (lenC c1).bind fun n3 =>
  (lenC c2).bind fun n4 =>
  cond ((n3 : Int) != (n4 : Int))
  (some ([.one (Cell.bool false)], []))
  (laws_eqPickS_l0 k m m (c1) (c2) 0)
noncomputable abbrev laws_eqPickS_l0_B (k m : Nat) : (Ex → Fr → Option Res) → Fr → Option Res := evC G_laws_eqPickS fi_laws_eqPickS (evF G_laws_eqPickS (k + 1)) m (sub [1, 1, 0, 1, 2, 3] fi_laws_eqPickS.code) none
noncomputable abbrev laws_eqPickS_l0_K (k m : Nat) : Ex → Fr → Option Res := blockK 0 (seqK (evC G_laws_eqPickS fi_laws_eqPickS (evF G_laws_eqPickS (k + 1)) m (sub [1, 1, 1] fi_laws_eqPickS.code) none) (retK G_laws_eqPickS fi_laws_eqPickS))
theorem laws_eqPickS_l0_eq (k m : Nat) : ∀ (n : Nat) (c5 : Cell) (c6 : Cell) (i7 : Int), loopK (some [0, 1, 5]) (laws_eqPickS_l0_B k m) (laws_eqPickS_l0_K k m) n ⟨fT 27 0 [(0, .av (.one (c5))), (1, .av (.one (c6))), (5, .av (.one (Cell.int i7)))], fX 27 0 [], []⟩ = laws_eqPickS_l0 (k + 1) m n c5 c6 i7 := by
  intro n
  induction n with
  | zero => intros; rfl
  | succ n ih =>
    intros
    simp only [laws_eqPickS_l0, ← ih]
    kernel_rfl
theorem laws_eqPickS_code (k m : Nat) (c1 : Cell) (c2 : Cell) : evC G_laws_eqPickS fi_laws_eqPickS (evF G_laws_eqPickS (k + 1)) m fi_laws_eqPickS.code none (retK G_laws_eqPickS fi_laws_eqPickS) (enter fi_laws_eqPickS [.one (c1), .one (c2)] []) = laws_eqPickS (k + 1) m c1 c2 := by
  simp only [laws_eqPickS, ← laws_eqPickS_l0_eq k m]
  kernel_rfl
theorem laws_eqPickS_eq (k : Nat) (c1 : Cell) (c2 : Cell) : evF G_laws_eqPickS (k + 2) fid_laws_eqPickS [.one (c1), .one (c2)] [] = laws_eqPickS (k + 1) (k + 1) c1 c2 :=
  Eq.trans (by kernel_rfl) (laws_eqPickS_code k (k + 1) c1 c2)
theorem run_laws_eqPickS_of {c1 : Cell} {c2 : Cell} {r : Res} (k : Nat) (h : laws_eqPickS (k + 1) (k + 1) c1 c2 = some r) : run_laws_eqPickS [.one (c1), .one (c2)] [] = some r := lim_of ((laws_eqPickS_eq k c1 c2).trans h)
noncomputable def pl_laws_FnExactLockText : List (Nat × Run) := [(fid_laws_szPickS, run_laws_szPickS), (fid_spec_LockText, run_spec_LockText), (fid_laws_toPickS, run_laws_toPickS), (fid_impl_LockText, run_impl_LockText), (fid_laws_eqPickS, run_laws_eqPickS)]
noncomputable def G_laws_FnExactLockText : Ctx := ctx tyTab fiTab pl_laws_FnExactLockText
noncomputable def run_laws_FnExactLockText : Run := lim G_laws_FnExactLockText fid_laws_FnExactLockText
theorem ok_laws_FnExactLockText : FnOk Tryd.prog OkT fid_laws_FnExactLockText run_laws_FnExactLockText := lim_ok (l := pl_laws_FnExactLockText) Tryd_mix tyTab_ok fiTab_ok okT (.cons ok_laws_szPickS (.cons ok_spec_LockText (.cons ok_laws_toPickS (.cons ok_impl_LockText (.cons ok_laws_eqPickS .nil))))) fid_laws_FnExactLockText
noncomputable def laws_FnExactLockText (k m : Nat) (c1 : Cell) : Option Res :=
  (callS run_laws_szPickS [.one (c1), .one (Cell.int 1048576)] []).bind fun r2 =>
  cond (shapeOk rk_laws_szPickS r2)
  ((cI .i64 (cellsAt r2 0) 0).bind fun i3 =>
  cond (decide (i3 < 0))
  (some ([.one (Cell.bool true)], []))
  ((callL run_laws_toPickS [.one (c1)] []).bind fun r4 =>
  cond (shapeOk rk_laws_toPickS r4.1)
  ((cC (cellsAt r4.1 0) 0).bind fun c5 =>
  (callS run_spec_LockText [.one (c5)] r4.2).bind fun r6 =>
  cond (shapeOk rk_spec_LockText r6)
  ((cS (cellsAt r6 0) 0).bind fun s7 =>
  (callL run_laws_toPickS [.one (c1)] r4.2).bind fun r8 =>
  cond (shapeOk rk_laws_toPickS r8.1)
  ((cC (cellsAt r8.1 0) 0).bind fun c9 =>
  (callS run_impl_LockText [.one (c9)] r8.2).bind fun r10 =>
  cond (shapeOk rk_impl_LockText r10)
  ((cS (cellsAt r10 0) 0).bind fun s11 =>
  cond (!(s11.toList == s7.toList))
  (some ([.one (Cell.bool false)], r8.2))
  ((callL run_laws_toPickS [.one (c1)] r8.2).bind fun r12 =>
  cond (shapeOk rk_laws_toPickS r12.1)
  ((cC (cellsAt r12.1 0) 0).bind fun c13 =>
  (callS run_laws_eqPickS [.one (c9), .one (c13)] r12.2).bind fun r14 =>
  cond (shapeOk rk_laws_eqPickS r14)
  ((cB (cellsAt r14 0) 0).bind fun b15 =>
  cond (!b15)
  (some ([.one (Cell.bool false)], r12.2))
  (some ([.one (Cell.bool true)], r12.2)))
  none)
  none))
  none)
  none)
  none)
  none))
  none
theorem laws_FnExactLockText_code (k m : Nat) (c1 : Cell) : evC G_laws_FnExactLockText fi_laws_FnExactLockText (evF G_laws_FnExactLockText (k + 1)) m fi_laws_FnExactLockText.code none (retK G_laws_FnExactLockText fi_laws_FnExactLockText) (enter fi_laws_FnExactLockText [.one (c1)] []) = laws_FnExactLockText (k + 1) m c1 := by
  kernel_rfl
theorem laws_FnExactLockText_eq (k : Nat) (c1 : Cell) : evF G_laws_FnExactLockText (k + 2) fid_laws_FnExactLockText [.one (c1)] [] = laws_FnExactLockText (k + 1) (k + 1) c1 :=
  Eq.trans (by kernel_rfl) (laws_FnExactLockText_code k (k + 1) c1)
theorem run_laws_FnExactLockText_of {c1 : Cell} {r : Res} (k : Nat) (h : laws_FnExactLockText (k + 1) (k + 1) c1 = some r) : run_laws_FnExactLockText [.one (c1)] [] = some r := lim_of ((laws_FnExactLockText_eq k c1).trans h)
end Go.Ev
