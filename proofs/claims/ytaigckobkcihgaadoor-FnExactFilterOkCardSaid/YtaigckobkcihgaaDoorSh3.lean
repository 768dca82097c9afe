/- What the evaluator says of the functions, each as a Lean function over cells. Printed by a program of this claim. Conditions: none. -/
import Derived.Test.YtaigckobkcihgaaDoorSh2
import Derived.KernelRfl
namespace Go.Ev
open Go Go.Proofs
set_option maxRecDepth 100000
set_option linter.unusedVariables false
set_option linter.unusedSimpArgs false
noncomputable def pl_impl_PathOk : List (Nat × Run) := [(fid_strings_Split, run_strings_Split), (fid_impl_fileNameOk, run_impl_fileNameOk)]
noncomputable def G_impl_PathOk : Ctx := ctx tyTab fiTab pl_impl_PathOk
noncomputable def run_impl_PathOk : Run := lim G_impl_PathOk fid_impl_PathOk
theorem ok_impl_PathOk : FnOk Tryd.prog OkT fid_impl_PathOk run_impl_PathOk := lim_ok (l := pl_impl_PathOk) Tryd_mix tyTab_ok fiTab_ok okT (.cons ok_strings_Split (.cons ok_impl_fileNameOk .nil)) fid_impl_PathOk
noncomputable def impl_PathOk_l0 (k m : Nat) : Nat → Cell → Cell → Int → Int → List Entry → Option Res
  | 0, _, _, _, _, _ => none
  | n + 1, c5, c6, i7, i8, H9 =>
    cond (decide (i8 < i7))
    ((idxA 1 (c6) i8).bind fun c10 =>
    (deref H9 (c10)).bind fun p11 =>
    (cS p11.1 p11.2).bind fun s12 =>
    (callS run_impl_fileNameOk [.one (Cell.str s12)] H9).bind fun r13 =>
    cond (shapeOk rk_impl_fileNameOk r13)
    ((cB (cellsAt r13 0) 0).bind fun b14 =>
    cond (!b14)
    (some ([.one (Cell.bool false)], H9))
    (impl_PathOk_l0 k m n (c5) (c6) i7 (IntKind.i64.wrap (i8 + 1)) H9))
    none)
    ((lenC c5).bind fun n15 =>
    some ([.one (Cell.bool (decide ((n15 : Int) ≤ 4)))], H9))
noncomputable def impl_PathOk (k m : Nat) (s1 : ByteArray) : Option Res :=
  (callL run_strings_Split [.one (Cell.str s1), .one (Cell.str (bs [47]))] []).bind fun r2 =>
  cond (shapeOk rk_strings_Split r2.1)
  ((cC (cellsAt r2.1 0) 0).bind fun c3 =>
  (lenC c3).bind fun n4 =>
  impl_PathOk_l0 k m m (c3) (c3) (n4 : Int) 0 r2.2)
  none
noncomputable abbrev impl_PathOk_l0_B (k m : Nat) : (Ex → Fr → Option Res) → Fr → Option Res := evC G_impl_PathOk fi_impl_PathOk (evF G_impl_PathOk (k + 1)) m (sub [1, 1, 0, 1, 2, 3] fi_impl_PathOk.code) none
noncomputable abbrev impl_PathOk_l0_K (k m : Nat) : Ex → Fr → Option Res := blockK 0 (seqK (evC G_impl_PathOk fi_impl_PathOk (evF G_impl_PathOk (k + 1)) m (sub [1, 1, 1] fi_impl_PathOk.code) none) (retK G_impl_PathOk fi_impl_PathOk))
theorem impl_PathOk_l0_eq (k m : Nat) : ∀ (n : Nat) (c5 : Cell) (c6 : Cell) (i7 : Int) (i8 : Int) (H9 : List Entry), loopK (some [3, 8, 9, 10]) (impl_PathOk_l0_B k m) (impl_PathOk_l0_K k m) n ⟨fT 21 0 [(3, .av (.one (c5))), (8, .av (.one (c6))), (9, .av (.one (Cell.int i7))), (10, .av (.one (Cell.int i8)))], fX 21 0 [], H9⟩ = impl_PathOk_l0 (k + 1) m n c5 c6 i7 i8 H9 := by
  intro n
  induction n with
  | zero => intros; rfl
  | succ n ih =>
    intros
    simp only [impl_PathOk_l0, ← ih]
    kernel_rfl
theorem impl_PathOk_code (k m : Nat) (s1 : ByteArray) : evC G_impl_PathOk fi_impl_PathOk (evF G_impl_PathOk (k + 1)) m fi_impl_PathOk.code none (retK G_impl_PathOk fi_impl_PathOk) (enter fi_impl_PathOk [.one (Cell.str s1)] []) = impl_PathOk (k + 1) m s1 := by
  simp only [impl_PathOk, ← impl_PathOk_l0_eq k m]
  kernel_rfl
theorem impl_PathOk_eq (k : Nat) (s1 : ByteArray) : evF G_impl_PathOk (k + 2) fid_impl_PathOk [.one (Cell.str s1)] [] = impl_PathOk (k + 1) (k + 1) s1 :=
  Eq.trans (by kernel_rfl) (impl_PathOk_code k (k + 1) s1)
theorem run_impl_PathOk_of {s1 : ByteArray} {r : Res} (k : Nat) (h : impl_PathOk (k + 1) (k + 1) s1 = some r) : run_impl_PathOk [.one (Cell.str s1)] [] = some r := lim_of ((impl_PathOk_eq k s1).trans h)
noncomputable def pl_strings_IndexByte : List (Nat × Run) := [(fid_internal_stringslite_IndexByte, run_internal_stringslite_IndexByte)]
noncomputable def G_strings_IndexByte : Ctx := ctx tyTab fiTab pl_strings_IndexByte
noncomputable def run_strings_IndexByte : Run := lim G_strings_IndexByte fid_strings_IndexByte
theorem ok_strings_IndexByte : FnOk Tryd.prog OkT fid_strings_IndexByte run_strings_IndexByte := lim_ok (l := pl_strings_IndexByte) Tryd_mix tyTab_ok fiTab_ok okT (.cons ok_internal_stringslite_IndexByte .nil) fid_strings_IndexByte
noncomputable def strings_IndexByte (k m : Nat) (s1 : ByteArray) (i2 : Int) : Option Res :=
  (callS run_internal_stringslite_IndexByte [.one (Cell.str s1), .one (.sc (.int .u8 i2))] []).bind fun r3 =>
  cond (shapeOk rk_internal_stringslite_IndexByte r3)
  ((cI .i64 (cellsAt r3 0) 0).bind fun i4 =>
  some ([.one (Cell.int i4)], []))
  none
theorem strings_IndexByte_code (k m : Nat) (s1 : ByteArray) (i2 : Int) : evC G_strings_IndexByte fi_strings_IndexByte (evF G_strings_IndexByte (k + 1)) m fi_strings_IndexByte.code none (retK G_strings_IndexByte fi_strings_IndexByte) (enter fi_strings_IndexByte [.one (Cell.str s1), .one (.sc (.int .u8 i2))] []) = strings_IndexByte (k + 1) m s1 i2 := by
  kernel_rfl
theorem strings_IndexByte_eq (k : Nat) (s1 : ByteArray) (i2 : Int) : evF G_strings_IndexByte (k + 2) fid_strings_IndexByte [.one (Cell.str s1), .one (.sc (.int .u8 i2))] [] = strings_IndexByte (k + 1) (k + 1) s1 i2 :=
  Eq.trans (by kernel_rfl) (strings_IndexByte_code k (k + 1) s1 i2)
theorem run_strings_IndexByte_of {s1 : ByteArray} {i2 : Int} {r : Res} (k : Nat) (h : strings_IndexByte (k + 1) (k + 1) s1 i2 = some r) : run_strings_IndexByte [.one (Cell.str s1), .one (.sc (.int .u8 i2))] [] = some r := lim_of ((strings_IndexByte_eq k s1 i2).trans h)
noncomputable def pl_impl_unitTakes : List (Nat × Run) := [(fid_strings_CutPrefix, run_strings_CutPrefix), (fid_strings_IndexByte, run_strings_IndexByte)]
noncomputable def G_impl_unitTakes : Ctx := ctx tyTab fiTab pl_impl_unitTakes
noncomputable def run_impl_unitTakes : Run := lim G_impl_unitTakes fid_impl_unitTakes
theorem ok_impl_unitTakes : FnOk Tryd.prog OkT fid_impl_unitTakes run_impl_unitTakes := lim_ok (l := pl_impl_unitTakes) Tryd_mix tyTab_ok fiTab_ok okT (.cons ok_strings_CutPrefix (.cons ok_strings_IndexByte .nil)) fid_impl_unitTakes
noncomputable def impl_unitTakes (k m : Nat) (s1 : ByteArray) (i2 : Int) : Option Res :=
  cond (s1.toList == (bs [63]).toList)
  (some ([.one (Cell.bool true)], []))
  (cond ((s1.size : Int) == 1)
  ((bytS s1 0).bind fun i3 =>
  some ([.one (Cell.bool (i3 == i2))], []))
  ((subS s1 1 (IntKind.i64.wrap ((s1.size : Int) - 1))).bind fun s4 =>
  (callS run_strings_CutPrefix [.one (Cell.str s4), .one (Cell.str (bs [33]))] []).bind fun r5 =>
  cond (shapeOk rk_strings_CutPrefix r5)
  ((cS (cellsAt r5 0) 0).bind fun s6 =>
  (cB (cellsAt r5 1) 0).bind fun b7 =>
  (callS run_strings_IndexByte [.one (Cell.str s6), .one (.sc (.int .u8 i2))] []).bind fun r8 =>
  cond (shapeOk rk_strings_IndexByte r8)
  ((cI .i64 (cellsAt r8 0) 0).bind fun i9 =>
  some ([.one (Cell.bool (!((decide (i9 ≥ 0)) == b7)))], []))
  none)
  none))
theorem impl_unitTakes_code (k m : Nat) (s1 : ByteArray) (i2 : Int) : evC G_impl_unitTakes fi_impl_unitTakes (evF G_impl_unitTakes (k + 1)) m fi_impl_unitTakes.code none (retK G_impl_unitTakes fi_impl_unitTakes) (enter fi_impl_unitTakes [.one (Cell.str s1), .one (.sc (.int .u8 i2))] []) = impl_unitTakes (k + 1) m s1 i2 := by
  kernel_rfl
theorem impl_unitTakes_eq (k : Nat) (s1 : ByteArray) (i2 : Int) : evF G_impl_unitTakes (k + 2) fid_impl_unitTakes [.one (Cell.str s1), .one (.sc (.int .u8 i2))] [] = impl_unitTakes (k + 1) (k + 1) s1 i2 :=
  Eq.trans (by kernel_rfl) (impl_unitTakes_code k (k + 1) s1 i2)
theorem run_impl_unitTakes_of {s1 : ByteArray} {i2 : Int} {r : Res} (k : Nat) (h : impl_unitTakes (k + 1) (k + 1) s1 i2 = some r) : run_impl_unitTakes [.one (Cell.str s1), .one (.sc (.int .u8 i2))] [] = some r := lim_of ((impl_unitTakes_eq k s1 i2).trans h)
noncomputable def pl_impl_pieceTakes : List (Nat × Run) := [(fid_impl_unitOf, run_impl_unitOf), (fid_impl_unitTakes, run_impl_unitTakes)]
noncomputable def G_impl_pieceTakes : Ctx := ctx tyTab fiTab pl_impl_pieceTakes
noncomputable def run_impl_pieceTakes : Run := lim G_impl_pieceTakes fid_impl_pieceTakes
theorem ok_impl_pieceTakes : FnOk Tryd.prog OkT fid_impl_pieceTakes run_impl_pieceTakes := lim_ok (l := pl_impl_pieceTakes) Tryd_mix tyTab_ok fiTab_ok okT (.cons ok_impl_unitOf (.cons ok_impl_unitTakes .nil)) fid_impl_pieceTakes
noncomputable def impl_pieceTakes_l0 (k m : Nat) : Nat → ByteArray → ByteArray → Int → Int → Option Res
  | 0, _, _, _, _ => none
  | n + 1, s7, s8, i9, i10 =>
    cond (decide (i10 < i9))
    ((subS s7 i10 (s7.size : Int)).bind fun s11 =>
    (callS (evF G_impl_pieceTakes k fid_impl_pieceTakes) [.one (Cell.str s8), .one (Cell.str s11)] []).bind fun r12 =>
    cond (shapeOk rk_impl_pieceTakes r12)
    ((cB (cellsAt r12 0) 0).bind fun b13 =>
    cond b13
    (some ([.one (Cell.bool true)], []))
    (impl_pieceTakes_l0 k m n s7 s8 i9 (IntKind.i64.wrap (i10 + 1))))
    none)
    (some ([.one (Cell.bool false)], []))
noncomputable def impl_pieceTakes (k m : Nat) (s1 : ByteArray) (s2 : ByteArray) : Option Res :=
  cond (s1.toList == (bs []).toList)
  (some ([.one (Cell.bool (s2.toList == (bs []).toList))], []))
  ((callS run_impl_unitOf [.one (Cell.str s1)] []).bind fun r3 =>
  cond (shapeOk rk_impl_unitOf r3)
  ((cI .i64 (cellsAt r3 0) 0).bind fun i4 =>
  (subS s1 0 i4).bind fun s5 =>
  (subS s1 i4 (s1.size : Int)).bind fun s6 =>
  cond (s5.toList == (bs [42]).toList)
  (impl_pieceTakes_l0 k m m s2 s6 (IntKind.i64.wrap ((s2.size : Int) + 1)) 0)
  (cond (!(s2.toList == (bs []).toList))
  ((bytS s2 0).bind fun i14 =>
  (callS run_impl_unitTakes [.one (Cell.str s5), .one (.sc (.int .u8 i14))] []).bind fun r15 =>
  cond (shapeOk rk_impl_unitTakes r15)
  ((cB (cellsAt r15 0) 0).bind fun b16 =>
  cond b16
  ((subS s2 1 (s2.size : Int)).bind fun s17 =>
  (callS (evF G_impl_pieceTakes k fid_impl_pieceTakes) [.one (Cell.str s6), .one (Cell.str s17)] []).bind fun r18 =>
  cond (shapeOk rk_impl_pieceTakes r18)
  ((cB (cellsAt r18 0) 0).bind fun b19 =>
  some ([.one (Cell.bool b19)], []))
  none)
  (some ([.one (Cell.bool false)], [])))
  none)
  (some ([.one (Cell.bool false)], []))))
  none)
noncomputable abbrev impl_pieceTakes_l0_B (k m : Nat) : (Ex → Fr → Option Res) → Fr → Option Res := evC G_impl_pieceTakes fi_impl_pieceTakes (evF G_impl_pieceTakes (k + 1)) m (sub [1, 1, 1, 1, 0, 1, 4, 0, 1, 2, 3] fi_impl_pieceTakes.code) none
noncomputable abbrev impl_pieceTakes_l0_K (k m : Nat) : Ex → Fr → Option Res := blockK 0 (seqK (evC G_impl_pieceTakes fi_impl_pieceTakes (evF G_impl_pieceTakes (k + 1)) m (sub [1, 1, 1, 1, 0, 1, 4, 1] fi_impl_pieceTakes.code) none) (seqK (evC G_impl_pieceTakes fi_impl_pieceTakes (evF G_impl_pieceTakes (k + 1)) m (sub [1, 1, 1, 1, 1] fi_impl_pieceTakes.code) none) (retK G_impl_pieceTakes fi_impl_pieceTakes)))
theorem impl_pieceTakes_l0_eq (k m : Nat) : ∀ (n : Nat) (s7 : ByteArray) (s8 : ByteArray) (i9 : Int) (i10 : Int), loopK (some [1, 7, 25, 26]) (impl_pieceTakes_l0_B k m) (impl_pieceTakes_l0_K k m) n ⟨fT 49 0 [(1, .av (.one (Cell.str s7))), (7, .av (.one (Cell.str s8))), (25, .av (.one (Cell.int i9))), (26, .av (.one (Cell.int i10)))], fX 49 0 [], []⟩ = impl_pieceTakes_l0 (k + 1) m n s7 s8 i9 i10 := by
  intro n
  induction n with
  | zero => intros; rfl
  | succ n ih =>
    intros
    simp only [impl_pieceTakes_l0, ← ih]
    kernel_rfl
theorem impl_pieceTakes_code (k m : Nat) (s1 : ByteArray) (s2 : ByteArray) : evC G_impl_pieceTakes fi_impl_pieceTakes (evF G_impl_pieceTakes (k + 1)) m fi_impl_pieceTakes.code none (retK G_impl_pieceTakes fi_impl_pieceTakes) (enter fi_impl_pieceTakes [.one (Cell.str s1), .one (Cell.str s2)] []) = impl_pieceTakes (k + 1) m s1 s2 := by
  simp only [impl_pieceTakes, ← impl_pieceTakes_l0_eq k m]
  kernel_rfl
theorem impl_pieceTakes_eq (k : Nat) (s1 : ByteArray) (s2 : ByteArray) : evF G_impl_pieceTakes (k + 2) fid_impl_pieceTakes [.one (Cell.str s1), .one (Cell.str s2)] [] = impl_pieceTakes (k + 1) (k + 1) s1 s2 :=
  Eq.trans (by kernel_rfl) (impl_pieceTakes_code k (k + 1) s1 s2)
theorem run_impl_pieceTakes_of {s1 : ByteArray} {s2 : ByteArray} {r : Res} (k : Nat) (h : impl_pieceTakes (k + 1) (k + 1) s1 s2 = some r) : run_impl_pieceTakes [.one (Cell.str s1), .one (Cell.str s2)] [] = some r := lim_of ((impl_pieceTakes_eq k s1 s2).trans h)
noncomputable def pl_impl_globTakes : List (Nat × Run) := [(fid_impl_pieceTakes, run_impl_pieceTakes)]
noncomputable def G_impl_globTakes : Ctx := ctx tyTab fiTab pl_impl_globTakes
noncomputable def run_impl_globTakes : Run := lim G_impl_globTakes fid_impl_globTakes
theorem ok_impl_globTakes : FnOk Tryd.prog OkT fid_impl_globTakes run_impl_globTakes := lim_ok (l := pl_impl_globTakes) Tryd_mix tyTab_ok fiTab_ok okT (.cons ok_impl_pieceTakes .nil) fid_impl_globTakes
noncomputable def impl_globTakes_l0 (k m : Nat) : Nat → Cell → Cell → Int → Int → Option Res
  | 0, _, _, _, _ => none
  | n + 1, c9, c10, i11, i12 =>
    cond (decide (i12 < i11))
    ((slcC 1 (c9) 1 none none).bind fun c13 =>
    (slcC 1 (c10) i12 none none).bind fun c14 =>
    (callS (evF G_impl_globTakes k fid_impl_globTakes) [.one (c13), .one (c14)] []).bind fun r15 =>
    cond (shapeOk rk_impl_globTakes r15)
    ((cB (cellsAt r15 0) 0).bind fun b16 =>
    cond b16
    (some ([.one (Cell.bool true)], []))
    (impl_globTakes_l0 k m n (c9) (c10) i11 (IntKind.i64.wrap (i12 + 1))))
    none)
    (some ([.one (Cell.bool false)], []))
noncomputable def impl_globTakes (k m : Nat) (c1 : Cell) (c2 : Cell) : Option Res :=
  (lenC c1).bind fun n3 =>
  cond ((n3 : Int) == 0)
  ((lenC c2).bind fun n4 =>
  some ([.one (Cell.bool ((n4 : Int) == 0))], []))
  ((idxA 1 (c1) 0).bind fun c5 =>
  (deref [] (c5)).bind fun p6 =>
  (cS p6.1 p6.2).bind fun s7 =>
  cond (s7.toList == (bs [42, 42]).toList)
  ((lenC c2).bind fun n8 =>
  impl_globTakes_l0 k m m (c1) (c2) (IntKind.i64.wrap ((n8 : Int) + 1)) 0)
  ((lenC c2).bind fun n17 =>
  cond (decide ((n17 : Int) > 0))
  ((idxA 1 (c1) 0).bind fun c18 =>
  (deref [] (c18)).bind fun p19 =>
  (cS p19.1 p19.2).bind fun s20 =>
  (idxA 1 (c2) 0).bind fun c21 =>
  (deref [] (c21)).bind fun p22 =>
  (cS p22.1 p22.2).bind fun s23 =>
  (callS run_impl_pieceTakes [.one (Cell.str s20), .one (Cell.str s23)] []).bind fun r24 =>
  cond (shapeOk rk_impl_pieceTakes r24)
  ((cB (cellsAt r24 0) 0).bind fun b25 =>
  cond b25
  ((slcC 1 (c1) 1 none none).bind fun c26 =>
  (slcC 1 (c2) 1 none none).bind fun c27 =>
  (callS (evF G_impl_globTakes k fid_impl_globTakes) [.one (c26), .one (c27)] []).bind fun r28 =>
  cond (shapeOk rk_impl_globTakes r28)
  ((cB (cellsAt r28 0) 0).bind fun b29 =>
  some ([.one (Cell.bool b29)], []))
  none)
  (some ([.one (Cell.bool false)], [])))
  none)
  (some ([.one (Cell.bool false)], []))))
noncomputable abbrev impl_globTakes_l0_B (k m : Nat) : (Ex → Fr → Option Res) → Fr → Option Res := evC G_impl_globTakes fi_impl_globTakes (evF G_impl_globTakes (k + 1)) m (sub [1, 1, 0, 1, 4, 0, 1, 2, 3] fi_impl_globTakes.code) none
noncomputable abbrev impl_globTakes_l0_K (k m : Nat) : Ex → Fr → Option Res := blockK 0 (seqK (evC G_impl_globTakes fi_impl_globTakes (evF G_impl_globTakes (k + 1)) m (sub [1, 1, 0, 1, 4, 1] fi_impl_globTakes.code) none) (seqK (evC G_impl_globTakes fi_impl_globTakes (evF G_impl_globTakes (k + 1)) m (sub [1, 1, 1] fi_impl_globTakes.code) none) (retK G_impl_globTakes fi_impl_globTakes)))
theorem impl_globTakes_l0_eq (k m : Nat) : ∀ (n : Nat) (c9 : Cell) (c10 : Cell) (i11 : Int) (i12 : Int), loopK (some [0, 1, 18, 19]) (impl_globTakes_l0_B k m) (impl_globTakes_l0_K k m) n ⟨fT 48 0 [(0, .av (.one (c9))), (1, .av (.one (c10))), (18, .av (.one (Cell.int i11))), (19, .av (.one (Cell.int i12)))], fX 48 0 [], []⟩ = impl_globTakes_l0 (k + 1) m n c9 c10 i11 i12 := by
  intro n
  induction n with
  | zero => intros; rfl
  | succ n ih =>
    intros
    simp only [impl_globTakes_l0, ← ih]
    kernel_rfl
theorem impl_globTakes_code (k m : Nat) (c1 : Cell) (c2 : Cell) : evC G_impl_globTakes fi_impl_globTakes (evF G_impl_globTakes (k + 1)) m fi_impl_globTakes.code none (retK G_impl_globTakes fi_impl_globTakes) (enter fi_impl_globTakes [.one (c1), .one (c2)] []) = impl_globTakes (k + 1) m c1 c2 := by
  simp only [impl_globTakes, ← impl_globTakes_l0_eq k m]
  kernel_rfl
theorem impl_globTakes_eq (k : Nat) (c1 : Cell) (c2 : Cell) : evF G_impl_globTakes (k + 2) fid_impl_globTakes [.one (c1), .one (c2)] [] = impl_globTakes (k + 1) (k + 1) c1 c2 :=
  Eq.trans (by kernel_rfl) (impl_globTakes_code k (k + 1) c1 c2)
theorem run_impl_globTakes_of {c1 : Cell} {c2 : Cell} {r : Res} (k : Nat) (h : impl_globTakes (k + 1) (k + 1) c1 c2 = some r) : run_impl_globTakes [.one (c1), .one (c2)] [] = some r := lim_of ((impl_globTakes_eq k c1 c2).trans h)
noncomputable def pl_impl_Matches : List (Nat × Run) := [(fid_impl_GlobOk, run_impl_GlobOk), (fid_strings_Split, run_strings_Split), (fid_impl_PathOk, run_impl_PathOk), (fid_impl_globTakes, run_impl_globTakes)]
noncomputable def G_impl_Matches : Ctx := ctx tyTab fiTab pl_impl_Matches
noncomputable def run_impl_Matches : Run := lim G_impl_Matches fid_impl_Matches
theorem ok_impl_Matches : FnOk Tryd.prog OkT fid_impl_Matches run_impl_Matches := lim_ok (l := pl_impl_Matches) Tryd_mix tyTab_ok fiTab_ok okT (.cons ok_impl_GlobOk (.cons ok_strings_Split (.cons ok_impl_PathOk (.cons ok_impl_globTakes .nil)))) fid_impl_Matches
noncomputable def impl_Matches (k m : Nat) (s1 : ByteArray) (s2 : ByteArray) : Option Res :=
  (callS run_impl_GlobOk [.one (Cell.str s1)] []).bind fun r3 =>
  cond (shapeOk rk_impl_GlobOk r3)
  ((cB (cellsAt r3 0) 0).bind fun b4 =>
  cond b4
  ((callS run_impl_PathOk [.one (Cell.str s2)] []).bind fun r5 =>
  cond (shapeOk rk_impl_PathOk r5)
  ((cB (cellsAt r5 0) 0).bind fun b6 =>
  cond b6
  ((callL run_strings_Split [.one (Cell.str s1), .one (Cell.str (bs [47]))] []).bind fun r7 =>
  cond (shapeOk rk_strings_Split r7.1)
  ((cC (cellsAt r7.1 0) 0).bind fun c8 =>
  (callL run_strings_Split [.one (Cell.str s2), .one (Cell.str (bs [47]))] r7.2).bind fun r9 =>
  cond (shapeOk rk_strings_Split r9.1)
  ((cC (cellsAt r9.1 0) 0).bind fun c10 =>
  (callS run_impl_globTakes [.one (c8), .one (c10)] r9.2).bind fun r11 =>
  cond (shapeOk rk_impl_globTakes r11)
  ((cB (cellsAt r11 0) 0).bind fun b12 =>
  some ([.one (Cell.bool b12)], r9.2))
  none)
  none)
  none)
  (some ([.one (Cell.bool false)], [])))
  none)
  (some ([.one (Cell.bool false)], [])))
  none
theorem impl_Matches_code (k m : Nat) (s1 : ByteArray) (s2 : ByteArray) : evC G_impl_Matches fi_impl_Matches (evF G_impl_Matches (k + 1)) m fi_impl_Matches.code none (retK G_impl_Matches fi_impl_Matches) (enter fi_impl_Matches [.one (Cell.str s1), .one (Cell.str s2)] []) = impl_Matches (k + 1) m s1 s2 := by
  kernel_rfl
theorem impl_Matches_eq (k : Nat) (s1 : ByteArray) (s2 : ByteArray) : evF G_impl_Matches (k + 2) fid_impl_Matches [.one (Cell.str s1), .one (Cell.str s2)] [] = impl_Matches (k + 1) (k + 1) s1 s2 :=
  Eq.trans (by kernel_rfl) (impl_Matches_code k (k + 1) s1 s2)
theorem run_impl_Matches_of {s1 : ByteArray} {s2 : ByteArray} {r : Res} (k : Nat) (h : impl_Matches (k + 1) (k + 1) s1 s2 = some r) : run_impl_Matches [.one (Cell.str s1), .one (Cell.str s2)] [] = some r := lim_of ((impl_Matches_eq k s1 s2).trans h)
noncomputable def pl_impl_sieve_one : List (Nat × Run) := [(fid_impl_GlobOk, run_impl_GlobOk), (fid_impl_less, run_impl_less), (fid_impl_graphOf, run_impl_graphOf), (fid_strings_HasPrefix, run_strings_HasPrefix), (fid_impl_sieve_all, run_impl_sieve_all), (fid_impl_with, run_impl_with), (fid_impl_graph_by, run_impl_graph_by), (fid_strings_HasSuffix, run_strings_HasSuffix), (fid_impl_graph_onOf, run_impl_graph_onOf), (fid_impl_sieve_owners, run_impl_sieve_owners), (fid_strings_Contains, run_strings_Contains), (fid_impl_Matches, run_impl_Matches)]
noncomputable def G_impl_sieve_one : Ctx := ctx tyTab fiTab pl_impl_sieve_one
noncomputable def run_impl_sieve_one : Run := lim G_impl_sieve_one fid_impl_sieve_one
theorem ok_impl_sieve_one : FnOk Tryd.prog OkT fid_impl_sieve_one run_impl_sieve_one := lim_ok (l := pl_impl_sieve_one) Tryd_mix tyTab_ok fiTab_ok okT (.cons ok_impl_GlobOk (.cons ok_impl_less (.cons ok_impl_graphOf (.cons ok_strings_HasPrefix (.cons ok_impl_sieve_all (.cons ok_impl_with (.cons ok_impl_graph_by (.cons ok_strings_HasSuffix (.cons ok_impl_graph_onOf (.cons ok_impl_sieve_owners (.cons ok_strings_Contains (.cons ok_impl_Matches .nil)))))))))))) fid_impl_sieve_one
noncomputable def impl_sieve_one_l0 (k m : Nat) : Nat → ByteArray → Cell → Cell → Int → Int → List Entry → Option Res
  | 0, _, _, _, _, _, _ => none
  | n + 1, s44, c45, c46, i47, i48, H49 =>
    cond (decide (i48 < i47))
    ((idxA 1 (c46) i48).bind fun c50 =>
    (deref H49 (c50)).bind fun p51 =>
    (cS p51.1 p51.2).bind fun s52 =>
    (callS run_impl_Matches [.one (Cell.str s44), .one (Cell.str s52)] H49).bind fun r53 =>
    cond (shapeOk rk_impl_Matches r53)
    ((cB (cellsAt r53 0) 0).bind fun b54 =>
    cond b54
    ((app H49 1 16 (c45) [[Cell.str s52]]).bind fun p55 =>
    impl_sieve_one_l0 k m n s44 (p55.1) (c46) i47 (IntKind.i64.wrap (i48 + 1)) p55.2)
    (impl_sieve_one_l0 k m n s44 (c45) (c46) i47 (IntKind.i64.wrap (i48 + 1)) H49))
    none)
    (some ([.one (c45), .one (Cell.bool true)], H49))
noncomputable def impl_sieve_one (k m : Nat) (c1 : Cell) (s2 : ByteArray) (H : List Entry) : Option Res :=
  (ptrC c1).bind fun c3 =>
  (fldA c3 0).bind fun c4 =>
  (deref H (c4)).bind fun p5 =>
  (cC p5.1 p5.2).bind fun c6 =>
  (run_impl_graphOf [.one (c6)] H).bind fun r7 =>
  cond (shapeOk rk_impl_graphOf r7.1)
  ((cC (cellsAt r7.1 0) 0).bind fun c8 =>
  (callS run_strings_HasPrefix [.one (Cell.str s2), .one (Cell.str (bs [33]))] r7.2).bind fun r9 =>
  cond (shapeOk rk_strings_HasPrefix r9)
  ((cB (cellsAt r9 0) 0).bind fun b10 =>
  cond b10
  ((subS s2 1 (s2.size : Int)).bind fun s11 =>
  ((evF G_impl_sieve_one k fid_impl_sieve_one) [.one (c1), .one (Cell.str s11)] r7.2).bind fun r12 =>
  cond (shapeOk rk_impl_sieve_one r12.1)
  ((cC (cellsAt r12.1 0) 0).bind fun c13 =>
  (cB (cellsAt r12.1 1) 0).bind fun b14 =>
  (run_impl_sieve_all [.one (c1)] r12.2).bind fun r15 =>
  cond (shapeOk rk_impl_sieve_all r15.1)
  ((cC (cellsAt r15.1 0) 0).bind fun c16 =>
  (callF run_impl_less [.one (c16), .one (c13)] r15.2).bind fun r17 =>
  cond (shapeOk rk_impl_less r17.1)
  ((cC (cellsAt r17.1 0) 0).bind fun c18 =>
  some ([.one (c18), .one (Cell.bool b14)], r17.2))
  none)
  none)
  none)
  ((callS run_strings_HasPrefix [.one (Cell.str s2), .one (Cell.str (bs [46, 46, 46]))] r7.2).bind fun r19 =>
  cond (shapeOk rk_strings_HasPrefix r19)
  ((cB (cellsAt r19 0) 0).bind fun b20 =>
  cond b20
  ((subS s2 3 (s2.size : Int)).bind fun s21 =>
  ((evF G_impl_sieve_one k fid_impl_sieve_one) [.one (c1), .one (Cell.str s21)] r7.2).bind fun r22 =>
  cond (shapeOk rk_impl_sieve_one r22.1)
  ((cC (cellsAt r22.1 0) 0).bind fun c23 =>
  (cB (cellsAt r22.1 1) 0).bind fun b24 =>
  (run_impl_with [.one (c23), .one (.fn fid_impl_graph_by [c8] [])] r22.2).bind fun r25 =>
  cond (shapeOk rk_impl_with r25.1)
  ((cC (cellsAt r25.1 0) 0).bind fun c26 =>
  some ([.one (c26), .one (Cell.bool b24)], r25.2))
  none)
  none)
  ((callS run_strings_HasSuffix [.one (Cell.str s2), .one (Cell.str (bs [46, 46, 46]))] r7.2).bind fun r27 =>
  cond (shapeOk rk_strings_HasSuffix r27)
  ((cB (cellsAt r27 0) 0).bind fun b28 =>
  cond b28
  ((subS s2 0 (IntKind.i64.wrap ((s2.size : Int) - 3))).bind fun s29 =>
  ((evF G_impl_sieve_one k fid_impl_sieve_one) [.one (c1), .one (Cell.str s29)] r7.2).bind fun r30 =>
  cond (shapeOk rk_impl_sieve_one r30.1)
  ((cC (cellsAt r30.1 0) 0).bind fun c31 =>
  (cB (cellsAt r30.1 1) 0).bind fun b32 =>
  (run_impl_with [.one (c31), .one (.fn fid_impl_graph_onOf [c8] [])] r30.2).bind fun r33 =>
  cond (shapeOk rk_impl_with r33.1)
  ((cC (cellsAt r33.1 0) 0).bind fun c34 =>
  some ([.one (c34), .one (Cell.bool b32)], r33.2))
  none)
  none)
  (cond (s2.toList == (bs [91, 115, 105, 110, 99, 101, 93]).toList)
  ((run_impl_sieve_owners [.one (c1)] r7.2).bind fun r35 =>
  cond (shapeOk rk_impl_sieve_owners r35.1)
  ((cC (cellsAt r35.1 0) 0).bind fun c36 =>
  some ([.one (c36), .one (Cell.bool true)], r35.2))
  none)
  (cond (decide ((s2.size : Int) > 20))
  (some ([.one (.lst true 1 []), .one (Cell.bool false)], r7.2))
  ((callS run_strings_Contains [.one (Cell.str s2), .one (Cell.str (bs [47]))] r7.2).bind fun r37 =>
  cond (shapeOk rk_strings_Contains r37)
  ((cB (cellsAt r37 0) 0).bind fun b38 =>
  cond b38
  (some ([.one (.lst true 1 []), .one (Cell.bool false)], r7.2))
  ((callS run_impl_GlobOk [.one (Cell.str s2)] r7.2).bind fun r39 =>
  cond (shapeOk rk_impl_GlobOk r39)
  ((cB (cellsAt r39 0) 0).bind fun b40 =>
  cond (!b40)
  (some ([.one (.lst true 1 []), .one (Cell.bool false)], r7.2))
  ((run_impl_sieve_all [.one (c1)] r7.2).bind fun r41 =>
  cond (shapeOk rk_impl_sieve_all r41.1)
  ((cC (cellsAt r41.1 0) 0).bind fun c42 =>
  (lenC c42).bind fun n43 =>
  impl_sieve_one_l0 k m m s2 (.lst true 1 []) (c42) (n43 : Int) 0 r41.2)
  none))
  none))
  none))))
  none))
  none))
  none)
  none
noncomputable abbrev impl_sieve_one_l0_B (k m : Nat) : (Ex → Fr → Option Res) → Fr → Option Res := evC G_impl_sieve_one fi_impl_sieve_one (evF G_impl_sieve_one (k + 1)) m (sub [1, 1, 1, 1, 1, 0, 1, 2, 3] fi_impl_sieve_one.code) none
noncomputable abbrev impl_sieve_one_l0_K (k m : Nat) : Ex → Fr → Option Res := blockK 1 (seqK (evC G_impl_sieve_one fi_impl_sieve_one (evF G_impl_sieve_one (k + 1)) m (sub [1, 1, 1, 1, 1, 1] fi_impl_sieve_one.code) none) (retK G_impl_sieve_one fi_impl_sieve_one))
theorem impl_sieve_one_l0_eq (k m : Nat) : ∀ (n : Nat) (s44 : ByteArray) (c45 : Cell) (c46 : Cell) (i47 : Int) (i48 : Int) (H49 : List Entry), loopK (some [1, 13, 87, 88, 89]) (impl_sieve_one_l0_B k m) (impl_sieve_one_l0_K k m) n ⟨fT 102 0 [(1, .av (.one (Cell.str s44))), (13, .av (.one (c45))), (87, .av (.one (c46))), (88, .av (.one (Cell.int i47))), (89, .av (.one (Cell.int i48)))], fX 102 0 [], H49⟩ = impl_sieve_one_l0 (k + 1) m n s44 c45 c46 i47 i48 H49 := by
  intro n
  induction n with
  | zero => intros; rfl
  | succ n ih =>
    intros
    simp only [impl_sieve_one_l0, ← ih]
    kernel_rfl
theorem impl_sieve_one_code (k m : Nat) (c1 : Cell) (s2 : ByteArray) (H : List Entry) : evC G_impl_sieve_one fi_impl_sieve_one (evF G_impl_sieve_one (k + 1)) m fi_impl_sieve_one.code none (retK G_impl_sieve_one fi_impl_sieve_one) (enter fi_impl_sieve_one [.one (c1), .one (Cell.str s2)] H) = impl_sieve_one (k + 1) m c1 s2 H := by
  simp only [impl_sieve_one, ← impl_sieve_one_l0_eq k m]
  kernel_rfl
theorem impl_sieve_one_eq (k : Nat) (c1 : Cell) (s2 : ByteArray) (H : List Entry) : evF G_impl_sieve_one (k + 2) fid_impl_sieve_one [.one (c1), .one (Cell.str s2)] H = impl_sieve_one (k + 1) (k + 1) c1 s2 H :=
  Eq.trans (by kernel_rfl) (impl_sieve_one_code k (k + 1) c1 s2 H)
theorem run_impl_sieve_one_of {c1 : Cell} {s2 : ByteArray} {H : List Entry} {r : Res} (k : Nat) (h : impl_sieve_one (k + 1) (k + 1) c1 s2 H = some r) : run_impl_sieve_one [.one (c1), .one (Cell.str s2)] H = some r := lim_of ((impl_sieve_one_eq k c1 s2 H).trans h)
noncomputable def pl_impl_sieve_filter : List (Nat × Run) := [(fid_strings_Split, run_strings_Split), (fid_strings_CutPrefix, run_strings_CutPrefix), (fid_impl_sieve_one, run_impl_sieve_one), (fid_impl_less, run_impl_less), (fid_impl_Sorted, run_impl_Sorted)]
noncomputable def G_impl_sieve_filter : Ctx := ctx tyTab fiTab pl_impl_sieve_filter
noncomputable def run_impl_sieve_filter : Run := lim G_impl_sieve_filter fid_impl_sieve_filter
theorem ok_impl_sieve_filter : FnOk Tryd.prog OkT fid_impl_sieve_filter run_impl_sieve_filter := lim_ok (l := pl_impl_sieve_filter) Tryd_mix tyTab_ok fiTab_ok okT (.cons ok_strings_Split (.cons ok_strings_CutPrefix (.cons ok_impl_sieve_one (.cons ok_impl_less (.cons ok_impl_Sorted .nil))))) fid_impl_sieve_filter
noncomputable def impl_sieve_filter_l0 (k m : Nat) : Nat → Cell → Cell → Cell → Int → Int → List Entry → Option Res
  | 0, _, _, _, _, _, _ => none
  | n + 1, c7, c8, c9, i10, i11, H12 =>
    cond (decide (i11 < i10))
    ((idxA 1 (c9) i11).bind fun c13 =>
    (deref H12 (c13)).bind fun p14 =>
    (cS p14.1 p14.2).bind fun s15 =>
    (callS run_strings_CutPrefix [.one (Cell.str s15), .one (Cell.str (bs [33]))] H12).bind fun r16 =>
    cond (shapeOk rk_strings_CutPrefix r16)
    ((cS (cellsAt r16 0) 0).bind fun s17 =>
    (cB (cellsAt r16 1) 0).bind fun b18 =>
    cond (i11 == 0)
    ((run_impl_sieve_one [.one (c7), .one (Cell.str s15)] H12).bind fun r19 =>
    cond (shapeOk rk_impl_sieve_one r19.1)
    ((cC (cellsAt r19.1 0) 0).bind fun c20 =>
    (cB (cellsAt r19.1 1) 0).bind fun b21 =>
    cond (!b21)
    (some ([.one (.lst true 1 []), .one (Cell.bool false)], r19.2))
    ((srcRows r19.2 1 c20).bind fun r22 =>
    (app r19.2 1 16 (c8) r22).bind fun p23 =>
    impl_sieve_filter_l0 k m n (c7) (p23.1) (c9) i10 (IntKind.i64.wrap (i11 + 1)) p23.2))
    none)
    (cond (!b18)
    ((run_impl_sieve_one [.one (c7), .one (Cell.str s15)] H12).bind fun r24 =>
    cond (shapeOk rk_impl_sieve_one r24.1)
    ((cC (cellsAt r24.1 0) 0).bind fun c25 =>
    (cB (cellsAt r24.1 1) 0).bind fun b26 =>
    cond (!b26)
    (some ([.one (.lst true 1 []), .one (Cell.bool false)], r24.2))
    ((srcRows r24.2 1 c25).bind fun r27 =>
    (app r24.2 1 16 (c8) r27).bind fun p28 =>
    impl_sieve_filter_l0 k m n (c7) (p28.1) (c9) i10 (IntKind.i64.wrap (i11 + 1)) p28.2))
    none)
    ((run_impl_sieve_one [.one (c7), .one (Cell.str s17)] H12).bind fun r29 =>
    cond (shapeOk rk_impl_sieve_one r29.1)
    ((cC (cellsAt r29.1 0) 0).bind fun c30 =>
    (cB (cellsAt r29.1 1) 0).bind fun b31 =>
    cond (!b31)
    (some ([.one (.lst true 1 []), .one (Cell.bool false)], r29.2))
    (cond b18
    ((callF run_impl_less [.one (c8), .one (c30)] r29.2).bind fun r32 =>
    cond (shapeOk rk_impl_less r32.1)
    ((cC (cellsAt r32.1 0) 0).bind fun c33 =>
    impl_sieve_filter_l0 k m n (c7) (c33) (c9) i10 (IntKind.i64.wrap (i11 + 1)) r32.2)
    none)
    ((srcRows r29.2 1 c30).bind fun r34 =>
    (app r29.2 1 16 (c8) r34).bind fun p35 =>
    impl_sieve_filter_l0 k m n (c7) (p35.1) (c9) i10 (IntKind.i64.wrap (i11 + 1)) p35.2)))
    none)))
    none)
    ((callF run_impl_Sorted [.one (c8)] H12).bind fun r36 =>
    cond (shapeOk rk_impl_Sorted r36.1)
    ((cC (cellsAt r36.1 0) 0).bind fun c37 =>
    some ([.one (c37), .one (Cell.bool true)], r36.2))
    none)
noncomputable def impl_sieve_filter (k m : Nat) (c1 : Cell) (s2 : ByteArray) (H : List Entry) : Option Res :=
  (callL run_strings_Split [.one (Cell.str s2), .one (Cell.str (bs [32]))] H).bind fun r3 =>
  cond (shapeOk rk_strings_Split r3.1)
  ((cC (cellsAt r3.1 0) 0).bind fun c4 =>
  (lenC c4).bind fun n5 =>
  cond (decide ((n5 : Int) > 4))
  (some ([.one (.lst true 1 []), .one (Cell.bool false)], r3.2))
  ((lenC c4).bind fun n6 =>
  impl_sieve_filter_l0 k m m (c1) (.lst true 1 []) (c4) (n6 : Int) 0 r3.2))
  none
noncomputable abbrev impl_sieve_filter_l0_B (k m : Nat) : (Ex → Fr → Option Res) → Fr → Option Res := evC G_impl_sieve_filter fi_impl_sieve_filter (evF G_impl_sieve_filter (k + 1)) m (sub [1, 1, 1, 1, 0, 1, 2, 3] fi_impl_sieve_filter.code) none
noncomputable abbrev impl_sieve_filter_l0_K (k m : Nat) : Ex → Fr → Option Res := blockK 0 (seqK (evC G_impl_sieve_filter fi_impl_sieve_filter (evF G_impl_sieve_filter (k + 1)) m (sub [1, 1, 1, 1, 1] fi_impl_sieve_filter.code) none) (retK G_impl_sieve_filter fi_impl_sieve_filter))
theorem impl_sieve_filter_l0_eq (k m : Nat) : ∀ (n : Nat) (c7 : Cell) (c8 : Cell) (c9 : Cell) (i10 : Int) (i11 : Int) (H12 : List Entry), loopK (some [0, 7, 19, 20, 21]) (impl_sieve_filter_l0_B k m) (impl_sieve_filter_l0_K k m) n ⟨fT 58 0 [(0, .av (.one (c7))), (7, .av (.one (c8))), (19, .av (.one (c9))), (20, .av (.one (Cell.int i10))), (21, .av (.one (Cell.int i11)))], fX 58 0 [], H12⟩ = impl_sieve_filter_l0 (k + 1) m n c7 c8 c9 i10 i11 H12 := by
  intro n
  induction n with
  | zero => intros; rfl
  | succ n ih =>
    intros
    simp only [impl_sieve_filter_l0, ← ih]
    kernel_rfl
theorem impl_sieve_filter_code (k m : Nat) (c1 : Cell) (s2 : ByteArray) (H : List Entry) : evC G_impl_sieve_filter fi_impl_sieve_filter (evF G_impl_sieve_filter (k + 1)) m fi_impl_sieve_filter.code none (retK G_impl_sieve_filter fi_impl_sieve_filter) (enter fi_impl_sieve_filter [.one (c1), .one (Cell.str s2)] H) = impl_sieve_filter (k + 1) m c1 s2 H := by
  simp only [impl_sieve_filter, ← impl_sieve_filter_l0_eq k m]
  kernel_rfl
theorem impl_sieve_filter_eq (k : Nat) (c1 : Cell) (s2 : ByteArray) (H : List Entry) : evF G_impl_sieve_filter (k + 2) fid_impl_sieve_filter [.one (c1), .one (Cell.str s2)] H = impl_sieve_filter (k + 1) (k + 1) c1 s2 H :=
  Eq.trans (by kernel_rfl) (impl_sieve_filter_code k (k + 1) c1 s2 H)
theorem run_impl_sieve_filter_of {c1 : Cell} {s2 : ByteArray} {H : List Entry} {r : Res} (k : Nat) (h : impl_sieve_filter (k + 1) (k + 1) c1 s2 H = some r) : run_impl_sieve_filter [.one (c1), .one (Cell.str s2)] H = some r := lim_of ((impl_sieve_filter_eq k c1 s2 H).trans h)
noncomputable def pl_impl_FilterOk : List (Nat × Run) := [(fid_impl_sieve_filter, run_impl_sieve_filter)]
noncomputable def G_impl_FilterOk : Ctx := ctx tyTab fiTab pl_impl_FilterOk
noncomputable def run_impl_FilterOk : Run := lim G_impl_FilterOk fid_impl_FilterOk
theorem ok_impl_FilterOk : FnOk Tryd.prog OkT fid_impl_FilterOk run_impl_FilterOk := lim_ok (l := pl_impl_FilterOk) Tryd_mix tyTab_ok fiTab_ok okT (.cons ok_impl_sieve_filter .nil) fid_impl_FilterOk
noncomputable def impl_FilterOk (k m : Nat) (s1 : ByteArray) : Option Res :=
  (run_impl_sieve_filter [.one (.ptr 0 2 0 0 0), .one (Cell.str s1)] [Entry.mk 2 [[.lst true 4 [], .lst true 1 []]] 0 false]).bind fun r2 =>
  cond (shapeOk rk_impl_sieve_filter r2.1)
  ((cC (cellsAt r2.1 0) 0).bind fun c3 =>
  (cB (cellsAt r2.1 1) 0).bind fun b4 =>
  some ([.one (Cell.bool b4)], r2.2))
  none
theorem impl_FilterOk_code (k m : Nat) (s1 : ByteArray) : evC G_impl_FilterOk fi_impl_FilterOk (evF G_impl_FilterOk (k + 1)) m fi_impl_FilterOk.code none (retK G_impl_FilterOk fi_impl_FilterOk) (enter fi_impl_FilterOk [.one (Cell.str s1)] []) = impl_FilterOk (k + 1) m s1 := by
  kernel_rfl
theorem impl_FilterOk_eq (k : Nat) (s1 : ByteArray) : evF G_impl_FilterOk (k + 2) fid_impl_FilterOk [.one (Cell.str s1)] [] = impl_FilterOk (k + 1) (k + 1) s1 :=
  Eq.trans (by kernel_rfl) (impl_FilterOk_code k (k + 1) s1)
theorem run_impl_FilterOk_of {s1 : ByteArray} {r : Res} (k : Nat) (h : impl_FilterOk (k + 1) (k + 1) s1 = some r) : run_impl_FilterOk [.one (Cell.str s1)] [] = some r := lim_of ((impl_FilterOk_eq k s1).trans h)
noncomputable def pl_laws_FnExactFilterOk : List (Nat × Run) := [(fid_spec_FilterOk, run_spec_FilterOk), (fid_impl_FilterOk, run_impl_FilterOk)]
noncomputable def G_laws_FnExactFilterOk : Ctx := ctx tyTab fiTab pl_laws_FnExactFilterOk
noncomputable def run_laws_FnExactFilterOk : Run := lim G_laws_FnExactFilterOk fid_laws_FnExactFilterOk
theorem ok_laws_FnExactFilterOk : FnOk Tryd.prog OkT fid_laws_FnExactFilterOk run_laws_FnExactFilterOk := lim_ok (l := pl_laws_FnExactFilterOk) Tryd_mix tyTab_ok fiTab_ok okT (.cons ok_spec_FilterOk (.cons ok_impl_FilterOk .nil)) fid_laws_FnExactFilterOk
noncomputable def laws_FnExactFilterOk (k m : Nat) (s1 : ByteArray) : Option Res :=
  cond (decide ((s1.size : Int) > 1048576))
  (some ([.one (Cell.bool true)], []))
  ((callS run_spec_FilterOk [.one (Cell.str s1)] []).bind fun r2 =>
  cond (shapeOk rk_spec_FilterOk r2)
  ((cB (cellsAt r2 0) 0).bind fun b3 =>
  (callS run_impl_FilterOk [.one (Cell.str s1)] []).bind fun r4 =>
  cond (shapeOk rk_impl_FilterOk r4)
  ((cB (cellsAt r4 0) 0).bind fun b5 =>
  cond (!(b5 == b3))
  (some ([.one (Cell.bool false)], []))
  (some ([.one (Cell.bool true)], [])))
  none)
  none)
theorem laws_FnExactFilterOk_code (k m : Nat) (s1 : ByteArray) : evC G_laws_FnExactFilterOk fi_laws_FnExactFilterOk (evF G_laws_FnExactFilterOk (k + 1)) m fi_laws_FnExactFilterOk.code none (retK G_laws_FnExactFilterOk fi_laws_FnExactFilterOk) (enter fi_laws_FnExactFilterOk [.one (Cell.str s1)] []) = laws_FnExactFilterOk (k + 1) m s1 := by
  kernel_rfl
theorem laws_FnExactFilterOk_eq (k : Nat) (s1 : ByteArray) : evF G_laws_FnExactFilterOk (k + 2) fid_laws_FnExactFilterOk [.one (Cell.str s1)] [] = laws_FnExactFilterOk (k + 1) (k + 1) s1 :=
  Eq.trans (by kernel_rfl) (laws_FnExactFilterOk_code k (k + 1) s1)
theorem run_laws_FnExactFilterOk_of {s1 : ByteArray} {r : Res} (k : Nat) (h : laws_FnExactFilterOk (k + 1) (k + 1) s1 = some r) : run_laws_FnExactFilterOk [.one (Cell.str s1)] [] = some r := lim_of ((laws_FnExactFilterOk_eq k s1).trans h)
end Go.Ev
