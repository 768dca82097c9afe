/- What the evaluator says of the functions, each as a Lean function over cells. Printed by a program of this claim. Conditions: none. -/
import Derived.Test.YtkpiaalieeacgaaEvPr
import Derived.KernelRfl
namespace Go.Ev
open Go Go.Proofs
set_option maxRecDepth 100000
set_option linter.unusedVariables false
set_option linter.unusedSimpArgs false
noncomputable def pl_laws_szStringS : List (Nat × Run) := []
noncomputable def G_laws_szStringS : Ctx := ctx tyTab fiTab pl_laws_szStringS
noncomputable def run_laws_szStringS : Run := lim G_laws_szStringS fid_laws_szStringS
theorem ok_laws_szStringS : FnOk Try.prog OkT fid_laws_szStringS run_laws_szStringS := lim_ok (l := pl_laws_szStringS) Try_mix tyTab_ok fiTab_ok okT .nil fid_laws_szStringS
noncomputable def laws_szStringS_l0 (k m : Nat) : Nat → Cell → Int → Int → Option Res
  | 0, _, _, _ => none
  | n + 1, c4, i5, i6 =>
    (lenC c4).bind fun n7 =>
    cond (decide (i6 < (n7 : Int)))
    ((idxA 1 (c4) i6).bind fun c8 =>
    (deref [] (c8)).bind fun p9 =>
    (cS p9.1 p9.2).bind fun s10 =>
    cond (decide ((IntKind.i64.wrap (i5 - (s10.size : Int))) < 0))
    (some ([.one (Cell.int (-1))], []))
    (laws_szStringS_l0 k m n (c4) (IntKind.i64.wrap (i5 - (s10.size : Int))) (IntKind.i64.wrap (i6 + 1))))
    (some ([.one (Cell.int i5)], []))
noncomputable def laws_szStringS (k m : Nat) (c1 : Cell) (i2 : Int) : Option Res :=
  (lenC c1).bind fun n3 =>
  cond (decide ((IntKind.i64.wrap (i2 - (n3 : Int))) < 0))
  (some ([.one (Cell.int (-1))], []))
  (laws_szStringS_l0 k m m (c1) (IntKind.i64.wrap (i2 - (n3 : Int))) 0)
noncomputable abbrev laws_szStringS_l0_B (k m : Nat) : (Ex → Fr → Option Res) → Fr → Option Res := evC G_laws_szStringS fi_laws_szStringS (evF G_laws_szStringS (k + 1)) m (sub [1, 1, 1, 0, 1, 2, 3] fi_laws_szStringS.code) none
noncomputable abbrev laws_szStringS_l0_K (k m : Nat) : Ex → Fr → Option Res := blockK 0 (seqK (evC G_laws_szStringS fi_laws_szStringS (evF G_laws_szStringS (k + 1)) m (sub [1, 1, 1, 1] fi_laws_szStringS.code) none) (retK G_laws_szStringS fi_laws_szStringS))
theorem laws_szStringS_l0_eq (k m : Nat) : ∀ (n : Nat) (c4 : Cell) (i5 : Int) (i6 : Int), loopK (some [0, 1, 5]) (laws_szStringS_l0_B k m) (laws_szStringS_l0_K k m) n ⟨fT 28 0 [(0, .av (.one (c4))), (1, .av (.one (Cell.int i5))), (5, .av (.one (Cell.int i6)))], fX 28 0 [], []⟩ = laws_szStringS_l0 (k + 1) m n c4 i5 i6 := by
  intro n
  induction n with
  | zero => intros; rfl
  | succ n ih =>
    intros
    simp only [laws_szStringS_l0, ← ih]
    kernel_rfl
theorem laws_szStringS_code (k m : Nat) (c1 : Cell) (i2 : Int) : evC G_laws_szStringS fi_laws_szStringS (evF G_laws_szStringS (k + 1)) m fi_laws_szStringS.code none (retK G_laws_szStringS fi_laws_szStringS) (enter fi_laws_szStringS [.one (c1), .one (Cell.int i2)] []) = laws_szStringS (k + 1) m c1 i2 := by
  simp only [laws_szStringS, ← laws_szStringS_l0_eq k m]
  kernel_rfl
theorem laws_szStringS_eq (k : Nat) (c1 : Cell) (i2 : Int) : evF G_laws_szStringS (k + 2) fid_laws_szStringS [.one (c1), .one (Cell.int i2)] [] = laws_szStringS (k + 1) (k + 1) c1 i2 :=
  Eq.trans (by kernel_rfl) (laws_szStringS_code k (k + 1) c1 i2)
theorem run_laws_szStringS_of {c1 : Cell} {i2 : Int} {r : Res} (k : Nat) (h : laws_szStringS (k + 1) (k + 1) c1 i2 = some r) : run_laws_szStringS [.one (c1), .one (Cell.int i2)] [] = some r := lim_of ((laws_szStringS_eq k c1 i2).trans h)
noncomputable def pl_laws_szVer : List (Nat × Run) := [(fid_laws_szStringS, run_laws_szStringS)]
noncomputable def G_laws_szVer : Ctx := ctx tyTab fiTab pl_laws_szVer
noncomputable def run_laws_szVer : Run := lim G_laws_szVer fid_laws_szVer
theorem ok_laws_szVer : FnOk Try.prog OkT fid_laws_szVer run_laws_szVer := lim_ok (l := pl_laws_szVer) Try_mix tyTab_ok fiTab_ok okT (.cons ok_laws_szStringS .nil) fid_laws_szVer
noncomputable def laws_szVer (k m : Nat) (i1 : Int) (i2 : Int) (i3 : Int) (c4 : Cell) (i5 : Int) : Option Res :=
  (callS run_laws_szStringS [.one (c4), .one (Cell.int i5)] []).bind fun r6 =>
  cond (shapeOk rk_laws_szStringS r6)
  ((cI .i64 (cellsAt r6 0) 0).bind fun i7 =>
  cond (decide (i7 < 0))
  (some ([.one (Cell.int (-1))], []))
  (some ([.one (Cell.int i7)], [])))
  none
theorem laws_szVer_code (k m : Nat) (i1 : Int) (i2 : Int) (i3 : Int) (c4 : Cell) (i5 : Int) : evC G_laws_szVer fi_laws_szVer (evF G_laws_szVer (k + 1)) m fi_laws_szVer.code none (retK G_laws_szVer fi_laws_szVer) (enter fi_laws_szVer [.agg [Cell.int i1, Cell.int i2, Cell.int i3, c4], .one (Cell.int i5)] []) = laws_szVer (k + 1) m i1 i2 i3 c4 i5 := by
  kernel_rfl
theorem laws_szVer_eq (k : Nat) (i1 : Int) (i2 : Int) (i3 : Int) (c4 : Cell) (i5 : Int) : evF G_laws_szVer (k + 2) fid_laws_szVer [.agg [Cell.int i1, Cell.int i2, Cell.int i3, c4], .one (Cell.int i5)] [] = laws_szVer (k + 1) (k + 1) i1 i2 i3 c4 i5 :=
  Eq.trans (by kernel_rfl) (laws_szVer_code k (k + 1) i1 i2 i3 c4 i5)
theorem run_laws_szVer_of {i1 : Int} {i2 : Int} {i3 : Int} {c4 : Cell} {i5 : Int} {r : Res} (k : Nat) (h : laws_szVer (k + 1) (k + 1) i1 i2 i3 c4 i5 = some r) : run_laws_szVer [.agg [Cell.int i1, Cell.int i2, Cell.int i3, c4], .one (Cell.int i5)] [] = some r := lim_of ((laws_szVer_eq k i1 i2 i3 c4 i5).trans h)
noncomputable def pl_laws_szPick : List (Nat × Run) := [(fid_laws_szVer, run_laws_szVer)]
noncomputable def G_laws_szPick : Ctx := ctx tyTab fiTab pl_laws_szPick
noncomputable def run_laws_szPick : Run := lim G_laws_szPick fid_laws_szPick
theorem ok_laws_szPick : FnOk Try.prog OkT fid_laws_szPick run_laws_szPick := lim_ok (l := pl_laws_szPick) Try_mix tyTab_ok fiTab_ok okT (.cons ok_laws_szVer .nil) fid_laws_szPick
noncomputable def laws_szPick (k m : Nat) (s1 : ByteArray) (i2 : Int) (i3 : Int) (i4 : Int) (c5 : Cell) (i6 : Int) : Option Res :=
  cond (decide ((IntKind.i64.wrap (i6 - (s1.size : Int))) < 0))
  (some ([.one (Cell.int (-1))], []))
  ((callS run_laws_szVer [.agg [Cell.int i2, Cell.int i3, Cell.int i4, c5], .one (Cell.int (IntKind.i64.wrap (i6 - (s1.size : Int))))] []).bind fun r7 =>
  cond (shapeOk rk_laws_szVer r7)
  ((cI .i64 (cellsAt r7 0) 0).bind fun i8 =>
  cond (decide (i8 < 0))
  (some ([.one (Cell.int (-1))], []))
  (some ([.one (Cell.int i8)], [])))
  none)
theorem laws_szPick_code (k m : Nat) (s1 : ByteArray) (i2 : Int) (i3 : Int) (i4 : Int) (c5 : Cell) (i6 : Int) : evC G_laws_szPick fi_laws_szPick (evF G_laws_szPick (k + 1)) m fi_laws_szPick.code none (retK G_laws_szPick fi_laws_szPick) (enter fi_laws_szPick [.agg [Cell.str s1, Cell.int i2, Cell.int i3, Cell.int i4, c5], .one (Cell.int i6)] []) = laws_szPick (k + 1) m s1 i2 i3 i4 c5 i6 := by
  kernel_rfl
theorem laws_szPick_eq (k : Nat) (s1 : ByteArray) (i2 : Int) (i3 : Int) (i4 : Int) (c5 : Cell) (i6 : Int) : evF G_laws_szPick (k + 2) fid_laws_szPick [.agg [Cell.str s1, Cell.int i2, Cell.int i3, Cell.int i4, c5], .one (Cell.int i6)] [] = laws_szPick (k + 1) (k + 1) s1 i2 i3 i4 c5 i6 :=
  Eq.trans (by kernel_rfl) (laws_szPick_code k (k + 1) s1 i2 i3 i4 c5 i6)
theorem run_laws_szPick_of {s1 : ByteArray} {i2 : Int} {i3 : Int} {i4 : Int} {c5 : Cell} {i6 : Int} {r : Res} (k : Nat) (h : laws_szPick (k + 1) (k + 1) s1 i2 i3 i4 c5 i6 = some r) : run_laws_szPick [.agg [Cell.str s1, Cell.int i2, Cell.int i3, Cell.int i4, c5], .one (Cell.int i6)] [] = some r := lim_of ((laws_szPick_eq k s1 i2 i3 i4 c5 i6).trans h)
noncomputable def pl_laws_szPickS : List (Nat × Run) := [(fid_laws_szPick, run_laws_szPick)]
noncomputable def G_laws_szPickS : Ctx := ctx tyTab fiTab pl_laws_szPickS
noncomputable def run_laws_szPickS : Run := lim G_laws_szPickS fid_laws_szPickS
theorem ok_laws_szPickS : FnOk Try.prog OkT fid_laws_szPickS run_laws_szPickS := lim_ok (l := pl_laws_szPickS) Try_mix tyTab_ok fiTab_ok okT (.cons ok_laws_szPick .nil) fid_laws_szPickS
noncomputable def laws_szPickS_l0 (k m : Nat) : Nat → Cell → Int → Int → Option Res
  | 0, _, _, _ => none
  | n + 1, c4, i5, i6 =>
    (lenC c4).bind fun n7 =>
    cond (decide (i6 < (n7 : Int)))
    ((idxA 5 (c4) i6).bind fun c8 =>
    (deref [] (c8)).bind fun p9 =>
    (cS p9.1 p9.2).bind fun s10 =>
    (cI .i64 p9.1 (p9.2 + 1)).bind fun i11 =>
    (cI .i64 p9.1 ((p9.2 + 1) + 1)).bind fun i12 =>
    (cI .i64 p9.1 (((p9.2 + 1) + 1) + 1)).bind fun i13 =>
    (cC p9.1 ((((p9.2 + 1) + 1) + 1) + 1)).bind fun c14 =>
    (callS run_laws_szPick [.agg [Cell.str s10, Cell.int i11, Cell.int i12, Cell.int i13, c14], .one (Cell.int i5)] []).bind fun r15 =>
    cond (shapeOk rk_laws_szPick r15)
    ((cI .i64 (cellsAt r15 0) 0).bind fun i16 =>
    cond (decide (i16 < 0))
    (some ([.one (Cell.int (-1))], []))
    (laws_szPickS_l0 k m n (c4) i16 (IntKind.i64.wrap (i6 + 1))))
    none)
    (some ([.one (Cell.int i5)], []))
noncomputable def laws_szPickS (k m : Nat) (c1 : Cell) (i2 : Int) : Option Res :=
  (lenC c1).bind fun n3 =>
  cond (decide ((IntKind.i64.wrap (i2 - (n3 : Int))) < 0))
  (some ([.one (Cell.int (-1))], []))
  (laws_szPickS_l0 k m m (c1) (IntKind.i64.wrap (i2 - (n3 : Int))) 0)
noncomputable abbrev laws_szPickS_l0_B (k m : Nat) : (Ex → Fr → Option Res) → Fr → Option Res := evC G_laws_szPickS fi_laws_szPickS (evF G_laws_szPickS (k + 1)) m (sub [1, 1, 1, 0, 1, 2, 3] fi_laws_szPickS.code) none
noncomputable abbrev laws_szPickS_l0_K (k m : Nat) : Ex → Fr → Option Res := blockK 0 (seqK (evC G_laws_szPickS fi_laws_szPickS (evF G_laws_szPickS (k + 1)) m (sub [1, 1, 1, 1] fi_laws_szPickS.code) none) (retK G_laws_szPickS fi_laws_szPickS))
theorem laws_szPickS_l0_eq (k m : Nat) : ∀ (n : Nat) (c4 : Cell) (i5 : Int) (i6 : Int), loopK (some [0, 1, 5]) (laws_szPickS_l0_B k m) (laws_szPickS_l0_K k m) n ⟨fT 27 0 [(0, .av (.one (c4))), (1, .av (.one (Cell.int i5))), (5, .av (.one (Cell.int i6)))], fX 27 0 [], []⟩ = laws_szPickS_l0 (k + 1) m n c4 i5 i6 := by
  intro n
  induction n with
  | zero => intros; rfl
  | succ n ih =>
    intros
    simp only [laws_szPickS_l0, ← ih]
    kernel_rfl
theorem laws_szPickS_code (k m : Nat) (c1 : Cell) (i2 : Int) : evC G_laws_szPickS fi_laws_szPickS (evF G_laws_szPickS (k + 1)) m fi_laws_szPickS.code none (retK G_laws_szPickS fi_laws_szPickS) (enter fi_laws_szPickS [.one (c1), .one (Cell.int i2)] []) = laws_szPickS (k + 1) m c1 i2 := by
  simp only [laws_szPickS, ← laws_szPickS_l0_eq k m]
  kernel_rfl
theorem laws_szPickS_eq (k : Nat) (c1 : Cell) (i2 : Int) : evF G_laws_szPickS (k + 2) fid_laws_szPickS [.one (c1), .one (Cell.int i2)] [] = laws_szPickS (k + 1) (k + 1) c1 i2 :=
  Eq.trans (by kernel_rfl) (laws_szPickS_code k (k + 1) c1 i2)
theorem run_laws_szPickS_of {c1 : Cell} {i2 : Int} {r : Res} (k : Nat) (h : laws_szPickS (k + 1) (k + 1) c1 i2 = some r) : run_laws_szPickS [.one (c1), .one (Cell.int i2)] [] = some r := lim_of ((laws_szPickS_eq k c1 i2).trans h)
noncomputable def pl_spec_l3Copy : List (Nat × Run) := []
noncomputable def G_spec_l3Copy : Ctx := ctx tyTab fiTab pl_spec_l3Copy
noncomputable def run_spec_l3Copy : Run := lim G_spec_l3Copy fid_spec_l3Copy
theorem ok_spec_l3Copy : FnOk Try.prog OkT fid_spec_l3Copy run_spec_l3Copy := lim_ok (l := pl_spec_l3Copy) Try_mix tyTab_ok fiTab_ok okT .nil fid_spec_l3Copy
noncomputable def spec_l3Copy (k m : Nat) (i1 : Int) (i2 : Int) (i3 : Int) (c4 : Cell) : Option Res :=
  (srcRows [] 1 c4).bind fun r5 =>
  (app [] 1 16 (.lst true 1 []) r5).bind fun p6 =>
  some ([.agg [Cell.int i1, Cell.int i2, Cell.int i3, p6.1]], p6.2)
theorem spec_l3Copy_code (k m : Nat) (i1 : Int) (i2 : Int) (i3 : Int) (c4 : Cell) : evC G_spec_l3Copy fi_spec_l3Copy (evF G_spec_l3Copy (k + 1)) m fi_spec_l3Copy.code none (retK G_spec_l3Copy fi_spec_l3Copy) (enter fi_spec_l3Copy [.agg [Cell.int i1, Cell.int i2, Cell.int i3, c4]] []) = spec_l3Copy (k + 1) m i1 i2 i3 c4 := by
  kernel_rfl
theorem spec_l3Copy_eq (k : Nat) (i1 : Int) (i2 : Int) (i3 : Int) (c4 : Cell) : evF G_spec_l3Copy (k + 2) fid_spec_l3Copy [.agg [Cell.int i1, Cell.int i2, Cell.int i3, c4]] [] = spec_l3Copy (k + 1) (k + 1) i1 i2 i3 c4 :=
  Eq.trans (by kernel_rfl) (spec_l3Copy_code k (k + 1) i1 i2 i3 c4)
theorem run_spec_l3Copy_of {i1 : Int} {i2 : Int} {i3 : Int} {c4 : Cell} {r : Res} (k : Nat) (h : spec_l3Copy (k + 1) (k + 1) i1 i2 i3 c4 = some r) : run_spec_l3Copy [.agg [Cell.int i1, Cell.int i2, Cell.int i3, c4]] [] = some r := lim_of ((spec_l3Copy_eq k i1 i2 i3 c4).trans h)
noncomputable def pl_spec_PickOf : List (Nat × Run) := [(fid_spec_l3Copy, run_spec_l3Copy)]
noncomputable def G_spec_PickOf : Ctx := ctx tyTab fiTab pl_spec_PickOf
noncomputable def run_spec_PickOf : Run := lim G_spec_PickOf fid_spec_PickOf
theorem ok_spec_PickOf : FnOk Try.prog OkT fid_spec_PickOf run_spec_PickOf := lim_ok (l := pl_spec_PickOf) Try_mix tyTab_ok fiTab_ok okT (.cons ok_spec_l3Copy .nil) fid_spec_PickOf
noncomputable def spec_PickOf_l0 (k m : Nat) : Nat → Cell → ByteArray → Int → Option Res
  | 0, _, _, _ => none
  | n + 1, c3, s4, i5 =>
    (lenC c3).bind fun n6 =>
    cond (decide (i5 < (n6 : Int)))
    ((idxA 5 (c3) i5).bind fun c7 =>
    (fldA c7 0).bind fun c8 =>
    (deref [] (c8)).bind fun p9 =>
    (cS p9.1 p9.2).bind fun s10 =>
    cond (s10.toList == s4.toList)
    ((idxA 5 (c3) i5).bind fun c11 =>
    (fldA c11 1).bind fun c12 =>
    (deref [] (c12)).bind fun p13 =>
    (cI .i64 p13.1 p13.2).bind fun i14 =>
    (cI .i64 p13.1 (p13.2 + 1)).bind fun i15 =>
    (cI .i64 p13.1 ((p13.2 + 1) + 1)).bind fun i16 =>
    (cC p13.1 (((p13.2 + 1) + 1) + 1)).bind fun c17 =>
    (callL run_spec_l3Copy [.agg [Cell.int i14, Cell.int i15, Cell.int i16, c17]] []).bind fun r18 =>
    cond (shapeOk rk_spec_l3Copy r18.1)
    ((cI .i64 (cellsAt r18.1 0) 0).bind fun i19 =>
    (cI .i64 (cellsAt r18.1 0) 1).bind fun i20 =>
    (cI .i64 (cellsAt r18.1 0) 2).bind fun i21 =>
    (cC (cellsAt r18.1 0) 3).bind fun c22 =>
    some ([.agg [Cell.int i19, Cell.int i20, Cell.int i21, c22], .one (Cell.bool true)], r18.2))
    none)
    (spec_PickOf_l0 k m n (c3) s4 (IntKind.i64.wrap (i5 + 1))))
    (some ([.agg [Cell.int 0, Cell.int 0, Cell.int 0, .lst true 1 []], .one (Cell.bool false)], []))
noncomputable def spec_PickOf (k m : Nat) (c1 : Cell) (s2 : ByteArray) : Option Res :=
  spec_PickOf_l0 k m m (c1) s2 0
noncomputable abbrev spec_PickOf_l0_B (k m : Nat) : (Ex → Fr → Option Res) → Fr → Option Res := evC G_spec_PickOf fi_spec_PickOf (evF G_spec_PickOf (k + 1)) m (sub [1, 0, 1, 2, 3] fi_spec_PickOf.code) none
noncomputable abbrev spec_PickOf_l0_K (k m : Nat) : Ex → Fr → Option Res := blockK 0 (seqK (evC G_spec_PickOf fi_spec_PickOf (evF G_spec_PickOf (k + 1)) m (sub [1, 1] fi_spec_PickOf.code) none) (retK G_spec_PickOf fi_spec_PickOf))
theorem spec_PickOf_l0_eq (k m : Nat) : ∀ (n : Nat) (c3 : Cell) (s4 : ByteArray) (i5 : Int), loopK (some [0, 1, 4, 6]) (spec_PickOf_l0_B k m) (spec_PickOf_l0_K k m) n ⟨fT 27 0 [(0, .av (.one (c3))), (1, .av (.one (Cell.str s4))), (4, .loc 4 0), (6, .av (.one (Cell.int i5)))], fX 27 0 [(4, [Cell.int 0, Cell.int 0, Cell.int 0, .lst true 1 []])], []⟩ = spec_PickOf_l0 (k + 1) m n c3 s4 i5 := by
  intro n
  induction n with
  | zero => intros; rfl
  | succ n ih =>
    intros
    simp only [spec_PickOf_l0, ← ih]
    kernel_rfl
theorem spec_PickOf_code (k m : Nat) (c1 : Cell) (s2 : ByteArray) : evC G_spec_PickOf fi_spec_PickOf (evF G_spec_PickOf (k + 1)) m fi_spec_PickOf.code none (retK G_spec_PickOf fi_spec_PickOf) (enter fi_spec_PickOf [.one (c1), .one (Cell.str s2)] []) = spec_PickOf (k + 1) m c1 s2 := by
  simp only [spec_PickOf, ← spec_PickOf_l0_eq k m]
  kernel_rfl
theorem spec_PickOf_eq (k : Nat) (c1 : Cell) (s2 : ByteArray) : evF G_spec_PickOf (k + 2) fid_spec_PickOf [.one (c1), .one (Cell.str s2)] [] = spec_PickOf (k + 1) (k + 1) c1 s2 :=
  Eq.trans (by kernel_rfl) (spec_PickOf_code k (k + 1) c1 s2)
theorem run_spec_PickOf_of {c1 : Cell} {s2 : ByteArray} {r : Res} (k : Nat) (h : spec_PickOf (k + 1) (k + 1) c1 s2 = some r) : run_spec_PickOf [.one (c1), .one (Cell.str s2)] [] = some r := lim_of ((spec_PickOf_eq k c1 s2).trans h)
noncomputable def pl_laws_toStringS : List (Nat × Run) := []
noncomputable def G_laws_toStringS : Ctx := ctx tyTab fiTab pl_laws_toStringS
noncomputable def run_laws_toStringS : Run := lim G_laws_toStringS fid_laws_toStringS
theorem ok_laws_toStringS : FnOk Try.prog OkT fid_laws_toStringS run_laws_toStringS := lim_ok (l := pl_laws_toStringS) Try_mix tyTab_ok fiTab_ok okT .nil fid_laws_toStringS
noncomputable def laws_toStringS_l0 (k m : Nat) : Nat → Cell → Cell → Int → List Entry → Option Res
  | 0, _, _, _, _ => none
  | n + 1, c3, c4, i5, H6 =>
    (lenC c3).bind fun n7 =>
    cond (decide (i5 < (n7 : Int)))
    ((idxA 1 (c3) i5).bind fun c8 =>
    (deref H6 (c8)).bind fun p9 =>
    (cS p9.1 p9.2).bind fun s10 =>
    (idxA 1 (c4) i5).bind fun c11 =>
    (hStore H6 (c11) [Cell.str s10]).bind fun h12 =>
    laws_toStringS_l0 k m n (c3) (c4) (IntKind.i64.wrap (i5 + 1)) h12)
    (some ([.one (c4)], H6))
noncomputable def laws_toStringS (k m : Nat) (c1 : Cell) : Option Res :=
  (lenC c1).bind fun n2 =>
  if 0 ≤ (n2 : Int) ∧ (n2 : Int) ≤ (n2 : Int) ∧ (n2 : Int) * 16 ≤ bound ∧ (n2 : Int) ≤ bound then
  (laws_toStringS_l0 k m m (c1) ((.vs 0 1 0 (n2 : Int).toNat 0)) 0 [Entry.mk 1 (mkRows (n2 : Int).toNat [Cell.str (bs [])]) 0 false]) else none
noncomputable abbrev laws_toStringS_l0_B (k m : Nat) : (Ex → Fr → Option Res) → Fr → Option Res := evC G_laws_toStringS fi_laws_toStringS (evF G_laws_toStringS (k + 1)) m (sub [1, 1, 0, 1, 2, 3] fi_laws_toStringS.code) none
noncomputable abbrev laws_toStringS_l0_K (k m : Nat) : Ex → Fr → Option Res := blockK 0 (seqK (evC G_laws_toStringS fi_laws_toStringS (evF G_laws_toStringS (k + 1)) m (sub [1, 1, 1] fi_laws_toStringS.code) none) (retK G_laws_toStringS fi_laws_toStringS))
theorem laws_toStringS_l0_eq (k m : Nat) : ∀ (n : Nat) (c3 : Cell) (c4 : Cell) (i5 : Int) (H6 : List Entry), loopK (some [0, 3, 4]) (laws_toStringS_l0_B k m) (laws_toStringS_l0_K k m) n ⟨fT 22 0 [(0, .av (.one (c3))), (3, .av (.one (c4))), (4, .av (.one (Cell.int i5)))], fX 22 0 [], H6⟩ = laws_toStringS_l0 (k + 1) m n c3 c4 i5 H6 := by
  intro n
  induction n with
  | zero => intros; rfl
  | succ n ih =>
    intros
    simp only [laws_toStringS_l0, ← ih]
    kernel_rfl
theorem laws_toStringS_code (k m : Nat) (c1 : Cell) : evC G_laws_toStringS fi_laws_toStringS (evF G_laws_toStringS (k + 1)) m fi_laws_toStringS.code none (retK G_laws_toStringS fi_laws_toStringS) (enter fi_laws_toStringS [.one (c1)] []) = laws_toStringS (k + 1) m c1 := by
  simp only [laws_toStringS, ← laws_toStringS_l0_eq k m]
  kernel_rfl
theorem laws_toStringS_eq (k : Nat) (c1 : Cell) : evF G_laws_toStringS (k + 2) fid_laws_toStringS [.one (c1)] [] = laws_toStringS (k + 1) (k + 1) c1 :=
  Eq.trans (by kernel_rfl) (laws_toStringS_code k (k + 1) c1)
theorem run_laws_toStringS_of {c1 : Cell} {r : Res} (k : Nat) (h : laws_toStringS (k + 1) (k + 1) c1 = some r) : run_laws_toStringS [.one (c1)] [] = some r := lim_of ((laws_toStringS_eq k c1).trans h)
noncomputable def pl_laws_toVer : List (Nat × Run) := [(fid_laws_toStringS, run_laws_toStringS)]
noncomputable def G_laws_toVer : Ctx := ctx tyTab fiTab pl_laws_toVer
noncomputable def run_laws_toVer : Run := lim G_laws_toVer fid_laws_toVer
theorem ok_laws_toVer : FnOk Try.prog OkT fid_laws_toVer run_laws_toVer := lim_ok (l := pl_laws_toVer) Try_mix tyTab_ok fiTab_ok okT (.cons ok_laws_toStringS .nil) fid_laws_toVer
noncomputable def laws_toVer (k m : Nat) (i1 : Int) (i2 : Int) (i3 : Int) (c4 : Cell) : Option Res :=
  (callF run_laws_toStringS [.one (c4)] []).bind fun r5 =>
  cond (shapeOk rk_laws_toStringS r5.1)
  ((cC (cellsAt r5.1 0) 0).bind fun c6 =>
  some ([.agg [Cell.int i1, Cell.int i2, Cell.int i3, c6]], r5.2))
  none
theorem laws_toVer_code (k m : Nat) (i1 : Int) (i2 : Int) (i3 : Int) (c4 : Cell) : evC G_laws_toVer fi_laws_toVer (evF G_laws_toVer (k + 1)) m fi_laws_toVer.code none (retK G_laws_toVer fi_laws_toVer) (enter fi_laws_toVer [.agg [Cell.int i1, Cell.int i2, Cell.int i3, c4]] []) = laws_toVer (k + 1) m i1 i2 i3 c4 := by
  kernel_rfl
theorem laws_toVer_eq (k : Nat) (i1 : Int) (i2 : Int) (i3 : Int) (c4 : Cell) : evF G_laws_toVer (k + 2) fid_laws_toVer [.agg [Cell.int i1, Cell.int i2, Cell.int i3, c4]] [] = laws_toVer (k + 1) (k + 1) i1 i2 i3 c4 :=
  Eq.trans (by kernel_rfl) (laws_toVer_code k (k + 1) i1 i2 i3 c4)
theorem run_laws_toVer_of {i1 : Int} {i2 : Int} {i3 : Int} {c4 : Cell} {r : Res} (k : Nat) (h : laws_toVer (k + 1) (k + 1) i1 i2 i3 c4 = some r) : run_laws_toVer [.agg [Cell.int i1, Cell.int i2, Cell.int i3, c4]] [] = some r := lim_of ((laws_toVer_eq k i1 i2 i3 c4).trans h)
noncomputable def pl_laws_toPick : List (Nat × Run) := [(fid_laws_toVer, run_laws_toVer)]
noncomputable def G_laws_toPick : Ctx := ctx tyTab fiTab pl_laws_toPick
noncomputable def run_laws_toPick : Run := lim G_laws_toPick fid_laws_toPick
theorem ok_laws_toPick : FnOk Try.prog OkT fid_laws_toPick run_laws_toPick := lim_ok (l := pl_laws_toPick) Try_mix tyTab_ok fiTab_ok okT (.cons ok_laws_toVer .nil) fid_laws_toPick
noncomputable def laws_toPick (k m : Nat) (s1 : ByteArray) (i2 : Int) (i3 : Int) (i4 : Int) (c5 : Cell) : Option Res :=
  (callF run_laws_toVer [.agg [Cell.int i2, Cell.int i3, Cell.int i4, c5]] []).bind fun r6 =>
  cond (shapeOk rk_laws_toVer r6.1)
  ((cI .i64 (cellsAt r6.1 0) 0).bind fun i7 =>
  (cI .i64 (cellsAt r6.1 0) 1).bind fun i8 =>
  (cI .i64 (cellsAt r6.1 0) 2).bind fun i9 =>
  (cC (cellsAt r6.1 0) 3).bind fun c10 =>
  some ([.agg [Cell.str s1, Cell.int i7, Cell.int i8, Cell.int i9, c10]], r6.2))
  none
theorem laws_toPick_code (k m : Nat) (s1 : ByteArray) (i2 : Int) (i3 : Int) (i4 : Int) (c5 : Cell) : evC G_laws_toPick fi_laws_toPick (evF G_laws_toPick (k + 1)) m fi_laws_toPick.code none (retK G_laws_toPick fi_laws_toPick) (enter fi_laws_toPick [.agg [Cell.str s1, Cell.int i2, Cell.int i3, Cell.int i4, c5]] []) = laws_toPick (k + 1) m s1 i2 i3 i4 c5 := by
  kernel_rfl
theorem laws_toPick_eq (k : Nat) (s1 : ByteArray) (i2 : Int) (i3 : Int) (i4 : Int) (c5 : Cell) : evF G_laws_toPick (k + 2) fid_laws_toPick [.agg [Cell.str s1, Cell.int i2, Cell.int i3, Cell.int i4, c5]] [] = laws_toPick (k + 1) (k + 1) s1 i2 i3 i4 c5 :=
  Eq.trans (by kernel_rfl) (laws_toPick_code k (k + 1) s1 i2 i3 i4 c5)
theorem run_laws_toPick_of {s1 : ByteArray} {i2 : Int} {i3 : Int} {i4 : Int} {c5 : Cell} {r : Res} (k : Nat) (h : laws_toPick (k + 1) (k + 1) s1 i2 i3 i4 c5 = some r) : run_laws_toPick [.agg [Cell.str s1, Cell.int i2, Cell.int i3, Cell.int i4, c5]] [] = some r := lim_of ((laws_toPick_eq k s1 i2 i3 i4 c5).trans h)
noncomputable def pl_laws_toPickS : List (Nat × Run) := [(fid_laws_toPick, run_laws_toPick)]
noncomputable def G_laws_toPickS : Ctx := ctx tyTab fiTab pl_laws_toPickS
noncomputable def run_laws_toPickS : Run := lim G_laws_toPickS fid_laws_toPickS
theorem ok_laws_toPickS : FnOk Try.prog OkT fid_laws_toPickS run_laws_toPickS := lim_ok (l := pl_laws_toPickS) Try_mix tyTab_ok fiTab_ok okT (.cons ok_laws_toPick .nil) fid_laws_toPickS
noncomputable def laws_toPickS_l0 (k m : Nat) : Nat → Cell → Cell → Int → List Entry → Option Res
  | 0, _, _, _, _ => none
  | n + 1, c3, c4, i5, H6 =>
    (lenC c3).bind fun n7 =>
    cond (decide (i5 < (n7 : Int)))
    ((idxA 5 (c3) i5).bind fun c8 =>
    (deref H6 (c8)).bind fun p9 =>
    (cS p9.1 p9.2).bind fun s10 =>
    (cI .i64 p9.1 (p9.2 + 1)).bind fun i11 =>
    (cI .i64 p9.1 ((p9.2 + 1) + 1)).bind fun i12 =>
    (cI .i64 p9.1 (((p9.2 + 1) + 1) + 1)).bind fun i13 =>
    (cC p9.1 ((((p9.2 + 1) + 1) + 1) + 1)).bind fun c14 =>
    (callF run_laws_toPick [.agg [Cell.str s10, Cell.int i11, Cell.int i12, Cell.int i13, c14]] H6).bind fun r15 =>
    cond (shapeOk rk_laws_toPick r15.1)
    ((cS (cellsAt r15.1 0) 0).bind fun s16 =>
    (cI .i64 (cellsAt r15.1 0) 1).bind fun i17 =>
    (cI .i64 (cellsAt r15.1 0) 2).bind fun i18 =>
    (cI .i64 (cellsAt r15.1 0) 3).bind fun i19 =>
    (cC (cellsAt r15.1 0) 4).bind fun c20 =>
    (idxA 5 (c4) i5).bind fun c21 =>
    (hStore r15.2 (c21) [Cell.str s16, Cell.int i17, Cell.int i18, Cell.int i19, c20]).bind fun h22 =>
    laws_toPickS_l0 k m n (c3) (c4) (IntKind.i64.wrap (i5 + 1)) h22)
    none)
    (some ([.one (c4)], H6))
noncomputable def laws_toPickS (k m : Nat) (c1 : Cell) : Option Res :=
  (lenC c1).bind fun n2 =>
  if 0 ≤ (n2 : Int) ∧ (n2 : Int) ≤ (n2 : Int) ∧ (n2 : Int) * 64 ≤ bound ∧ (n2 : Int) ≤ bound then
  (laws_toPickS_l0 k m m (c1) ((.vs 0 5 0 (n2 : Int).toNat 0)) 0 [Entry.mk 5 (mkRows (n2 : Int).toNat [Cell.str (bs []), Cell.int 0, Cell.int 0, Cell.int 0, .lst true 1 []]) 0 false]) else none
noncomputable abbrev laws_toPickS_l0_B (k m : Nat) : (Ex → Fr → Option Res) → Fr → Option Res := evC G_laws_toPickS fi_laws_toPickS (evF G_laws_toPickS (k + 1)) m (sub [1, 1, 0, 1, 2, 3] fi_laws_toPickS.code) none
noncomputable abbrev laws_toPickS_l0_K (k m : Nat) : Ex → Fr → Option Res := blockK 0 (seqK (evC G_laws_toPickS fi_laws_toPickS (evF G_laws_toPickS (k + 1)) m (sub [1, 1, 1] fi_laws_toPickS.code) none) (retK G_laws_toPickS fi_laws_toPickS))
theorem laws_toPickS_l0_eq (k m : Nat) : ∀ (n : Nat) (c3 : Cell) (c4 : Cell) (i5 : Int) (H6 : List Entry), loopK (some [0, 3, 4]) (laws_toPickS_l0_B k m) (laws_toPickS_l0_K k m) n ⟨fT 23 0 [(0, .av (.one (c3))), (3, .av (.one (c4))), (4, .av (.one (Cell.int i5)))], fX 23 0 [], H6⟩ = laws_toPickS_l0 (k + 1) m n c3 c4 i5 H6 := by
  intro n
  induction n with
  | zero => intros; rfl
  | succ n ih =>
    intros
    simp only [laws_toPickS_l0, ← ih]
    kernel_rfl
theorem laws_toPickS_code (k m : Nat) (c1 : Cell) : evC G_laws_toPickS fi_laws_toPickS (evF G_laws_toPickS (k + 1)) m fi_laws_toPickS.code none (retK G_laws_toPickS fi_laws_toPickS) (enter fi_laws_toPickS [.one (c1)] []) = laws_toPickS (k + 1) m c1 := by
  simp only [laws_toPickS, ← laws_toPickS_l0_eq k m]
  kernel_rfl
theorem laws_toPickS_eq (k : Nat) (c1 : Cell) : evF G_laws_toPickS (k + 2) fid_laws_toPickS [.one (c1)] [] = laws_toPickS (k + 1) (k + 1) c1 :=
  Eq.trans (by kernel_rfl) (laws_toPickS_code k (k + 1) c1)
theorem run_laws_toPickS_of {c1 : Cell} {r : Res} (k : Nat) (h : laws_toPickS (k + 1) (k + 1) c1 = some r) : run_laws_toPickS [.one (c1)] [] = some r := lim_of ((laws_toPickS_eq k c1).trans h)
noncomputable def pl_impl_pickAt_1 : List (Nat × Run) := []
noncomputable def G_impl_pickAt_1 : Ctx := ctx tyTab fiTab pl_impl_pickAt_1
noncomputable def run_impl_pickAt_1 : Run := lim G_impl_pickAt_1 fid_impl_pickAt_1
theorem ok_impl_pickAt_1 : FnOk Try.prog OkT fid_impl_pickAt_1 run_impl_pickAt_1 := lim_ok (l := pl_impl_pickAt_1) Try_mix tyTab_ok fiTab_ok okT .nil fid_impl_pickAt_1
noncomputable def impl_pickAt_1 (k m : Nat) (s1 : ByteArray) (i2 : Int) (i3 : Int) (i4 : Int) (c5 : Cell) (c6 : Cell) (H : List Entry) : Option Res :=
  (deref H (c6)).bind fun p7 =>
  (cS p7.1 p7.2).bind fun s8 =>
  some ([.one (Cell.bool (s1.toList == s8.toList))], H)
theorem impl_pickAt_1_code (k m : Nat) (s1 : ByteArray) (i2 : Int) (i3 : Int) (i4 : Int) (c5 : Cell) (c6 : Cell) (H : List Entry) : evC G_impl_pickAt_1 fi_impl_pickAt_1 (evF G_impl_pickAt_1 (k + 1)) m fi_impl_pickAt_1.code none (retK G_impl_pickAt_1 fi_impl_pickAt_1) (enter fi_impl_pickAt_1 [.agg [Cell.str s1, Cell.int i2, Cell.int i3, Cell.int i4, c5], .one (c6)] H) = impl_pickAt_1 (k + 1) m s1 i2 i3 i4 c5 c6 H := by
  kernel_rfl
theorem impl_pickAt_1_eq (k : Nat) (s1 : ByteArray) (i2 : Int) (i3 : Int) (i4 : Int) (c5 : Cell) (c6 : Cell) (H : List Entry) : evF G_impl_pickAt_1 (k + 2) fid_impl_pickAt_1 [.agg [Cell.str s1, Cell.int i2, Cell.int i3, Cell.int i4, c5], .one (c6)] H = impl_pickAt_1 (k + 1) (k + 1) s1 i2 i3 i4 c5 c6 H :=
  Eq.trans (by kernel_rfl) (impl_pickAt_1_code k (k + 1) s1 i2 i3 i4 c5 c6 H)
theorem run_impl_pickAt_1_of {s1 : ByteArray} {i2 : Int} {i3 : Int} {i4 : Int} {c5 : Cell} {c6 : Cell} {H : List Entry} {r : Res} (k : Nat) (h : impl_pickAt_1 (k + 1) (k + 1) s1 i2 i3 i4 c5 c6 H = some r) : run_impl_pickAt_1 [.agg [Cell.str s1, Cell.int i2, Cell.int i3, Cell.int i4, c5], .one (c6)] H = some r := lim_of ((impl_pickAt_1_eq k s1 i2 i3 i4 c5 c6 H).trans h)
noncomputable def pl_slices_IndexFunc_Pick : List (Nat × Run) := [(fid_impl_pickAt_1, run_impl_pickAt_1)]
noncomputable def G_slices_IndexFunc_Pick : Ctx := ctx tyTab fiTab pl_slices_IndexFunc_Pick
noncomputable def run_slices_IndexFunc_Pick : Run := lim G_slices_IndexFunc_Pick fid_slices_IndexFunc_Pick
theorem ok_slices_IndexFunc_Pick : FnOk Try.prog OkT fid_slices_IndexFunc_Pick run_slices_IndexFunc_Pick := lim_ok (l := pl_slices_IndexFunc_Pick) Try_mix tyTab_ok fiTab_ok okT (.cons ok_impl_pickAt_1 .nil) fid_slices_IndexFunc_Pick
noncomputable def slices_IndexFunc_Pick_impl_pickAt_1_l0 (k m : Nat) : Nat → Cell → Cell → Int → Int → List Entry → Option Res
  | 0, _, _, _, _, _ => none
  | n + 1, c3, c4, i5, i6, H7 =>
    cond (decide (i6 < i5))
    ((idxA 5 (c3) i6).bind fun c8 =>
    (deref H7 (c8)).bind fun p9 =>
    (cS p9.1 p9.2).bind fun s10 =>
    (cI .i64 p9.1 (p9.2 + 1)).bind fun i11 =>
    (cI .i64 p9.1 ((p9.2 + 1) + 1)).bind fun i12 =>
    (cI .i64 p9.1 (((p9.2 + 1) + 1) + 1)).bind fun i13 =>
    (cC p9.1 ((((p9.2 + 1) + 1) + 1) + 1)).bind fun c14 =>
    (run_impl_pickAt_1 [.agg [Cell.str s10, Cell.int i11, Cell.int i12, Cell.int i13, c14], .one (c4)] H7).bind fun r15 =>
    cond (shapeOk rk_impl_pickAt_1 r15.1)
    ((cB (cellsAt r15.1 0) 0).bind fun b16 =>
    cond b16
    (some ([.one (Cell.int i6)], r15.2))
    (slices_IndexFunc_Pick_impl_pickAt_1_l0 k m n (c3) (c4) i5 (IntKind.i64.wrap (i6 + 1)) r15.2))
    none)
    (some ([.one (Cell.int (-1))], H7))
noncomputable def slices_IndexFunc_Pick_impl_pickAt_1 (k m : Nat) (c1 : Cell) (q2 : Cell) (H : List Entry) : Option Res :=
  (lenC c1).bind fun n2 =>
  slices_IndexFunc_Pick_impl_pickAt_1_l0 k m m (c1) (q2) (n2 : Int) 0 H
noncomputable abbrev slices_IndexFunc_Pick_impl_pickAt_1_l0_B (k m : Nat) : (Ex → Fr → Option Res) → Fr → Option Res := evC G_slices_IndexFunc_Pick fi_slices_IndexFunc_Pick (evF G_slices_IndexFunc_Pick (k + 1)) m (sub [1, 0, 1, 2, 3] fi_slices_IndexFunc_Pick.code) none
noncomputable abbrev slices_IndexFunc_Pick_impl_pickAt_1_l0_K (k m : Nat) : Ex → Fr → Option Res := blockK 0 (seqK (evC G_slices_IndexFunc_Pick fi_slices_IndexFunc_Pick (evF G_slices_IndexFunc_Pick (k + 1)) m (sub [1, 1] fi_slices_IndexFunc_Pick.code) none) (retK G_slices_IndexFunc_Pick fi_slices_IndexFunc_Pick))
theorem slices_IndexFunc_Pick_impl_pickAt_1_l0_eq (k m : Nat) : ∀ (n : Nat) (c3 : Cell) (c4 : Cell) (i5 : Int) (i6 : Int) (H7 : List Entry), loopK (some [0, 1, 7, 8]) (slices_IndexFunc_Pick_impl_pickAt_1_l0_B k m) (slices_IndexFunc_Pick_impl_pickAt_1_l0_K k m) n ⟨fT 19 0 [(0, .av (.one (c3))), (1, .av (.one (.fn fid_impl_pickAt_1 [] [c4]))), (7, .av (.one (Cell.int i5))), (8, .av (.one (Cell.int i6)))], fX 19 0 [], H7⟩ = slices_IndexFunc_Pick_impl_pickAt_1_l0 (k + 1) m n c3 c4 i5 i6 H7 := by
  intro n
  induction n with
  | zero => intros; rfl
  | succ n ih =>
    intros
    simp only [slices_IndexFunc_Pick_impl_pickAt_1_l0, ← ih]
    kernel_rfl
theorem slices_IndexFunc_Pick_impl_pickAt_1_code (k m : Nat) (c1 : Cell) (q2 : Cell) (H : List Entry) : evC G_slices_IndexFunc_Pick fi_slices_IndexFunc_Pick (evF G_slices_IndexFunc_Pick (k + 1)) m fi_slices_IndexFunc_Pick.code none (retK G_slices_IndexFunc_Pick fi_slices_IndexFunc_Pick) (enter fi_slices_IndexFunc_Pick [.one (c1), .one (.fn fid_impl_pickAt_1 [] [q2])] H) = slices_IndexFunc_Pick_impl_pickAt_1 (k + 1) m c1 q2 H := by
  simp only [slices_IndexFunc_Pick_impl_pickAt_1, ← slices_IndexFunc_Pick_impl_pickAt_1_l0_eq k m]
  kernel_rfl
theorem slices_IndexFunc_Pick_impl_pickAt_1_eq (k : Nat) (c1 : Cell) (q2 : Cell) (H : List Entry) : evF G_slices_IndexFunc_Pick (k + 2) fid_slices_IndexFunc_Pick [.one (c1), .one (.fn fid_impl_pickAt_1 [] [q2])] H = slices_IndexFunc_Pick_impl_pickAt_1 (k + 1) (k + 1) c1 q2 H :=
  Eq.trans (by kernel_rfl) (slices_IndexFunc_Pick_impl_pickAt_1_code k (k + 1) c1 q2 H)
theorem run_slices_IndexFunc_Pick_impl_pickAt_1_of {c1 : Cell} {q2 : Cell} {H : List Entry} {r : Res} (k : Nat) (h : slices_IndexFunc_Pick_impl_pickAt_1 (k + 1) (k + 1) c1 q2 H = some r) : run_slices_IndexFunc_Pick [.one (c1), .one (.fn fid_impl_pickAt_1 [] [q2])] H = some r := lim_of ((slices_IndexFunc_Pick_impl_pickAt_1_eq k c1 q2 H).trans h)
noncomputable def pl_impl_pickAt : List (Nat × Run) := [(fid_slices_IndexFunc_Pick, run_slices_IndexFunc_Pick), (fid_impl_pickAt_1, run_impl_pickAt_1)]
noncomputable def G_impl_pickAt : Ctx := ctx tyTab fiTab pl_impl_pickAt
noncomputable def run_impl_pickAt : Run := lim G_impl_pickAt fid_impl_pickAt
theorem ok_impl_pickAt : FnOk Try.prog OkT fid_impl_pickAt run_impl_pickAt := lim_ok (l := pl_impl_pickAt) Try_mix tyTab_ok fiTab_ok okT (.cons ok_slices_IndexFunc_Pick (.cons ok_impl_pickAt_1 .nil)) fid_impl_pickAt
noncomputable def impl_pickAt (k m : Nat) (c1 : Cell) (s2 : ByteArray) : Option Res :=
  (run_slices_IndexFunc_Pick [.one (c1), .one (.fn fid_impl_pickAt_1 [] [.ptr 0 1 0 0 0])] [Entry.mk 1 [[Cell.str s2]] 0 false]).bind fun r3 =>
  cond (shapeOk rk_slices_IndexFunc_Pick r3.1)
  ((cI .i64 (cellsAt r3.1 0) 0).bind fun i4 =>
  some ([.one (Cell.int i4)], r3.2))
  none
theorem impl_pickAt_code (k m : Nat) (c1 : Cell) (s2 : ByteArray) : evC G_impl_pickAt fi_impl_pickAt (evF G_impl_pickAt (k + 1)) m fi_impl_pickAt.code none (retK G_impl_pickAt fi_impl_pickAt) (enter fi_impl_pickAt [.one (c1), .one (Cell.str s2)] []) = impl_pickAt (k + 1) m c1 s2 := by
  kernel_rfl
theorem impl_pickAt_eq (k : Nat) (c1 : Cell) (s2 : ByteArray) : evF G_impl_pickAt (k + 2) fid_impl_pickAt [.one (c1), .one (Cell.str s2)] [] = impl_pickAt (k + 1) (k + 1) c1 s2 :=
  Eq.trans (by kernel_rfl) (impl_pickAt_code k (k + 1) c1 s2)
theorem run_impl_pickAt_of {c1 : Cell} {s2 : ByteArray} {r : Res} (k : Nat) (h : impl_pickAt (k + 1) (k + 1) c1 s2 = some r) : run_impl_pickAt [.one (c1), .one (Cell.str s2)] [] = some r := lim_of ((impl_pickAt_eq k c1 s2).trans h)
noncomputable def pl_slices_Clone_string : List (Nat × Run) := []
noncomputable def G_slices_Clone_string : Ctx := ctx tyTab fiTab pl_slices_Clone_string
noncomputable def run_slices_Clone_string : Run := lim G_slices_Clone_string fid_slices_Clone_string
theorem ok_slices_Clone_string : FnOk Try.prog OkT fid_slices_Clone_string run_slices_Clone_string := lim_ok (l := pl_slices_Clone_string) Try_mix tyTab_ok fiTab_ok okT .nil fid_slices_Clone_string
noncomputable def slices_Clone_string (k m : Nat) (c1 : Cell) : Option Res :=
  nilC (c1)
  (both
  (some ([.one (.lst true 1 [])], []))
  ((srcRows [] 1 c1).bind fun r2 =>
  (app [] 1 16 (.lst true 1 []) r2).bind fun p3 =>
  some ([.one (p3.1)], p3.2)))
  ((srcRows [] 1 c1).bind fun r4 =>
  (app [] 1 16 (.lst true 1 []) r4).bind fun p5 =>
  some ([.one (p5.1)], p5.2))
theorem slices_Clone_string_code (k m : Nat) (c1 : Cell) : evC G_slices_Clone_string fi_slices_Clone_string (evF G_slices_Clone_string (k + 1)) m fi_slices_Clone_string.code none (retK G_slices_Clone_string fi_slices_Clone_string) (enter fi_slices_Clone_string [.one (c1)] []) = slices_Clone_string (k + 1) m c1 := by
  kernel_rfl
theorem slices_Clone_string_eq (k : Nat) (c1 : Cell) : evF G_slices_Clone_string (k + 2) fid_slices_Clone_string [.one (c1)] [] = slices_Clone_string (k + 1) (k + 1) c1 :=
  Eq.trans (by kernel_rfl) (slices_Clone_string_code k (k + 1) c1)
theorem run_slices_Clone_string_of {c1 : Cell} {r : Res} (k : Nat) (h : slices_Clone_string (k + 1) (k + 1) c1 = some r) : run_slices_Clone_string [.one (c1)] [] = some r := lim_of ((slices_Clone_string_eq k c1).trans h)
noncomputable def pl_impl_copyVer : List (Nat × Run) := [(fid_slices_Clone_string, run_slices_Clone_string)]
noncomputable def G_impl_copyVer : Ctx := ctx tyTab fiTab pl_impl_copyVer
noncomputable def run_impl_copyVer : Run := lim G_impl_copyVer fid_impl_copyVer
theorem ok_impl_copyVer : FnOk Try.prog OkT fid_impl_copyVer run_impl_copyVer := lim_ok (l := pl_impl_copyVer) Try_mix tyTab_ok fiTab_ok okT (.cons ok_slices_Clone_string .nil) fid_impl_copyVer
noncomputable def impl_copyVer (k m : Nat) (i1 : Int) (i2 : Int) (i3 : Int) (c4 : Cell) : Option Res :=
  (callF run_slices_Clone_string [.one (c4)] []).bind fun r5 =>
  cond (shapeOk rk_slices_Clone_string r5.1)
  ((cC (cellsAt r5.1 0) 0).bind fun c6 =>
  some ([.agg [Cell.int i1, Cell.int i2, Cell.int i3, c6]], r5.2))
  none
theorem impl_copyVer_code (k m : Nat) (i1 : Int) (i2 : Int) (i3 : Int) (c4 : Cell) : evC G_impl_copyVer fi_impl_copyVer (evF G_impl_copyVer (k + 1)) m fi_impl_copyVer.code none (retK G_impl_copyVer fi_impl_copyVer) (enter fi_impl_copyVer [.agg [Cell.int i1, Cell.int i2, Cell.int i3, c4]] []) = impl_copyVer (k + 1) m i1 i2 i3 c4 := by
  kernel_rfl
theorem impl_copyVer_eq (k : Nat) (i1 : Int) (i2 : Int) (i3 : Int) (c4 : Cell) : evF G_impl_copyVer (k + 2) fid_impl_copyVer [.agg [Cell.int i1, Cell.int i2, Cell.int i3, c4]] [] = impl_copyVer (k + 1) (k + 1) i1 i2 i3 c4 :=
  Eq.trans (by kernel_rfl) (impl_copyVer_code k (k + 1) i1 i2 i3 c4)
theorem run_impl_copyVer_of {i1 : Int} {i2 : Int} {i3 : Int} {c4 : Cell} {r : Res} (k : Nat) (h : impl_copyVer (k + 1) (k + 1) i1 i2 i3 c4 = some r) : run_impl_copyVer [.agg [Cell.int i1, Cell.int i2, Cell.int i3, c4]] [] = some r := lim_of ((impl_copyVer_eq k i1 i2 i3 c4).trans h)
noncomputable def pl_impl_PickOf : List (Nat × Run) := [(fid_impl_pickAt, run_impl_pickAt), (fid_impl_copyVer, run_impl_copyVer)]
noncomputable def G_impl_PickOf : Ctx := ctx tyTab fiTab pl_impl_PickOf
noncomputable def run_impl_PickOf : Run := lim G_impl_PickOf fid_impl_PickOf
theorem ok_impl_PickOf : FnOk Try.prog OkT fid_impl_PickOf run_impl_PickOf := lim_ok (l := pl_impl_PickOf) Try_mix tyTab_ok fiTab_ok okT (.cons ok_impl_pickAt (.cons ok_impl_copyVer .nil)) fid_impl_PickOf
noncomputable def impl_PickOf (k m : Nat) (c1 : Cell) (s2 : ByteArray) : Option Res :=
  (callS run_impl_pickAt [.one (c1), .one (Cell.str s2)] []).bind fun r3 =>
  cond (shapeOk rk_impl_pickAt r3)
  ((cI .i64 (cellsAt r3 0) 0).bind fun i4 =>
  cond (decide (i4 < 0))
  (some ([.agg [Cell.int 0, Cell.int 0, Cell.int 0, .lst true 1 []], .one (Cell.bool false)], []))
  ((idxA 5 (c1) i4).bind fun c5 =>
  (fldA c5 1).bind fun c6 =>
  (deref [] (c6)).bind fun p7 =>
  (cI .i64 p7.1 p7.2).bind fun i8 =>
  (cI .i64 p7.1 (p7.2 + 1)).bind fun i9 =>
  (cI .i64 p7.1 ((p7.2 + 1) + 1)).bind fun i10 =>
  (cC p7.1 (((p7.2 + 1) + 1) + 1)).bind fun c11 =>
  (callF run_impl_copyVer [.agg [Cell.int i8, Cell.int i9, Cell.int i10, c11]] []).bind fun r12 =>
  cond (shapeOk rk_impl_copyVer r12.1)
  ((cI .i64 (cellsAt r12.1 0) 0).bind fun i13 =>
  (cI .i64 (cellsAt r12.1 0) 1).bind fun i14 =>
  (cI .i64 (cellsAt r12.1 0) 2).bind fun i15 =>
  (cC (cellsAt r12.1 0) 3).bind fun c16 =>
  some ([.agg [Cell.int i13, Cell.int i14, Cell.int i15, c16], .one (Cell.bool true)], r12.2))
  none))
  none
theorem impl_PickOf_code (k m : Nat) (c1 : Cell) (s2 : ByteArray) : evC G_impl_PickOf fi_impl_PickOf (evF G_impl_PickOf (k + 1)) m fi_impl_PickOf.code none (retK G_impl_PickOf fi_impl_PickOf) (enter fi_impl_PickOf [.one (c1), .one (Cell.str s2)] []) = impl_PickOf (k + 1) m c1 s2 := by
  kernel_rfl
theorem impl_PickOf_eq (k : Nat) (c1 : Cell) (s2 : ByteArray) : evF G_impl_PickOf (k + 2) fid_impl_PickOf [.one (c1), .one (Cell.str s2)] [] = impl_PickOf (k + 1) (k + 1) c1 s2 :=
  Eq.trans (by kernel_rfl) (impl_PickOf_code k (k + 1) c1 s2)
theorem run_impl_PickOf_of {c1 : Cell} {s2 : ByteArray} {r : Res} (k : Nat) (h : impl_PickOf (k + 1) (k + 1) c1 s2 = some r) : run_impl_PickOf [.one (c1), .one (Cell.str s2)] [] = some r := lim_of ((impl_PickOf_eq k c1 s2).trans h)
noncomputable def pl_laws_eqStringS : List (Nat × Run) := []
noncomputable def G_laws_eqStringS : Ctx := ctx tyTab fiTab pl_laws_eqStringS
noncomputable def run_laws_eqStringS : Run := lim G_laws_eqStringS fid_laws_eqStringS
theorem ok_laws_eqStringS : FnOk Try.prog OkT fid_laws_eqStringS run_laws_eqStringS := lim_ok (l := pl_laws_eqStringS) Try_mix tyTab_ok fiTab_ok okT .nil fid_laws_eqStringS
noncomputable def laws_eqStringS_l0 (k m : Nat) : Nat → Cell → Cell → Int → Option Res
  | 0, _, _, _ => none
  | n + 1, c5, c6, i7 =>
    (lenC c5).bind fun n8 =>
    cond (decide (i7 < (n8 : Int)))
    ((idxA 1 (c5) i7).bind fun c9 =>
    (deref [] (c9)).bind fun p10 =>
    (cS p10.1 p10.2).bind fun s11 =>
    (idxA 1 (c6) i7).bind fun c12 =>
    (deref [] (c12)).bind fun p13 =>
    (cS p13.1 p13.2).bind fun s14 =>
    cond (!(s11.toList == s14.toList))
    (some ([.one (Cell.bool false)], []))
    (laws_eqStringS_l0 k m n (c5) (c6) (IntKind.i64.wrap (i7 + 1))))
    (some ([.one (Cell.bool true)], []))
noncomputable def laws_eqStringS (k m : Nat) (c1 : Cell) (c2 : Cell) : Option Res :=
  (lenC c1).bind fun n3 =>
  (lenC c2).bind fun n4 =>
  cond ((n3 : Int) != (n4 : Int))
  (some ([.one (Cell.bool false)], []))
  (laws_eqStringS_l0 k m m (c1) (c2) 0)
noncomputable abbrev laws_eqStringS_l0_B (k m : Nat) : (Ex → Fr → Option Res) → Fr → Option Res := evC G_laws_eqStringS fi_laws_eqStringS (evF G_laws_eqStringS (k + 1)) m (sub [1, 1, 0, 1, 2, 3] fi_laws_eqStringS.code) none
noncomputable abbrev laws_eqStringS_l0_K (k m : Nat) : Ex → Fr → Option Res := blockK 0 (seqK (evC G_laws_eqStringS fi_laws_eqStringS (evF G_laws_eqStringS (k + 1)) m (sub [1, 1, 1] fi_laws_eqStringS.code) none) (retK G_laws_eqStringS fi_laws_eqStringS))
theorem laws_eqStringS_l0_eq (k m : Nat) : ∀ (n : Nat) (c5 : Cell) (c6 : Cell) (i7 : Int), loopK (some [0, 1, 5]) (laws_eqStringS_l0_B k m) (laws_eqStringS_l0_K k m) n ⟨fT 26 0 [(0, .av (.one (c5))), (1, .av (.one (c6))), (5, .av (.one (Cell.int i7)))], fX 26 0 [], []⟩ = laws_eqStringS_l0 (k + 1) m n c5 c6 i7 := by
  intro n
  induction n with
  | zero => intros; rfl
  | succ n ih =>
    intros
    simp only [laws_eqStringS_l0, ← ih]
    kernel_rfl
theorem laws_eqStringS_code (k m : Nat) (c1 : Cell) (c2 : Cell) : evC G_laws_eqStringS fi_laws_eqStringS (evF G_laws_eqStringS (k + 1)) m fi_laws_eqStringS.code none (retK G_laws_eqStringS fi_laws_eqStringS) (enter fi_laws_eqStringS [.one (c1), .one (c2)] []) = laws_eqStringS (k + 1) m c1 c2 := by
  simp only [laws_eqStringS, ← laws_eqStringS_l0_eq k m]
  kernel_rfl
theorem laws_eqStringS_eq (k : Nat) (c1 : Cell) (c2 : Cell) : evF G_laws_eqStringS (k + 2) fid_laws_eqStringS [.one (c1), .one (c2)] [] = laws_eqStringS (k + 1) (k + 1) c1 c2 :=
  Eq.trans (by kernel_rfl) (laws_eqStringS_code k (k + 1) c1 c2)
theorem run_laws_eqStringS_of {c1 : Cell} {c2 : Cell} {r : Res} (k : Nat) (h : laws_eqStringS (k + 1) (k + 1) c1 c2 = some r) : run_laws_eqStringS [.one (c1), .one (c2)] [] = some r := lim_of ((laws_eqStringS_eq k c1 c2).trans h)
noncomputable def pl_laws_eqVer : List (Nat × Run) := [(fid_laws_eqStringS, run_laws_eqStringS)]
noncomputable def G_laws_eqVer : Ctx := ctx tyTab fiTab pl_laws_eqVer
noncomputable def run_laws_eqVer : Run := lim G_laws_eqVer fid_laws_eqVer
theorem ok_laws_eqVer : FnOk Try.prog OkT fid_laws_eqVer run_laws_eqVer := lim_ok (l := pl_laws_eqVer) Try_mix tyTab_ok fiTab_ok okT (.cons ok_laws_eqStringS .nil) fid_laws_eqVer
noncomputable def laws_eqVer (k m : Nat) (i1 : Int) (i2 : Int) (i3 : Int) (c4 : Cell) (i5 : Int) (i6 : Int) (i7 : Int) (c8 : Cell) : Option Res :=
  cond (i1 != i5)
  (some ([.one (Cell.bool false)], []))
  (cond (i2 != i6)
  (some ([.one (Cell.bool false)], []))
  (cond (i3 != i7)
  (some ([.one (Cell.bool false)], []))
  ((callS run_laws_eqStringS [.one (c4), .one (c8)] []).bind fun r9 =>
  cond (shapeOk rk_laws_eqStringS r9)
  ((cB (cellsAt r9 0) 0).bind fun b10 =>
  cond (!b10)
  (some ([.one (Cell.bool false)], []))
  (some ([.one (Cell.bool true)], [])))
  none)))
theorem laws_eqVer_code (k m : Nat) (i1 : Int) (i2 : Int) (i3 : Int) (c4 : Cell) (i5 : Int) (i6 : Int) (i7 : Int) (c8 : Cell) : evC G_laws_eqVer fi_laws_eqVer (evF G_laws_eqVer (k + 1)) m fi_laws_eqVer.code none (retK G_laws_eqVer fi_laws_eqVer) (enter fi_laws_eqVer [.agg [Cell.int i1, Cell.int i2, Cell.int i3, c4], .agg [Cell.int i5, Cell.int i6, Cell.int i7, c8]] []) = laws_eqVer (k + 1) m i1 i2 i3 c4 i5 i6 i7 c8 := by
  kernel_rfl
theorem laws_eqVer_eq (k : Nat) (i1 : Int) (i2 : Int) (i3 : Int) (c4 : Cell) (i5 : Int) (i6 : Int) (i7 : Int) (c8 : Cell) : evF G_laws_eqVer (k + 2) fid_laws_eqVer [.agg [Cell.int i1, Cell.int i2, Cell.int i3, c4], .agg [Cell.int i5, Cell.int i6, Cell.int i7, c8]] [] = laws_eqVer (k + 1) (k + 1) i1 i2 i3 c4 i5 i6 i7 c8 :=
  Eq.trans (by kernel_rfl) (laws_eqVer_code k (k + 1) i1 i2 i3 c4 i5 i6 i7 c8)
theorem run_laws_eqVer_of {i1 : Int} {i2 : Int} {i3 : Int} {c4 : Cell} {i5 : Int} {i6 : Int} {i7 : Int} {c8 : Cell} {r : Res} (k : Nat) (h : laws_eqVer (k + 1) (k + 1) i1 i2 i3 c4 i5 i6 i7 c8 = some r) : run_laws_eqVer [.agg [Cell.int i1, Cell.int i2, Cell.int i3, c4], .agg [Cell.int i5, Cell.int i6, Cell.int i7, c8]] [] = some r := lim_of ((laws_eqVer_eq k i1 i2 i3 c4 i5 i6 i7 c8).trans h)
noncomputable def pl_laws_eqPick : List (Nat × Run) := [(fid_laws_eqVer, run_laws_eqVer)]
noncomputable def G_laws_eqPick : Ctx := ctx tyTab fiTab pl_laws_eqPick
noncomputable def run_laws_eqPick : Run := lim G_laws_eqPick fid_laws_eqPick
theorem ok_laws_eqPick : FnOk Try.prog OkT fid_laws_eqPick run_laws_eqPick := lim_ok (l := pl_laws_eqPick) Try_mix tyTab_ok fiTab_ok okT (.cons ok_laws_eqVer .nil) fid_laws_eqPick
noncomputable def laws_eqPick (k m : Nat) (s1 : ByteArray) (i2 : Int) (i3 : Int) (i4 : Int) (c5 : Cell) (s6 : ByteArray) (i7 : Int) (i8 : Int) (i9 : Int) (c10 : Cell) : Option Res :=
  cond (!(s1.toList == s6.toList))
  (some ([.one (Cell.bool false)], []))
  ((callS run_laws_eqVer [.agg [Cell.int i2, Cell.int i3, Cell.int i4, c5], .agg [Cell.int i7, Cell.int i8, Cell.int i9, c10]] []).bind fun r11 =>
  cond (shapeOk rk_laws_eqVer r11)
  ((cB (cellsAt r11 0) 0).bind fun b12 =>
  cond (!b12)
  (some ([.one (Cell.bool false)], []))
  (some ([.one (Cell.bool true)], [])))
  none)
theorem laws_eqPick_code (k m : Nat) (s1 : ByteArray) (i2 : Int) (i3 : Int) (i4 : Int) (c5 : Cell) (s6 : ByteArray) (i7 : Int) (i8 : Int) (i9 : Int) (c10 : Cell) : evC G_laws_eqPick fi_laws_eqPick (evF G_laws_eqPick (k + 1)) m fi_laws_eqPick.code none (retK G_laws_eqPick fi_laws_eqPick) (enter fi_laws_eqPick [.agg [Cell.str s1, Cell.int i2, Cell.int i3, Cell.int i4, c5], .agg [Cell.str s6, Cell.int i7, Cell.int i8, Cell.int i9, c10]] []) = laws_eqPick (k + 1) m s1 i2 i3 i4 c5 s6 i7 i8 i9 c10 := by
  kernel_rfl
theorem laws_eqPick_eq (k : Nat) (s1 : ByteArray) (i2 : Int) (i3 : Int) (i4 : Int) (c5 : Cell) (s6 : ByteArray) (i7 : Int) (i8 : Int) (i9 : Int) (c10 : Cell) : evF G_laws_eqPick (k + 2) fid_laws_eqPick [.agg [Cell.str s1, Cell.int i2, Cell.int i3, Cell.int i4, c5], .agg [Cell.str s6, Cell.int i7, Cell.int i8, Cell.int i9, c10]] [] = laws_eqPick (k + 1) (k + 1) s1 i2 i3 i4 c5 s6 i7 i8 i9 c10 :=
  Eq.trans (by kernel_rfl) (laws_eqPick_code k (k + 1) s1 i2 i3 i4 c5 s6 i7 i8 i9 c10)
theorem run_laws_eqPick_of {s1 : ByteArray} {i2 : Int} {i3 : Int} {i4 : Int} {c5 : Cell} {s6 : ByteArray} {i7 : Int} {i8 : Int} {i9 : Int} {c10 : Cell} {r : Res} (k : Nat) (h : laws_eqPick (k + 1) (k + 1) s1 i2 i3 i4 c5 s6 i7 i8 i9 c10 = some r) : run_laws_eqPick [.agg [Cell.str s1, Cell.int i2, Cell.int i3, Cell.int i4, c5], .agg [Cell.str s6, Cell.int i7, Cell.int i8, Cell.int i9, c10]] [] = some r := lim_of ((laws_eqPick_eq k s1 i2 i3 i4 c5 s6 i7 i8 i9 c10).trans h)
noncomputable def pl_laws_eqPickS : List (Nat × Run) := [(fid_laws_eqPick, run_laws_eqPick)]
noncomputable def G_laws_eqPickS : Ctx := ctx tyTab fiTab pl_laws_eqPickS
noncomputable def run_laws_eqPickS : Run := lim G_laws_eqPickS fid_laws_eqPickS
theorem ok_laws_eqPickS : FnOk Try.prog OkT fid_laws_eqPickS run_laws_eqPickS := lim_ok (l := pl_laws_eqPickS) Try_mix tyTab_ok fiTab_ok okT (.cons ok_laws_eqPick .nil) fid_laws_eqPickS
noncomputable def laws_eqPickS_l0 (k m : Nat) : Nat → Cell → Cell → Int → Option Res
  | 0, _, _, _ => none
  | n + 1, c5, c6, i7 =>
    (lenC c5).bind fun n8 =>
    cond (decide (i7 < (n8 : Int)))
    ((idxA 5 (c5) i7).bind fun c9 =>
    (deref [] (c9)).bind fun p10 =>
    (cS p10.1 p10.2).bind fun s11 =>
    (cI .i64 p10.1 (p10.2 + 1)).bind fun i12 =>
    (cI .i64 p10.1 ((p10.2 + 1) + 1)).bind fun i13 =>
    (cI .i64 p10.1 (((p10.2 + 1) + 1) + 1)).bind fun i14 =>
    (cC p10.1 ((((p10.2 + 1) + 1) + 1) + 1)).bind fun c15 =>
    (idxA 5 (c6) i7).bind fun c16 =>
    (deref [] (c16)).bind fun p17 =>
    (cS p17.1 p17.2).bind fun s18 =>
    (cI .i64 p17.1 (p17.2 + 1)).bind fun i19 =>
    (cI .i64 p17.1 ((p17.2 + 1) + 1)).bind fun i20 =>
    (cI .i64 p17.1 (((p17.2 + 1) + 1) + 1)).bind fun i21 =>
    (cC p17.1 ((((p17.2 + 1) + 1) + 1) + 1)).bind fun c22 =>
    (callS run_laws_eqPick [.agg [Cell.str s11, Cell.int i12, Cell.int i13, Cell.int i14, c15], .agg [Cell.str s18, Cell.int i19, Cell.int i20, Cell.int i21, c22]] []).bind fun r23 =>
    cond (shapeOk rk_laws_eqPick r23)
    ((cB (cellsAt r23 0) 0).bind fun b24 =>
    cond (!b24)
    (some ([.one (Cell.bool false)], []))
    (laws_eqPickS_l0 k m n (c5) (c6) (IntKind.i64.wrap (i7 + 1))))
    none)
    (some ([.one (Cell.bool true)], []))
noncomputable def laws_eqPickS (k m : Nat) (c1 : Cell) (c2 : Cell) : Option Res :=
  (lenC c1).bind fun n3 =>
  (lenC c2).bind fun n4 =>
  cond ((n3 : Int) != (n4 : Int))
  (some ([.one (Cell.bool false)], []))
  (laws_eqPickS_l0 k m m (c1) (c2) 0)
noncomputable abbrev laws_eqPickS_l0_B (k m : Nat) : (Ex → Fr → Option Res) → Fr → Option Res := evC G_laws_eqPickS fi_laws_eqPickS (evF G_laws_eqPickS (k + 1)) m (sub [1, 1, 0, 1, 2, 3] fi_laws_eqPickS.code) none
noncomputable abbrev laws_eqPickS_l0_K (k m : Nat) : Ex → Fr → Option Res := blockK 0 (seqK (evC G_laws_eqPickS fi_laws_eqPickS (evF G_laws_eqPickS (k + 1)) m (sub [1, 1, 1] fi_laws_eqPickS.code) none) (retK G_laws_eqPickS fi_laws_eqPickS))
theorem laws_eqPickS_l0_eq (k m : Nat) : ∀ (n : Nat) (c5 : Cell) (c6 : Cell) (i7 : Int), loopK (some [0, 1, 5]) (laws_eqPickS_l0_B k m) (laws_eqPickS_l0_K k m) n ⟨fT 27 0 [(0, .av (.one (c5))), (1, .av (.one (c6))), (5, .av (.one (Cell.int i7)))], fX 27 0 [], []⟩ = laws_eqPickS_l0 (k + 1) m n c5 c6 i7 := by
  intro n
  induction n with
  | zero => intros; rfl
  | succ n ih =>
    intros
    simp only [laws_eqPickS_l0, ← ih]
    kernel_rfl
theorem laws_eqPickS_code (k m : Nat) (c1 : Cell) (c2 : Cell) : evC G_laws_eqPickS fi_laws_eqPickS (evF G_laws_eqPickS (k + 1)) m fi_laws_eqPickS.code none (retK G_laws_eqPickS fi_laws_eqPickS) (enter fi_laws_eqPickS [.one (c1), .one (c2)] []) = laws_eqPickS (k + 1) m c1 c2 := by
  simp only [laws_eqPickS, ← laws_eqPickS_l0_eq k m]
  kernel_rfl
theorem laws_eqPickS_eq (k : Nat) (c1 : Cell) (c2 : Cell) : evF G_laws_eqPickS (k + 2) fid_laws_eqPickS [.one (c1), .one (c2)] [] = laws_eqPickS (k + 1) (k + 1) c1 c2 :=
  Eq.trans (by kernel_rfl) (laws_eqPickS_code k (k + 1) c1 c2)
theorem run_laws_eqPickS_of {c1 : Cell} {c2 : Cell} {r : Res} (k : Nat) (h : laws_eqPickS (k + 1) (k + 1) c1 c2 = some r) : run_laws_eqPickS [.one (c1), .one (c2)] [] = some r := lim_of ((laws_eqPickS_eq k c1 c2).trans h)
noncomputable def pl_laws_markText : List (Nat × Run) := []
noncomputable def G_laws_markText : Ctx := ctx tyTab fiTab pl_laws_markText
noncomputable def run_laws_markText : Run := lim G_laws_markText fid_laws_markText
theorem ok_laws_markText : FnOk Try.prog OkT fid_laws_markText run_laws_markText := lim_ok (l := pl_laws_markText) Try_mix tyTab_ok fiTab_ok okT .nil fid_laws_markText
noncomputable def laws_markText_l0 (k m : Nat) : Nat → Int → ByteArray → Option Res
  | 0, _, _ => none
  | n + 1, i2, s3 =>
    cond (decide (i2 > 0))
    ((bytesOf [] (.lst true 1 [[.sc (.int .u8 (IntKind.u8.wrap (IntKind.i64.wrap (48 + (i2.tmod 10)))))]])).bind fun s4 =>
    (catS s4 s3).bind fun s5 =>
    laws_markText_l0 k m n (IntKind.i64.wrap (i2.tdiv 10)) s5)
    ((catS (bs [109]) s3).bind fun s6 =>
    some ([.one (Cell.str s6)], []))
noncomputable def laws_markText (k m : Nat) (i1 : Int) : Option Res :=
  cond (decide (i1 ≤ 0))
  (some ([.one (Cell.str (bs [109, 48]))], []))
  (laws_markText_l0 k m m i1 (bs []))
noncomputable abbrev laws_markText_l0_B (k m : Nat) : (Ex → Fr → Option Res) → Fr → Option Res := evC G_laws_markText fi_laws_markText (evF G_laws_markText (k + 1)) m (sub [1, 1, 1, 0, 2, 3] fi_laws_markText.code) none
noncomputable abbrev laws_markText_l0_K (k m : Nat) : Ex → Fr → Option Res := blockK 0 (seqK (evC G_laws_markText fi_laws_markText (evF G_laws_markText (k + 1)) m (sub [1, 1, 1, 1] fi_laws_markText.code) none) (retK G_laws_markText fi_laws_markText))
theorem laws_markText_l0_eq (k m : Nat) : ∀ (n : Nat) (i2 : Int) (s3 : ByteArray), loopK (some [0, 3]) (laws_markText_l0_B k m) (laws_markText_l0_K k m) n ⟨fT 20 0 [(0, .av (.one (Cell.int i2))), (3, .av (.one (Cell.str s3)))], fX 20 0 [], []⟩ = laws_markText_l0 (k + 1) m n i2 s3 := by
  intro n
  induction n with
  | zero => intros; rfl
  | succ n ih =>
    intros
    simp only [laws_markText_l0, ← ih]
    kernel_rfl
theorem laws_markText_code (k m : Nat) (i1 : Int) : evC G_laws_markText fi_laws_markText (evF G_laws_markText (k + 1)) m fi_laws_markText.code none (retK G_laws_markText fi_laws_markText) (enter fi_laws_markText [.one (Cell.int i1)] []) = laws_markText (k + 1) m i1 := by
  simp only [laws_markText, ← laws_markText_l0_eq k m]
  kernel_rfl
theorem laws_markText_eq (k : Nat) (i1 : Int) : evF G_laws_markText (k + 2) fid_laws_markText [.one (Cell.int i1)] [] = laws_markText (k + 1) (k + 1) i1 :=
  Eq.trans (by kernel_rfl) (laws_markText_code k (k + 1) i1)
theorem run_laws_markText_of {i1 : Int} {r : Res} (k : Nat) (h : laws_markText (k + 1) (k + 1) i1 = some r) : run_laws_markText [.one (Cell.int i1)] [] = some r := lim_of ((laws_markText_eq k i1).trans h)
noncomputable def pl_laws_markStringS : List (Nat × Run) := [(fid_laws_markText, run_laws_markText)]
noncomputable def G_laws_markStringS : Ctx := ctx tyTab fiTab pl_laws_markStringS
noncomputable def run_laws_markStringS : Run := lim G_laws_markStringS fid_laws_markStringS
theorem ok_laws_markStringS : FnOk Try.prog OkT fid_laws_markStringS run_laws_markStringS := lim_ok (l := pl_laws_markStringS) Try_mix tyTab_ok fiTab_ok okT (.cons ok_laws_markText .nil) fid_laws_markStringS
noncomputable def laws_markStringS_l0 (k m : Nat) : Nat → Cell → Int → Int → List Entry → Option Res
  | 0, _, _, _, _ => none
  | n + 1, c3, i4, i5, H6 =>
    (lenC c3).bind fun n7 =>
    cond (decide (i5 < (n7 : Int)))
    ((callS run_laws_markText [.one (Cell.int i4)] H6).bind fun r8 =>
    cond (shapeOk rk_laws_markText r8)
    ((cS (cellsAt r8 0) 0).bind fun s9 =>
    (idxA 1 (c3) i5).bind fun c10 =>
    (hStore H6 (c10) [Cell.str s9]).bind fun h11 =>
    laws_markStringS_l0 k m n (c3) (IntKind.i64.wrap (i4 + 1)) (IntKind.i64.wrap (i5 + 1)) h11)
    none)
    (some ([.one (Cell.int i4)], H6))
noncomputable def laws_markStringS (k m : Nat) (c1 : Cell) (i2 : Int) (H : List Entry) : Option Res :=
  laws_markStringS_l0 k m m (c1) i2 0 H
noncomputable abbrev laws_markStringS_l0_B (k m : Nat) : (Ex → Fr → Option Res) → Fr → Option Res := evC G_laws_markStringS fi_laws_markStringS (evF G_laws_markStringS (k + 1)) m (sub [1, 0, 1, 2, 3] fi_laws_markStringS.code) none
noncomputable abbrev laws_markStringS_l0_K (k m : Nat) : Ex → Fr → Option Res := blockK 0 (seqK (evC G_laws_markStringS fi_laws_markStringS (evF G_laws_markStringS (k + 1)) m (sub [1, 1] fi_laws_markStringS.code) none) (retK G_laws_markStringS fi_laws_markStringS))
theorem laws_markStringS_l0_eq (k m : Nat) : ∀ (n : Nat) (c3 : Cell) (i4 : Int) (i5 : Int) (H6 : List Entry), loopK (some [0, 1, 5]) (laws_markStringS_l0_B k m) (laws_markStringS_l0_K k m) n ⟨fT 20 0 [(0, .av (.one (c3))), (1, .av (.one (Cell.int i4))), (5, .av (.one (Cell.int i5)))], fX 20 0 [], H6⟩ = laws_markStringS_l0 (k + 1) m n c3 i4 i5 H6 := by
  intro n
  induction n with
  | zero => intros; rfl
  | succ n ih =>
    intros
    simp only [laws_markStringS_l0, ← ih]
    kernel_rfl
theorem laws_markStringS_code (k m : Nat) (c1 : Cell) (i2 : Int) (H : List Entry) : evC G_laws_markStringS fi_laws_markStringS (evF G_laws_markStringS (k + 1)) m fi_laws_markStringS.code none (retK G_laws_markStringS fi_laws_markStringS) (enter fi_laws_markStringS [.one (c1), .one (Cell.int i2)] H) = laws_markStringS (k + 1) m c1 i2 H := by
  simp only [laws_markStringS, ← laws_markStringS_l0_eq k m]
  kernel_rfl
theorem laws_markStringS_eq (k : Nat) (c1 : Cell) (i2 : Int) (H : List Entry) : evF G_laws_markStringS (k + 2) fid_laws_markStringS [.one (c1), .one (Cell.int i2)] H = laws_markStringS (k + 1) (k + 1) c1 i2 H :=
  Eq.trans (by kernel_rfl) (laws_markStringS_code k (k + 1) c1 i2 H)
theorem run_laws_markStringS_of {c1 : Cell} {i2 : Int} {H : List Entry} {r : Res} (k : Nat) (h : laws_markStringS (k + 1) (k + 1) c1 i2 H = some r) : run_laws_markStringS [.one (c1), .one (Cell.int i2)] H = some r := lim_of ((laws_markStringS_eq k c1 i2 H).trans h)
end Go.Ev
