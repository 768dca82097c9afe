/- What the evaluator says of the functions, each as a Lean function over cells. Printed by a program of this claim. Conditions: none. -/
import Derived.Test.YtiocamjonchabaaDoorSh0
import Derived.KernelRfl
namespace Go.Ev
open Go Go.Proofs
set_option maxRecDepth 100000
set_option linter.unusedVariables false
set_option linter.unusedSimpArgs false
noncomputable def pl_laws_markByteS : List (Nat × Run) := []
noncomputable def G_laws_markByteS : Ctx := ctx tyTab fiTab pl_laws_markByteS
noncomputable def run_laws_markByteS : Run := lim G_laws_markByteS fid_laws_markByteS
theorem ok_laws_markByteS : FnOk Tryd.prog OkT fid_laws_markByteS run_laws_markByteS := lim_ok (l := pl_laws_markByteS) Tryd_mix tyTab_ok fiTab_ok okT .nil fid_laws_markByteS
noncomputable def laws_markByteS_l0 (k m : Nat) : Nat → Cell → Int → Int → List Entry → Option Res
  | 0, _, _, _, _ => none
  | n + 1, c3, i4, i5, H6 =>
    (lenC c3).bind fun n7 =>
    cond (decide (i5 < (n7 : Int)))
    ((idxA 1 (c3) i5).bind fun c8 =>
    (hStore H6 (c8) [.sc (.int .u8 (IntKind.u8.wrap i4))]).bind fun h9 =>
    laws_markByteS_l0 k m n (c3) (IntKind.i64.wrap (i4 + 1)) (IntKind.i64.wrap (i5 + 1)) h9)
    (some ([.one (Cell.int i4)], H6))
noncomputable def laws_markByteS (k m : Nat) (c1 : Cell) (i2 : Int) (H : List Entry) : Option Res :=
  laws_markByteS_l0 k m m (c1) i2 0 H
noncomputable abbrev laws_markByteS_l0_B (k m : Nat) : (Ex → Fr → Option Res) → Fr → Option Res := evC G_laws_markByteS fi_laws_markByteS (evF G_laws_markByteS (k + 1)) m (sub [1, 0, 1, 2, 3] fi_laws_markByteS.code) none
noncomputable abbrev laws_markByteS_l0_K (k m : Nat) : Ex → Fr → Option Res := blockK 0 (seqK (evC G_laws_markByteS fi_laws_markByteS (evF G_laws_markByteS (k + 1)) m (sub [1, 1] fi_laws_markByteS.code) none) (retK G_laws_markByteS fi_laws_markByteS))
theorem laws_markByteS_l0_eq (k m : Nat) : ∀ (n : Nat) (c3 : Cell) (i4 : Int) (i5 : Int) (H6 : List Entry), loopK (some [0, 1, 5]) (laws_markByteS_l0_B k m) (laws_markByteS_l0_K k m) n ⟨fT 20 0 [(0, .av (.one (c3))), (1, .av (.one (Cell.int i4))), (5, .av (.one (Cell.int i5)))], fX 20 0 [], H6⟩ = laws_markByteS_l0 (k + 1) m n c3 i4 i5 H6 := by
  intro n
  induction n with
  | zero => intros; rfl
  | succ n ih =>
    intros
    simp only [laws_markByteS_l0, ← ih]
    kernel_rfl
theorem laws_markByteS_code (k m : Nat) (c1 : Cell) (i2 : Int) (H : List Entry) : evC G_laws_markByteS fi_laws_markByteS (evF G_laws_markByteS (k + 1)) m fi_laws_markByteS.code none (retK G_laws_markByteS fi_laws_markByteS) (enter fi_laws_markByteS [.one (c1), .one (Cell.int i2)] H) = laws_markByteS (k + 1) m c1 i2 H := by
  simp only [laws_markByteS, ← laws_markByteS_l0_eq k m]
  kernel_rfl
theorem laws_markByteS_eq (k : Nat) (c1 : Cell) (i2 : Int) (H : List Entry) : evF G_laws_markByteS (k + 2) fid_laws_markByteS [.one (c1), .one (Cell.int i2)] H = laws_markByteS (k + 1) (k + 1) c1 i2 H :=
  Eq.trans (by kernel_rfl) (laws_markByteS_code k (k + 1) c1 i2 H)
theorem run_laws_markByteS_of {c1 : Cell} {i2 : Int} {H : List Entry} {r : Res} (k : Nat) (h : laws_markByteS (k + 1) (k + 1) c1 i2 H = some r) : run_laws_markByteS [.one (c1), .one (Cell.int i2)] H = some r := lim_of ((laws_markByteS_eq k c1 i2 H).trans h)
noncomputable def pl_laws_heldByteS : List (Nat × Run) := []
noncomputable def G_laws_heldByteS : Ctx := ctx tyTab fiTab pl_laws_heldByteS
noncomputable def run_laws_heldByteS : Run := lim G_laws_heldByteS fid_laws_heldByteS
theorem ok_laws_heldByteS : FnOk Tryd.prog OkT fid_laws_heldByteS run_laws_heldByteS := lim_ok (l := pl_laws_heldByteS) Tryd_mix tyTab_ok fiTab_ok okT .nil fid_laws_heldByteS
noncomputable def laws_heldByteS_l0 (k m : Nat) : Nat → Cell → Int → Int → Option Res
  | 0, _, _, _ => none
  | n + 1, c3, i4, i5 =>
    (lenC c3).bind fun n6 =>
    cond (decide (i5 < (n6 : Int)))
    ((idxA 1 (c3) i5).bind fun c7 =>
    (deref [] (c7)).bind fun p8 =>
    (cI .u8 p8.1 p8.2).bind fun i9 =>
    cond (i9 != (IntKind.u8.wrap i4))
    (some ([.one (Cell.int (-1))], []))
    (laws_heldByteS_l0 k m n (c3) (IntKind.i64.wrap (i4 + 1)) (IntKind.i64.wrap (i5 + 1))))
    (some ([.one (Cell.int i4)], []))
noncomputable def laws_heldByteS (k m : Nat) (c1 : Cell) (i2 : Int) : Option Res :=
  laws_heldByteS_l0 k m m (c1) i2 0
noncomputable abbrev laws_heldByteS_l0_B (k m : Nat) : (Ex → Fr → Option Res) → Fr → Option Res := evC G_laws_heldByteS fi_laws_heldByteS (evF G_laws_heldByteS (k + 1)) m (sub [1, 0, 1, 2, 3] fi_laws_heldByteS.code) none
noncomputable abbrev laws_heldByteS_l0_K (k m : Nat) : Ex → Fr → Option Res := blockK 0 (seqK (evC G_laws_heldByteS fi_laws_heldByteS (evF G_laws_heldByteS (k + 1)) m (sub [1, 1] fi_laws_heldByteS.code) none) (retK G_laws_heldByteS fi_laws_heldByteS))
theorem laws_heldByteS_l0_eq (k m : Nat) : ∀ (n : Nat) (c3 : Cell) (i4 : Int) (i5 : Int), loopK (some [0, 1, 5]) (laws_heldByteS_l0_B k m) (laws_heldByteS_l0_K k m) n ⟨fT 22 0 [(0, .av (.one (c3))), (1, .av (.one (Cell.int i4))), (5, .av (.one (Cell.int i5)))], fX 22 0 [], []⟩ = laws_heldByteS_l0 (k + 1) m n c3 i4 i5 := by
  intro n
  induction n with
  | zero => intros; rfl
  | succ n ih =>
    intros
    simp only [laws_heldByteS_l0, ← ih]
    kernel_rfl
theorem laws_heldByteS_code (k m : Nat) (c1 : Cell) (i2 : Int) : evC G_laws_heldByteS fi_laws_heldByteS (evF G_laws_heldByteS (k + 1)) m fi_laws_heldByteS.code none (retK G_laws_heldByteS fi_laws_heldByteS) (enter fi_laws_heldByteS [.one (c1), .one (Cell.int i2)] []) = laws_heldByteS (k + 1) m c1 i2 := by
  simp only [laws_heldByteS, ← laws_heldByteS_l0_eq k m]
  kernel_rfl
theorem laws_heldByteS_eq (k : Nat) (c1 : Cell) (i2 : Int) : evF G_laws_heldByteS (k + 2) fid_laws_heldByteS [.one (c1), .one (Cell.int i2)] [] = laws_heldByteS (k + 1) (k + 1) c1 i2 :=
  Eq.trans (by kernel_rfl) (laws_heldByteS_code k (k + 1) c1 i2)
theorem run_laws_heldByteS_of {c1 : Cell} {i2 : Int} {r : Res} (k : Nat) (h : laws_heldByteS (k + 1) (k + 1) c1 i2 = some r) : run_laws_heldByteS [.one (c1), .one (Cell.int i2)] [] = some r := lim_of ((laws_heldByteS_eq k c1 i2).trans h)
noncomputable def pl_laws_FnExactPutMade : List (Nat × Run) := [(fid_laws_szMade, run_laws_szMade), (fid_spec_PutMade, run_spec_PutMade), (fid_laws_toMade, run_laws_toMade), (fid_impl_PutMade, run_impl_PutMade), (fid_laws_eqByteS, run_laws_eqByteS), (fid_laws_eqMade, run_laws_eqMade), (fid_laws_markMade, run_laws_markMade), (fid_laws_markByteS, run_laws_markByteS), (fid_laws_heldByteS, run_laws_heldByteS)]
noncomputable def G_laws_FnExactPutMade : Ctx := ctx tyTab fiTab pl_laws_FnExactPutMade
noncomputable def run_laws_FnExactPutMade : Run := lim G_laws_FnExactPutMade fid_laws_FnExactPutMade
theorem ok_laws_FnExactPutMade : FnOk Tryd.prog OkT fid_laws_FnExactPutMade run_laws_FnExactPutMade := lim_ok (l := pl_laws_FnExactPutMade) Tryd_mix tyTab_ok fiTab_ok okT (.cons ok_laws_szMade (.cons ok_spec_PutMade (.cons ok_laws_toMade (.cons ok_impl_PutMade (.cons ok_laws_eqByteS (.cons ok_laws_eqMade (.cons ok_laws_markMade (.cons ok_laws_markByteS (.cons ok_laws_heldByteS .nil))))))))) fid_laws_FnExactPutMade
noncomputable def laws_FnExactPutMade (k m : Nat) (s1 : ByteArray) (c2 : Cell) (s3 : ByteArray) : Option Res :=
  (callS run_laws_szMade [.agg [Cell.str s1, c2, Cell.str s3], .one (Cell.int 1048576)] []).bind fun r4 =>
  cond (shapeOk rk_laws_szMade r4)
  ((cI .i64 (cellsAt r4 0) 0).bind fun i5 =>
  cond (decide (i5 < 0))
  (some ([.one (Cell.bool true)], []))
  ((callF run_laws_toMade [.agg [Cell.str s1, c2, Cell.str s3]] []).bind fun r6 =>
  cond (shapeOk rk_laws_toMade r6.1)
  ((cS (cellsAt r6.1 0) 0).bind fun s7 =>
  (cC (cellsAt r6.1 0) 1).bind fun c8 =>
  (cS (cellsAt r6.1 0) 2).bind fun s9 =>
  (callL run_spec_PutMade [.agg [Cell.str s7, c8, Cell.str s9]] r6.2).bind fun r10 =>
  cond (shapeOk rk_spec_PutMade r10.1)
  ((cC (cellsAt r10.1 0) 0).bind fun c11 =>
  (callF run_laws_toMade [.agg [Cell.str s1, c2, Cell.str s3]] r10.2).bind fun r12 =>
  cond (shapeOk rk_laws_toMade r12.1)
  ((cS (cellsAt r12.1 0) 0).bind fun s13 =>
  (cC (cellsAt r12.1 0) 1).bind fun c14 =>
  (cS (cellsAt r12.1 0) 2).bind fun s15 =>
  (callF run_impl_PutMade [.agg [Cell.str s13, c14, Cell.str s15]] r12.2).bind fun r16 =>
  cond (shapeOk rk_impl_PutMade r16.1)
  ((cC (cellsAt r16.1 0) 0).bind fun c17 =>
  (callS run_laws_eqByteS [.one (c17), .one (c11)] r16.2).bind fun r18 =>
  cond (shapeOk rk_laws_eqByteS r18)
  ((cB (cellsAt r18 0) 0).bind fun b19 =>
  cond (!b19)
  (some ([.one (Cell.bool false)], r16.2))
  ((callF run_laws_toMade [.agg [Cell.str s1, c2, Cell.str s3]] r16.2).bind fun r20 =>
  cond (shapeOk rk_laws_toMade r20.1)
  ((cS (cellsAt r20.1 0) 0).bind fun s21 =>
  (cC (cellsAt r20.1 0) 1).bind fun c22 =>
  (cS (cellsAt r20.1 0) 2).bind fun s23 =>
  (callS run_laws_eqMade [.agg [Cell.str s13, c14, Cell.str s15], .agg [Cell.str s21, c22, Cell.str s23]] r20.2).bind fun r24 =>
  cond (shapeOk rk_laws_eqMade r24)
  ((cB (cellsAt r24 0) 0).bind fun b25 =>
  cond (!b25)
  (some ([.one (Cell.bool false)], r20.2))
  ((run_laws_markMade [.agg [Cell.str s13, c14, Cell.str s15], .one (Cell.int 1)] r20.2).bind fun r26 =>
  cond (shapeOk rk_laws_markMade r26.1)
  ((cI .i64 (cellsAt r26.1 0) 0).bind fun i27 =>
  cond (decide (i27 < 0))
  (some ([.one (Cell.bool false)], r26.2))
  ((callS run_laws_eqByteS [.one (c17), .one (c11)] r26.2).bind fun r28 =>
  cond (shapeOk rk_laws_eqByteS r28)
  ((cB (cellsAt r28 0) 0).bind fun b29 =>
  cond (!b29)
  (some ([.one (Cell.bool false)], r26.2))
  ((run_laws_markByteS [.one (c17), .one (Cell.int 1)] r26.2).bind fun r30 =>
  cond (shapeOk rk_laws_markByteS r30.1)
  ((cI .i64 (cellsAt r30.1 0) 0).bind fun i31 =>
  (callS run_laws_heldByteS [.one (c17), .one (Cell.int 1)] r30.2).bind fun r32 =>
  cond (shapeOk rk_laws_heldByteS r32)
  ((cI .i64 (cellsAt r32 0) 0).bind fun i33 =>
  cond (decide (i33 < 0))
  (some ([.one (Cell.bool false)], r30.2))
  (cond (i33 != i31)
  (some ([.one (Cell.bool false)], r30.2))
  ((callF run_laws_toMade [.agg [Cell.str s1, c2, Cell.str s3]] r30.2).bind fun r34 =>
  cond (shapeOk rk_laws_toMade r34.1)
  ((cS (cellsAt r34.1 0) 0).bind fun s35 =>
  (cC (cellsAt r34.1 0) 1).bind fun c36 =>
  (cS (cellsAt r34.1 0) 2).bind fun s37 =>
  (callF run_impl_PutMade [.agg [Cell.str s35, c36, Cell.str s37]] r34.2).bind fun r38 =>
  cond (shapeOk rk_impl_PutMade r38.1)
  ((cC (cellsAt r38.1 0) 0).bind fun c39 =>
  (callS run_laws_eqByteS [.one (c39), .one (c11)] r38.2).bind fun r40 =>
  cond (shapeOk rk_laws_eqByteS r40)
  ((cB (cellsAt r40 0) 0).bind fun b41 =>
  cond (!b41)
  (some ([.one (Cell.bool false)], r38.2))
  ((callS run_laws_heldByteS [.one (c17), .one (Cell.int 1)] r38.2).bind fun r42 =>
  cond (shapeOk rk_laws_heldByteS r42)
  ((cI .i64 (cellsAt r42 0) 0).bind fun i43 =>
  cond (decide (i43 < 0))
  (some ([.one (Cell.bool false)], r38.2))
  (cond (i43 != i31)
  (some ([.one (Cell.bool false)], r38.2))
  (some ([.one (Cell.bool true)], r38.2))))
  none))
  none)
  none)
  none)))
  none)
  none))
  none))
  none))
  none)
  none))
  none)
  none)
  none)
  none)
  none))
  none
theorem laws_FnExactPutMade_code (k m : Nat) (s1 : ByteArray) (c2 : Cell) (s3 : ByteArray) : evC G_laws_FnExactPutMade fi_laws_FnExactPutMade (evF G_laws_FnExactPutMade (k + 1)) m fi_laws_FnExactPutMade.code none (retK G_laws_FnExactPutMade fi_laws_FnExactPutMade) (enter fi_laws_FnExactPutMade [.agg [Cell.str s1, c2, Cell.str s3]] []) = laws_FnExactPutMade (k + 1) m s1 c2 s3 := by
  kernel_rfl
theorem laws_FnExactPutMade_eq (k : Nat) (s1 : ByteArray) (c2 : Cell) (s3 : ByteArray) : evF G_laws_FnExactPutMade (k + 2) fid_laws_FnExactPutMade [.agg [Cell.str s1, c2, Cell.str s3]] [] = laws_FnExactPutMade (k + 1) (k + 1) s1 c2 s3 :=
  Eq.trans (by kernel_rfl) (laws_FnExactPutMade_code k (k + 1) s1 c2 s3)
theorem run_laws_FnExactPutMade_of {s1 : ByteArray} {c2 : Cell} {s3 : ByteArray} {r : Res} (k : Nat) (h : laws_FnExactPutMade (k + 1) (k + 1) s1 c2 s3 = some r) : run_laws_FnExactPutMade [.agg [Cell.str s1, c2, Cell.str s3]] [] = some r := lim_of ((laws_FnExactPutMade_eq k s1 c2 s3).trans h)
end Go.Ev
