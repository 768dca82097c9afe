/- What the evaluator says of the functions, each as a Lean function over cells. Printed by a program of this claim. Conditions: none. -/
import Derived.Test.YtiocamjonchabaaSh1
import Derived.KernelRfl
namespace Go.Ev
open Go Go.Proofs
set_option maxRecDepth 100000
set_option linter.unusedVariables false
set_option linter.unusedSimpArgs false
noncomputable def pl_impl_WantOf : List (Nat × Run) := [(fid_impl_Sorted, run_impl_Sorted), (fid_impl_cmdAt, run_impl_cmdAt), (fid_impl_TaskName, run_impl_TaskName)]
noncomputable def G_impl_WantOf : Ctx := ctx tyTab fiTab pl_impl_WantOf
noncomputable def run_impl_WantOf : Run := lim G_impl_WantOf fid_impl_WantOf
theorem ok_impl_WantOf : FnOk Try.prog OkT fid_impl_WantOf run_impl_WantOf := lim_ok (l := pl_impl_WantOf) Try_mix tyTab_ok fiTab_ok okT (.cons ok_impl_Sorted (.cons ok_impl_cmdAt (.cons ok_impl_TaskName .nil))) fid_impl_WantOf
noncomputable def impl_WantOf_l0 (k m : Nat) : Nat → Cell → ByteArray → Cell → Cell → Int → Int → List Entry → Option Res
  | 0, _, _, _, _, _, _, _ => none
  | n + 1, c5, s6, c7, c8, i9, i10, H11 =>
    cond (decide (i10 < i9))
    ((idxA 1 (c8) i10).bind fun c12 =>
    (deref H11 (c12)).bind fun p13 =>
    (cS p13.1 p13.2).bind fun s14 =>
    (callL run_impl_cmdAt [.one (c5), .one (Cell.str s14), .one (Cell.str s6)] H11).bind fun r15 =>
    cond (shapeOk rk_impl_cmdAt r15.1)
    ((cS (cellsAt r15.1 0) 0).bind fun s16 =>
    (cC (cellsAt r15.1 0) 1).bind fun c17 =>
    (cB (cellsAt r15.1 1) 0).bind fun b18 =>
    cond b18
    ((callS run_impl_TaskName [.one (Cell.str s14), .one (Cell.str s6)] r15.2).bind fun r19 =>
    cond (shapeOk rk_impl_TaskName r19)
    ((cS (cellsAt r19 0) 0).bind fun s20 =>
    (app r15.2 1 16 (c7) [[Cell.str s20]]).bind fun p21 =>
    impl_WantOf_l0 k m n (c5) s6 (p21.1) (c8) i9 (IntKind.i64.wrap (i10 + 1)) p21.2)
    none)
    (impl_WantOf_l0 k m n (c5) s6 (c7) (c8) i9 (IntKind.i64.wrap (i10 + 1)) r15.2))
    none)
    ((callF run_impl_Sorted [.one (c7)] H11).bind fun r22 =>
    cond (shapeOk rk_impl_Sorted r22.1)
    ((cC (cellsAt r22.1 0) 0).bind fun c23 =>
    some ([.one (c23)], r22.2))
    none)
noncomputable def impl_WantOf (k m : Nat) (c1 : Cell) (c2 : Cell) (s3 : ByteArray) : Option Res :=
  (lenC c2).bind fun n4 =>
  impl_WantOf_l0 k m m (c1) s3 (.lst true 1 []) (c2) (n4 : Int) 0 []
noncomputable abbrev impl_WantOf_l0_B (k m : Nat) : (Ex → Fr → Option Res) → Fr → Option Res := evC G_impl_WantOf fi_impl_WantOf (evF G_impl_WantOf (k + 1)) m (sub [1, 1, 0, 1, 2, 3] fi_impl_WantOf.code) none
noncomputable abbrev impl_WantOf_l0_K (k m : Nat) : Ex → Fr → Option Res := blockK 0 (seqK (evC G_impl_WantOf fi_impl_WantOf (evF G_impl_WantOf (k + 1)) m (sub [1, 1, 1] fi_impl_WantOf.code) none) (retK G_impl_WantOf fi_impl_WantOf))
theorem impl_WantOf_l0_eq (k m : Nat) : ∀ (n : Nat) (c5 : Cell) (s6 : ByteArray) (c7 : Cell) (c8 : Cell) (i9 : Int) (i10 : Int) (H11 : List Entry), loopK (some [0, 2, 7, 12, 13, 14]) (impl_WantOf_l0_B k m) (impl_WantOf_l0_K k m) n ⟨fT 35 0 [(0, .av (.one (c5))), (2, .av (.one (Cell.str s6))), (7, .av (.one (c7))), (12, .av (.one (c8))), (13, .av (.one (Cell.int i9))), (14, .av (.one (Cell.int i10)))], fX 35 0 [], H11⟩ = impl_WantOf_l0 (k + 1) m n c5 s6 c7 c8 i9 i10 H11 := by
  intro n
  induction n with
  | zero => intros; rfl
  | succ n ih =>
    intros
    simp only [impl_WantOf_l0, ← ih]
    kernel_rfl
theorem impl_WantOf_code (k m : Nat) (c1 : Cell) (c2 : Cell) (s3 : ByteArray) : evC G_impl_WantOf fi_impl_WantOf (evF G_impl_WantOf (k + 1)) m fi_impl_WantOf.code none (retK G_impl_WantOf fi_impl_WantOf) (enter fi_impl_WantOf [.one (c1), .one (c2), .one (Cell.str s3)] []) = impl_WantOf (k + 1) m c1 c2 s3 := by
  simp only [impl_WantOf, ← impl_WantOf_l0_eq k m]
  kernel_rfl
theorem impl_WantOf_eq (k : Nat) (c1 : Cell) (c2 : Cell) (s3 : ByteArray) : evF G_impl_WantOf (k + 2) fid_impl_WantOf [.one (c1), .one (c2), .one (Cell.str s3)] [] = impl_WantOf (k + 1) (k + 1) c1 c2 s3 :=
  Eq.trans (by kernel_rfl) (impl_WantOf_code k (k + 1) c1 c2 s3)
theorem run_impl_WantOf_of {c1 : Cell} {c2 : Cell} {s3 : ByteArray} {r : Res} (k : Nat) (h : impl_WantOf (k + 1) (k + 1) c1 c2 s3 = some r) : run_impl_WantOf [.one (c1), .one (c2), .one (Cell.str s3)] [] = some r := lim_of ((impl_WantOf_eq k c1 c2 s3).trans h)
noncomputable def pl_laws_FnExactWantOf : List (Nat × Run) := [(fid_laws_szPackS, run_laws_szPackS), (fid_laws_toPackS, run_laws_toPackS), (fid_laws_eqStringS, run_laws_eqStringS), (fid_laws_eqPackS, run_laws_eqPackS), (fid_laws_markPackS, run_laws_markPackS), (fid_laws_markStringS, run_laws_markStringS), (fid_laws_heldStringS, run_laws_heldStringS), (fid_laws_szStringS, run_laws_szStringS), (fid_spec_WantOf, run_spec_WantOf), (fid_laws_toStringS, run_laws_toStringS), (fid_impl_WantOf, run_impl_WantOf)]
noncomputable def G_laws_FnExactWantOf : Ctx := ctx tyTab fiTab pl_laws_FnExactWantOf
noncomputable def run_laws_FnExactWantOf : Run := lim G_laws_FnExactWantOf fid_laws_FnExactWantOf
theorem ok_laws_FnExactWantOf : FnOk Try.prog OkT fid_laws_FnExactWantOf run_laws_FnExactWantOf := lim_ok (l := pl_laws_FnExactWantOf) Try_mix tyTab_ok fiTab_ok okT (.cons ok_laws_szPackS (.cons ok_laws_toPackS (.cons ok_laws_eqStringS (.cons ok_laws_eqPackS (.cons ok_laws_markPackS (.cons ok_laws_markStringS (.cons ok_laws_heldStringS (.cons ok_laws_szStringS (.cons ok_spec_WantOf (.cons ok_laws_toStringS (.cons ok_impl_WantOf .nil))))))))))) fid_laws_FnExactWantOf
noncomputable def laws_FnExactWantOf (k m : Nat) (c1 : Cell) (c2 : Cell) (s3 : ByteArray) : Option Res :=
  cond (decide ((s3.size : Int) > 1048576))
  (some ([.one (Cell.bool true)], []))
  ((callS run_laws_szPackS [.one (c1), .one (Cell.int 1048576)] []).bind fun r4 =>
  cond (shapeOk rk_laws_szPackS r4)
  ((cI .i64 (cellsAt r4 0) 0).bind fun i5 =>
  cond (decide (i5 < 0))
  (some ([.one (Cell.bool true)], []))
  ((callS run_laws_szStringS [.one (c2), .one (Cell.int i5)] []).bind fun r6 =>
  cond (shapeOk rk_laws_szStringS r6)
  ((cI .i64 (cellsAt r6 0) 0).bind fun i7 =>
  cond (decide (i7 < 0))
  (some ([.one (Cell.bool true)], []))
  ((callF run_laws_toPackS [.one (c1)] []).bind fun r8 =>
  cond (shapeOk rk_laws_toPackS r8.1)
  ((cC (cellsAt r8.1 0) 0).bind fun c9 =>
  (callF run_laws_toStringS [.one (c2)] r8.2).bind fun r10 =>
  cond (shapeOk rk_laws_toStringS r10.1)
  ((cC (cellsAt r10.1 0) 0).bind fun c11 =>
  (callL run_spec_WantOf [.one (c9), .one (c11), .one (Cell.str s3)] r10.2).bind fun r12 =>
  cond (shapeOk rk_spec_WantOf r12.1)
  ((cC (cellsAt r12.1 0) 0).bind fun c13 =>
  (callF run_laws_toPackS [.one (c1)] r12.2).bind fun r14 =>
  cond (shapeOk rk_laws_toPackS r14.1)
  ((cC (cellsAt r14.1 0) 0).bind fun c15 =>
  (callF run_laws_toStringS [.one (c2)] r14.2).bind fun r16 =>
  cond (shapeOk rk_laws_toStringS r16.1)
  ((cC (cellsAt r16.1 0) 0).bind fun c17 =>
  (callF run_impl_WantOf [.one (c15), .one (c17), .one (Cell.str s3)] r16.2).bind fun r18 =>
  cond (shapeOk rk_impl_WantOf r18.1)
  ((cC (cellsAt r18.1 0) 0).bind fun c19 =>
  (callS run_laws_eqStringS [.one (c19), .one (c13)] r18.2).bind fun r20 =>
  cond (shapeOk rk_laws_eqStringS r20)
  ((cB (cellsAt r20 0) 0).bind fun b21 =>
  cond (!b21)
  (some ([.one (Cell.bool false)], r18.2))
  ((callF run_laws_toPackS [.one (c1)] r18.2).bind fun r22 =>
  cond (shapeOk rk_laws_toPackS r22.1)
  ((cC (cellsAt r22.1 0) 0).bind fun c23 =>
  (callS run_laws_eqPackS [.one (c15), .one (c23)] r22.2).bind fun r24 =>
  cond (shapeOk rk_laws_eqPackS r24)
  ((cB (cellsAt r24 0) 0).bind fun b25 =>
  cond (!b25)
  (some ([.one (Cell.bool false)], r22.2))
  ((callF run_laws_toStringS [.one (c2)] r22.2).bind fun r26 =>
  cond (shapeOk rk_laws_toStringS r26.1)
  ((cC (cellsAt r26.1 0) 0).bind fun c27 =>
  (callS run_laws_eqStringS [.one (c17), .one (c27)] r26.2).bind fun r28 =>
  cond (shapeOk rk_laws_eqStringS r28)
  ((cB (cellsAt r28 0) 0).bind fun b29 =>
  cond (!b29)
  (some ([.one (Cell.bool false)], r26.2))
  ((run_laws_markPackS [.one (c15), .one (Cell.int 1)] r26.2).bind fun r30 =>
  cond (shapeOk rk_laws_markPackS r30.1)
  ((cI .i64 (cellsAt r30.1 0) 0).bind fun i31 =>
  (run_laws_markStringS [.one (c17), .one (Cell.int i31)] r30.2).bind fun r32 =>
  cond (shapeOk rk_laws_markStringS r32.1)
  ((cI .i64 (cellsAt r32.1 0) 0).bind fun i33 =>
  cond (decide (i33 < 0))
  (some ([.one (Cell.bool false)], r32.2))
  ((callS run_laws_eqStringS [.one (c19), .one (c13)] r32.2).bind fun r34 =>
  cond (shapeOk rk_laws_eqStringS r34)
  ((cB (cellsAt r34 0) 0).bind fun b35 =>
  cond (!b35)
  (some ([.one (Cell.bool false)], r32.2))
  ((run_laws_markStringS [.one (c19), .one (Cell.int 1)] r32.2).bind fun r36 =>
  cond (shapeOk rk_laws_markStringS r36.1)
  ((cI .i64 (cellsAt r36.1 0) 0).bind fun i37 =>
  (callS run_laws_heldStringS [.one (c19), .one (Cell.int 1)] r36.2).bind fun r38 =>
  cond (shapeOk rk_laws_heldStringS r38)
  ((cI .i64 (cellsAt r38 0) 0).bind fun i39 =>
  cond (decide (i39 < 0))
  (some ([.one (Cell.bool false)], r36.2))
  (cond (i39 != i37)
  (some ([.one (Cell.bool false)], r36.2))
  ((callF run_laws_toPackS [.one (c1)] r36.2).bind fun r40 =>
  cond (shapeOk rk_laws_toPackS r40.1)
  ((cC (cellsAt r40.1 0) 0).bind fun c41 =>
  (callF run_laws_toStringS [.one (c2)] r40.2).bind fun r42 =>
  cond (shapeOk rk_laws_toStringS r42.1)
  ((cC (cellsAt r42.1 0) 0).bind fun c43 =>
  (callF run_impl_WantOf [.one (c41), .one (c43), .one (Cell.str s3)] r42.2).bind fun r44 =>
  cond (shapeOk rk_impl_WantOf r44.1)
  ((cC (cellsAt r44.1 0) 0).bind fun c45 =>
  (callS run_laws_eqStringS [.one (c45), .one (c13)] r44.2).bind fun r46 =>
  cond (shapeOk rk_laws_eqStringS r46)
  ((cB (cellsAt r46 0) 0).bind fun b47 =>
  cond (!b47)
  (some ([.one (Cell.bool false)], r44.2))
  ((callS run_laws_heldStringS [.one (c19), .one (Cell.int 1)] r44.2).bind fun r48 =>
  cond (shapeOk rk_laws_heldStringS r48)
  ((cI .i64 (cellsAt r48 0) 0).bind fun i49 =>
  cond (decide (i49 < 0))
  (some ([.one (Cell.bool false)], r44.2))
  (cond (i49 != i37)
  (some ([.one (Cell.bool false)], r44.2))
  (some ([.one (Cell.bool true)], r44.2))))
  none))
  none)
  none)
  none)
  none)))
  none)
  none))
  none))
  none)
  none))
  none)
  none))
  none)
  none))
  none)
  none)
  none)
  none)
  none)
  none)
  none))
  none))
  none)
theorem laws_FnExactWantOf_code (k m : Nat) (c1 : Cell) (c2 : Cell) (s3 : ByteArray) : evC G_laws_FnExactWantOf fi_laws_FnExactWantOf (evF G_laws_FnExactWantOf (k + 1)) m fi_laws_FnExactWantOf.code none (retK G_laws_FnExactWantOf fi_laws_FnExactWantOf) (enter fi_laws_FnExactWantOf [.one (c1), .one (c2), .one (Cell.str s3)] []) = laws_FnExactWantOf (k + 1) m c1 c2 s3 := by
  kernel_rfl
theorem laws_FnExactWantOf_eq (k : Nat) (c1 : Cell) (c2 : Cell) (s3 : ByteArray) : evF G_laws_FnExactWantOf (k + 2) fid_laws_FnExactWantOf [.one (c1), .one (c2), .one (Cell.str s3)] [] = laws_FnExactWantOf (k + 1) (k + 1) c1 c2 s3 :=
  Eq.trans (by kernel_rfl) (laws_FnExactWantOf_code k (k + 1) c1 c2 s3)
theorem run_laws_FnExactWantOf_of {c1 : Cell} {c2 : Cell} {s3 : ByteArray} {r : Res} (k : Nat) (h : laws_FnExactWantOf (k + 1) (k + 1) c1 c2 s3 = some r) : run_laws_FnExactWantOf [.one (c1), .one (c2), .one (Cell.str s3)] [] = some r := lim_of ((laws_FnExactWantOf_eq k c1 c2 s3).trans h)
end Go.Ev
