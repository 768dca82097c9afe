/- What the evaluator says of the functions, each as a Lean function over cells. Printed by a program of this claim. Conditions: none. -/
import Derived.Test.YtiocamjonchabaaDoorSh1
import Derived.KernelRfl
namespace Go.Ev
open Go Go.Proofs
set_option maxRecDepth 100000
set_option linter.unusedVariables false
set_option linter.unusedSimpArgs false
noncomputable def pl_laws_markEnvS : List (Nat × Run) := [(fid_laws_markText, run_laws_markText)]
noncomputable def G_laws_markEnvS : Ctx := ctx tyTab fiTab pl_laws_markEnvS
noncomputable def run_laws_markEnvS : Run := lim G_laws_markEnvS fid_laws_markEnvS
theorem ok_laws_markEnvS : FnOk Tryd.prog OkT fid_laws_markEnvS run_laws_markEnvS := lim_ok (l := pl_laws_markEnvS) Tryd_mix tyTab_ok fiTab_ok okT (.cons ok_laws_markText .nil) fid_laws_markEnvS
noncomputable def laws_markEnvS_l0 (k m : Nat) : Nat → Cell → Int → Int → List Entry → Option Res
  | 0, _, _, _, _ => none
  | n + 1, c3, i4, i5, H6 =>
    (lenC c3).bind fun n7 =>
    cond (decide (i5 < (n7 : Int)))
    ((callS run_laws_markText [.one (Cell.int i4)] H6).bind fun r8 =>
    cond (shapeOk rk_laws_markText r8)
    ((cS (cellsAt r8 0) 0).bind fun s9 =>
    (idxA 2 (c3) i5).bind fun c10 =>
    (fldA c10 0).bind fun c11 =>
    (hStore H6 (c11) [Cell.str s9]).bind fun h12 =>
    (callS run_laws_markText [.one (Cell.int (IntKind.i64.wrap (i4 + 1)))] h12).bind fun r13 =>
    cond (shapeOk rk_laws_markText r13)
    ((cS (cellsAt r13 0) 0).bind fun s14 =>
    (idxA 2 (c3) i5).bind fun c15 =>
    (fldA c15 1).bind fun c16 =>
    (hStore h12 (c16) [Cell.str s14]).bind fun h17 =>
    laws_markEnvS_l0 k m n (c3) (IntKind.i64.wrap ((IntKind.i64.wrap (i4 + 1)) + 1)) (IntKind.i64.wrap (i5 + 1)) h17)
    none)
    none)
    (some ([.one (Cell.int i4)], H6))
noncomputable def laws_markEnvS (k m : Nat) (c1 : Cell) (i2 : Int) (H : List Entry) : Option Res :=
  laws_markEnvS_l0 k m m (c1) i2 0 H
noncomputable abbrev laws_markEnvS_l0_B (k m : Nat) : (Ex → Fr → Option Res) → Fr → Option Res := evC G_laws_markEnvS fi_laws_markEnvS (evF G_laws_markEnvS (k + 1)) m (sub [1, 0, 1, 2, 3] fi_laws_markEnvS.code) none
noncomputable abbrev laws_markEnvS_l0_K (k m : Nat) : Ex → Fr → Option Res := blockK 0 (seqK (evC G_laws_markEnvS fi_laws_markEnvS (evF G_laws_markEnvS (k + 1)) m (sub [1, 1] fi_laws_markEnvS.code) none) (retK G_laws_markEnvS fi_laws_markEnvS))
theorem laws_markEnvS_l0_eq (k m : Nat) : ∀ (n : Nat) (c3 : Cell) (i4 : Int) (i5 : Int) (H6 : List Entry), loopK (some [0, 1, 5]) (laws_markEnvS_l0_B k m) (laws_markEnvS_l0_K k m) n ⟨fT 29 0 [(0, .av (.one (c3))), (1, .av (.one (Cell.int i4))), (5, .av (.one (Cell.int i5)))], fX 29 0 [], H6⟩ = laws_markEnvS_l0 (k + 1) m n c3 i4 i5 H6 := by
  intro n
  induction n with
  | zero => intros; rfl
  | succ n ih =>
    intros
    simp only [laws_markEnvS_l0, ← ih]
    kernel_rfl
theorem laws_markEnvS_code (k m : Nat) (c1 : Cell) (i2 : Int) (H : List Entry) : evC G_laws_markEnvS fi_laws_markEnvS (evF G_laws_markEnvS (k + 1)) m fi_laws_markEnvS.code none (retK G_laws_markEnvS fi_laws_markEnvS) (enter fi_laws_markEnvS [.one (c1), .one (Cell.int i2)] H) = laws_markEnvS (k + 1) m c1 i2 H := by
  simp only [laws_markEnvS, ← laws_markEnvS_l0_eq k m]
  kernel_rfl
theorem laws_markEnvS_eq (k : Nat) (c1 : Cell) (i2 : Int) (H : List Entry) : evF G_laws_markEnvS (k + 2) fid_laws_markEnvS [.one (c1), .one (Cell.int i2)] H = laws_markEnvS (k + 1) (k + 1) c1 i2 H :=
  Eq.trans (by kernel_rfl) (laws_markEnvS_code k (k + 1) c1 i2 H)
theorem run_laws_markEnvS_of {c1 : Cell} {i2 : Int} {H : List Entry} {r : Res} (k : Nat) (h : laws_markEnvS (k + 1) (k + 1) c1 i2 H = some r) : run_laws_markEnvS [.one (c1), .one (Cell.int i2)] H = some r := lim_of ((laws_markEnvS_eq k c1 i2 H).trans h)
noncomputable def pl_laws_markMadeS : List (Nat × Run) := [(fid_laws_markFileS, run_laws_markFileS), (fid_laws_markText, run_laws_markText)]
noncomputable def G_laws_markMadeS : Ctx := ctx tyTab fiTab pl_laws_markMadeS
noncomputable def run_laws_markMadeS : Run := lim G_laws_markMadeS fid_laws_markMadeS
theorem ok_laws_markMadeS : FnOk Tryd.prog OkT fid_laws_markMadeS run_laws_markMadeS := lim_ok (l := pl_laws_markMadeS) Tryd_mix tyTab_ok fiTab_ok okT (.cons ok_laws_markFileS (.cons ok_laws_markText .nil)) fid_laws_markMadeS
noncomputable def laws_markMadeS_l0 (k m : Nat) : Nat → Cell → Int → Int → List Entry → Option Res
  | 0, _, _, _, _ => none
  | n + 1, c3, i4, i5, H6 =>
    (lenC c3).bind fun n7 =>
    cond (decide (i5 < (n7 : Int)))
    ((callS run_laws_markText [.one (Cell.int i4)] H6).bind fun r8 =>
    cond (shapeOk rk_laws_markText r8)
    ((cS (cellsAt r8 0) 0).bind fun s9 =>
    (idxA 3 (c3) i5).bind fun c10 =>
    (fldA c10 0).bind fun c11 =>
    (hStore H6 (c11) [Cell.str s9]).bind fun h12 =>
    (idxA 3 (c3) i5).bind fun c13 =>
    (fldA c13 1).bind fun c14 =>
    (deref h12 (c14)).bind fun p15 =>
    (cC p15.1 p15.2).bind fun c16 =>
    (run_laws_markFileS [.one (c16), .one (Cell.int (IntKind.i64.wrap (i4 + 1)))] h12).bind fun r17 =>
    cond (shapeOk rk_laws_markFileS r17.1)
    ((cI .i64 (cellsAt r17.1 0) 0).bind fun i18 =>
    (callS run_laws_markText [.one (Cell.int i18)] r17.2).bind fun r19 =>
    cond (shapeOk rk_laws_markText r19)
    ((cS (cellsAt r19 0) 0).bind fun s20 =>
    (idxA 3 (c3) i5).bind fun c21 =>
    (fldA c21 2).bind fun c22 =>
    (hStore r17.2 (c22) [Cell.str s20]).bind fun h23 =>
    laws_markMadeS_l0 k m n (c3) (IntKind.i64.wrap (i18 + 1)) (IntKind.i64.wrap (i5 + 1)) h23)
    none)
    none)
    none)
    (some ([.one (Cell.int i4)], H6))
noncomputable def laws_markMadeS (k m : Nat) (c1 : Cell) (i2 : Int) (H : List Entry) : Option Res :=
  laws_markMadeS_l0 k m m (c1) i2 0 H
noncomputable abbrev laws_markMadeS_l0_B (k m : Nat) : (Ex → Fr → Option Res) → Fr → Option Res := evC G_laws_markMadeS fi_laws_markMadeS (evF G_laws_markMadeS (k + 1)) m (sub [1, 0, 1, 2, 3] fi_laws_markMadeS.code) none
noncomputable abbrev laws_markMadeS_l0_K (k m : Nat) : Ex → Fr → Option Res := blockK 0 (seqK (evC G_laws_markMadeS fi_laws_markMadeS (evF G_laws_markMadeS (k + 1)) m (sub [1, 1] fi_laws_markMadeS.code) none) (retK G_laws_markMadeS fi_laws_markMadeS))
theorem laws_markMadeS_l0_eq (k m : Nat) : ∀ (n : Nat) (c3 : Cell) (i4 : Int) (i5 : Int) (H6 : List Entry), loopK (some [0, 1, 5]) (laws_markMadeS_l0_B k m) (laws_markMadeS_l0_K k m) n ⟨fT 36 0 [(0, .av (.one (c3))), (1, .av (.one (Cell.int i4))), (5, .av (.one (Cell.int i5)))], fX 36 0 [], H6⟩ = laws_markMadeS_l0 (k + 1) m n c3 i4 i5 H6 := by
  intro n
  induction n with
  | zero => intros; rfl
  | succ n ih =>
    intros
    simp only [laws_markMadeS_l0, ← ih]
    kernel_rfl
theorem laws_markMadeS_code (k m : Nat) (c1 : Cell) (i2 : Int) (H : List Entry) : evC G_laws_markMadeS fi_laws_markMadeS (evF G_laws_markMadeS (k + 1)) m fi_laws_markMadeS.code none (retK G_laws_markMadeS fi_laws_markMadeS) (enter fi_laws_markMadeS [.one (c1), .one (Cell.int i2)] H) = laws_markMadeS (k + 1) m c1 i2 H := by
  simp only [laws_markMadeS, ← laws_markMadeS_l0_eq k m]
  kernel_rfl
theorem laws_markMadeS_eq (k : Nat) (c1 : Cell) (i2 : Int) (H : List Entry) : evF G_laws_markMadeS (k + 2) fid_laws_markMadeS [.one (c1), .one (Cell.int i2)] H = laws_markMadeS (k + 1) (k + 1) c1 i2 H :=
  Eq.trans (by kernel_rfl) (laws_markMadeS_code k (k + 1) c1 i2 H)
theorem run_laws_markMadeS_of {c1 : Cell} {i2 : Int} {H : List Entry} {r : Res} (k : Nat) (h : laws_markMadeS (k + 1) (k + 1) c1 i2 H = some r) : run_laws_markMadeS [.one (c1), .one (Cell.int i2)] H = some r := lim_of ((laws_markMadeS_eq k c1 i2 H).trans h)
noncomputable def pl_laws_markJob : List (Nat × Run) := [(fid_laws_markFileS, run_laws_markFileS), (fid_laws_markStringS, run_laws_markStringS), (fid_laws_markEnvS, run_laws_markEnvS), (fid_laws_markMadeS, run_laws_markMadeS)]
noncomputable def G_laws_markJob : Ctx := ctx tyTab fiTab pl_laws_markJob
noncomputable def run_laws_markJob : Run := lim G_laws_markJob fid_laws_markJob
theorem ok_laws_markJob : FnOk Tryd.prog OkT fid_laws_markJob run_laws_markJob := lim_ok (l := pl_laws_markJob) Tryd_mix tyTab_ok fiTab_ok okT (.cons ok_laws_markFileS (.cons ok_laws_markStringS (.cons ok_laws_markEnvS (.cons ok_laws_markMadeS .nil)))) fid_laws_markJob
noncomputable def laws_markJob (k m : Nat) (s1 : ByteArray) (c2 : Cell) (c3 : Cell) (c4 : Cell) (c5 : Cell) (i6 : Int) (H : List Entry) : Option Res :=
  (run_laws_markStringS [.one (c2), .one (Cell.int i6)] H).bind fun r7 =>
  cond (shapeOk rk_laws_markStringS r7.1)
  ((cI .i64 (cellsAt r7.1 0) 0).bind fun i8 =>
  (run_laws_markFileS [.one (c3), .one (Cell.int i8)] r7.2).bind fun r9 =>
  cond (shapeOk rk_laws_markFileS r9.1)
  ((cI .i64 (cellsAt r9.1 0) 0).bind fun i10 =>
  (run_laws_markEnvS [.one (c4), .one (Cell.int i10)] r9.2).bind fun r11 =>
  cond (shapeOk rk_laws_markEnvS r11.1)
  ((cI .i64 (cellsAt r11.1 0) 0).bind fun i12 =>
  (run_laws_markMadeS [.one (c5), .one (Cell.int i12)] r11.2).bind fun r13 =>
  cond (shapeOk rk_laws_markMadeS r13.1)
  ((cI .i64 (cellsAt r13.1 0) 0).bind fun i14 =>
  some ([.one (Cell.int i14)], r13.2))
  none)
  none)
  none)
  none
theorem laws_markJob_code (k m : Nat) (s1 : ByteArray) (c2 : Cell) (c3 : Cell) (c4 : Cell) (c5 : Cell) (i6 : Int) (H : List Entry) : evC G_laws_markJob fi_laws_markJob (evF G_laws_markJob (k + 1)) m fi_laws_markJob.code none (retK G_laws_markJob fi_laws_markJob) (enter fi_laws_markJob [.agg [Cell.str s1, c2, c3, c4, c5], .one (Cell.int i6)] H) = laws_markJob (k + 1) m s1 c2 c3 c4 c5 i6 H := by
  kernel_rfl
theorem laws_markJob_eq (k : Nat) (s1 : ByteArray) (c2 : Cell) (c3 : Cell) (c4 : Cell) (c5 : Cell) (i6 : Int) (H : List Entry) : evF G_laws_markJob (k + 2) fid_laws_markJob [.agg [Cell.str s1, c2, c3, c4, c5], .one (Cell.int i6)] H = laws_markJob (k + 1) (k + 1) s1 c2 c3 c4 c5 i6 H :=
  Eq.trans (by kernel_rfl) (laws_markJob_code k (k + 1) s1 c2 c3 c4 c5 i6 H)
theorem run_laws_markJob_of {s1 : ByteArray} {c2 : Cell} {c3 : Cell} {c4 : Cell} {c5 : Cell} {i6 : Int} {H : List Entry} {r : Res} (k : Nat) (h : laws_markJob (k + 1) (k + 1) s1 c2 c3 c4 c5 i6 H = some r) : run_laws_markJob [.agg [Cell.str s1, c2, c3, c4, c5], .one (Cell.int i6)] H = some r := lim_of ((laws_markJob_eq k s1 c2 c3 c4 c5 i6 H).trans h)
noncomputable def pl_laws_FnExactKeyOf : List (Nat × Run) := [(fid_laws_eqByteS, run_laws_eqByteS), (fid_laws_markByteS, run_laws_markByteS), (fid_laws_heldByteS, run_laws_heldByteS), (fid_laws_szJob, run_laws_szJob), (fid_spec_KeyOf, run_spec_KeyOf), (fid_laws_toJob, run_laws_toJob), (fid_impl_KeyOf, run_impl_KeyOf), (fid_laws_eqJob, run_laws_eqJob), (fid_laws_markJob, run_laws_markJob)]
noncomputable def G_laws_FnExactKeyOf : Ctx := ctx tyTab fiTab pl_laws_FnExactKeyOf
noncomputable def run_laws_FnExactKeyOf : Run := lim G_laws_FnExactKeyOf fid_laws_FnExactKeyOf
theorem ok_laws_FnExactKeyOf : FnOk Tryd.prog OkT fid_laws_FnExactKeyOf run_laws_FnExactKeyOf := lim_ok (l := pl_laws_FnExactKeyOf) Tryd_mix tyTab_ok fiTab_ok okT (.cons ok_laws_eqByteS (.cons ok_laws_markByteS (.cons ok_laws_heldByteS (.cons ok_laws_szJob (.cons ok_spec_KeyOf (.cons ok_laws_toJob (.cons ok_impl_KeyOf (.cons ok_laws_eqJob (.cons ok_laws_markJob .nil))))))))) fid_laws_FnExactKeyOf
noncomputable def laws_FnExactKeyOf (k m : Nat) (s1 : ByteArray) (c2 : Cell) (c3 : Cell) (c4 : Cell) (c5 : Cell) : Option Res :=
  (callS run_laws_szJob [.agg [Cell.str s1, c2, c3, c4, c5], .one (Cell.int 1048576)] []).bind fun r6 =>
  cond (shapeOk rk_laws_szJob r6)
  ((cI .i64 (cellsAt r6 0) 0).bind fun i7 =>
  cond (decide (i7 < 0))
  (some ([.one (Cell.bool true)], []))
  ((callF run_laws_toJob [.agg [Cell.str s1, c2, c3, c4, c5]] []).bind fun r8 =>
  cond (shapeOk rk_laws_toJob r8.1)
  ((cS (cellsAt r8.1 0) 0).bind fun s9 =>
  (cC (cellsAt r8.1 0) 1).bind fun c10 =>
  (cC (cellsAt r8.1 0) 2).bind fun c11 =>
  (cC (cellsAt r8.1 0) 3).bind fun c12 =>
  (cC (cellsAt r8.1 0) 4).bind fun c13 =>
  (callL run_spec_KeyOf [.agg [Cell.str s9, c10, c11, c12, c13]] r8.2).bind fun r14 =>
  cond (shapeOk rk_spec_KeyOf r14.1)
  ((cC (cellsAt r14.1 0) 0).bind fun c15 =>
  (callF run_laws_toJob [.agg [Cell.str s1, c2, c3, c4, c5]] r14.2).bind fun r16 =>
  cond (shapeOk rk_laws_toJob r16.1)
  ((cS (cellsAt r16.1 0) 0).bind fun s17 =>
  (cC (cellsAt r16.1 0) 1).bind fun c18 =>
  (cC (cellsAt r16.1 0) 2).bind fun c19 =>
  (cC (cellsAt r16.1 0) 3).bind fun c20 =>
  (cC (cellsAt r16.1 0) 4).bind fun c21 =>
  (callF run_impl_KeyOf [.agg [Cell.str s17, c18, c19, c20, c21]] r16.2).bind fun r22 =>
  cond (shapeOk rk_impl_KeyOf r22.1)
  ((cC (cellsAt r22.1 0) 0).bind fun c23 =>
  (callS run_laws_eqByteS [.one (c23), .one (c15)] r22.2).bind fun r24 =>
  cond (shapeOk rk_laws_eqByteS r24)
  ((cB (cellsAt r24 0) 0).bind fun b25 =>
  cond (!b25)
  (some ([.one (Cell.bool false)], r22.2))
  ((callF run_laws_toJob [.agg [Cell.str s1, c2, c3, c4, c5]] r22.2).bind fun r26 =>
  cond (shapeOk rk_laws_toJob r26.1)
  ((cS (cellsAt r26.1 0) 0).bind fun s27 =>
  (cC (cellsAt r26.1 0) 1).bind fun c28 =>
  (cC (cellsAt r26.1 0) 2).bind fun c29 =>
  (cC (cellsAt r26.1 0) 3).bind fun c30 =>
  (cC (cellsAt r26.1 0) 4).bind fun c31 =>
  (callS run_laws_eqJob [.agg [Cell.str s17, c18, c19, c20, c21], .agg [Cell.str s27, c28, c29, c30, c31]] r26.2).bind fun r32 =>
  cond (shapeOk rk_laws_eqJob r32)
  ((cB (cellsAt r32 0) 0).bind fun b33 =>
  cond (!b33)
  (some ([.one (Cell.bool false)], r26.2))
  ((run_laws_markJob [.agg [Cell.str s17, c18, c19, c20, c21], .one (Cell.int 1)] r26.2).bind fun r34 =>
  cond (shapeOk rk_laws_markJob r34.1)
  ((cI .i64 (cellsAt r34.1 0) 0).bind fun i35 =>
  cond (decide (i35 < 0))
  (some ([.one (Cell.bool false)], r34.2))
  ((callS run_laws_eqByteS [.one (c23), .one (c15)] r34.2).bind fun r36 =>
  cond (shapeOk rk_laws_eqByteS r36)
  ((cB (cellsAt r36 0) 0).bind fun b37 =>
  cond (!b37)
  (some ([.one (Cell.bool false)], r34.2))
  ((run_laws_markByteS [.one (c23), .one (Cell.int 1)] r34.2).bind fun r38 =>
  cond (shapeOk rk_laws_markByteS r38.1)
  ((cI .i64 (cellsAt r38.1 0) 0).bind fun i39 =>
  (callS run_laws_heldByteS [.one (c23), .one (Cell.int 1)] r38.2).bind fun r40 =>
  cond (shapeOk rk_laws_heldByteS r40)
  ((cI .i64 (cellsAt r40 0) 0).bind fun i41 =>
  cond (decide (i41 < 0))
  (some ([.one (Cell.bool false)], r38.2))
  (cond (i41 != i39)
  (some ([.one (Cell.bool false)], r38.2))
  ((callF run_laws_toJob [.agg [Cell.str s1, c2, c3, c4, c5]] r38.2).bind fun r42 =>
  cond (shapeOk rk_laws_toJob r42.1)
  ((cS (cellsAt r42.1 0) 0).bind fun s43 =>
  (cC (cellsAt r42.1 0) 1).bind fun c44 =>
  (cC (cellsAt r42.1 0) 2).bind fun c45 =>
  (cC (cellsAt r42.1 0) 3).bind fun c46 =>
  (cC (cellsAt r42.1 0) 4).bind fun c47 =>
  (callF run_impl_KeyOf [.agg [Cell.str s43, c44, c45, c46, c47]] r42.2).bind fun r48 =>
  cond (shapeOk rk_impl_KeyOf r48.1)
  ((cC (cellsAt r48.1 0) 0).bind fun c49 =>
  (callS run_laws_eqByteS [.one (c49), .one (c15)] r48.2).bind fun r50 =>
  cond (shapeOk rk_laws_eqByteS r50)
  ((cB (cellsAt r50 0) 0).bind fun b51 =>
  cond (!b51)
  (some ([.one (Cell.bool false)], r48.2))
  ((callS run_laws_heldByteS [.one (c23), .one (Cell.int 1)] r48.2).bind fun r52 =>
  cond (shapeOk rk_laws_heldByteS r52)
  ((cI .i64 (cellsAt r52 0) 0).bind fun i53 =>
  cond (decide (i53 < 0))
  (some ([.one (Cell.bool false)], r48.2))
  (cond (i53 != i39)
  (some ([.one (Cell.bool false)], r48.2))
  (some ([.one (Cell.bool true)], r48.2))))
  none))
  none)
  none)
  none)))
  none)
  none))
  none))
  none))
  none)
  none))
  none)
  none)
  none)
  none)
  none))
  none
theorem laws_FnExactKeyOf_code (k m : Nat) (s1 : ByteArray) (c2 : Cell) (c3 : Cell) (c4 : Cell) (c5 : Cell) : evC G_laws_FnExactKeyOf fi_laws_FnExactKeyOf (evF G_laws_FnExactKeyOf (k + 1)) m fi_laws_FnExactKeyOf.code none (retK G_laws_FnExactKeyOf fi_laws_FnExactKeyOf) (enter fi_laws_FnExactKeyOf [.agg [Cell.str s1, c2, c3, c4, c5]] []) = laws_FnExactKeyOf (k + 1) m s1 c2 c3 c4 c5 := by
  kernel_rfl
theorem laws_FnExactKeyOf_eq (k : Nat) (s1 : ByteArray) (c2 : Cell) (c3 : Cell) (c4 : Cell) (c5 : Cell) : evF G_laws_FnExactKeyOf (k + 2) fid_laws_FnExactKeyOf [.agg [Cell.str s1, c2, c3, c4, c5]] [] = laws_FnExactKeyOf (k + 1) (k + 1) s1 c2 c3 c4 c5 :=
  Eq.trans (by kernel_rfl) (laws_FnExactKeyOf_code k (k + 1) s1 c2 c3 c4 c5)
theorem run_laws_FnExactKeyOf_of {s1 : ByteArray} {c2 : Cell} {c3 : Cell} {c4 : Cell} {c5 : Cell} {r : Res} (k : Nat) (h : laws_FnExactKeyOf (k + 1) (k + 1) s1 c2 c3 c4 c5 = some r) : run_laws_FnExactKeyOf [.agg [Cell.str s1, c2, c3, c4, c5]] [] = some r := lim_of ((laws_FnExactKeyOf_eq k s1 c2 c3 c4 c5).trans h)
end Go.Ev
