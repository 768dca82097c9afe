/- What the evaluator says of the functions, each as a Lean function over cells. Printed by a program of this claim. Conditions: none. -/
import Derived.Test.YtiocamjonchabaaSh0
import Derived.KernelRfl
namespace Go.Ev
open Go Go.Proofs
set_option maxRecDepth 100000
set_option linter.unusedVariables false
set_option linter.unusedSimpArgs false
noncomputable def pl_impl_graphOf : List (Nat × Run) := []
noncomputable def G_impl_graphOf : Ctx := ctx tyTab fiTab pl_impl_graphOf
noncomputable def run_impl_graphOf : Run := lim G_impl_graphOf fid_impl_graphOf
theorem ok_impl_graphOf : FnOk Try.prog OkT fid_impl_graphOf run_impl_graphOf := lim_ok (l := pl_impl_graphOf) Try_mix tyTab_ok fiTab_ok okT .nil fid_impl_graphOf
noncomputable def impl_graphOf_l0 (k m : Nat) : Nat → Cell → Cell → Int → Int → List Entry → Option Res
  | 0, _, _, _, _, _ => none
  | n + 1, c3, c4, i5, i6, H7 =>
    cond (decide (i6 < i5))
    ((idxA 4 (c4) i6).bind fun c8 =>
    (deref H7 (c8)).bind fun p9 =>
    (cS p9.1 p9.2).bind fun s10 =>
    (cC p9.1 (p9.2 + 1)).bind fun c11 =>
    (cC p9.1 ((p9.2 + 1) + 1)).bind fun c12 =>
    (cC p9.1 (((p9.2 + 1) + 1) + 1)).bind fun c13 =>
    (ptrC c3).bind fun c14 =>
    (fldA c14 0).bind fun c15 =>
    (deref H7 (c15)).bind fun p16 =>
    (cC p16.1 p16.2).bind fun c17 =>
    (app H7 1 16 (c17) [[Cell.str s10]]).bind fun p18 =>
    (ptrC c3).bind fun c19 =>
    (fldA c19 0).bind fun c20 =>
    (hStore p18.2 (c20) [p18.1]).bind fun h21 =>
    (ptrC c3).bind fun c22 =>
    (fldA c22 1).bind fun c23 =>
    (deref h21 (c23)).bind fun p24 =>
    (cC p24.1 p24.2).bind fun c25 =>
    restK [c11] fun d26 =>
    (srcRows h21 1 (.lst true 1 (chunks 1 1 d26))).bind fun r27 =>
    (app h21 1 24 (c25) r27).bind fun p28 =>
    (ptrC c3).bind fun c29 =>
    (fldA c29 1).bind fun c30 =>
    (hStore p28.2 (c30) [p28.1]).bind fun h31 =>
    impl_graphOf_l0 k m n (c3) (c4) i5 (IntKind.i64.wrap (i6 + 1)) h31)
    (some ([.one (c3)], H7))
noncomputable def impl_graphOf (k m : Nat) (c1 : Cell) (H : List Entry) : Option Res :=
  (lenC c1).bind fun n2 =>
  impl_graphOf_l0 k m m (.ptr H.length 2 0 0 0) (c1) (n2 : Int) 0 (H ++ [Entry.mk 2 [[.lst true 1 [], .lst true 1 []]] 0 false])
noncomputable abbrev impl_graphOf_l0_B (k m : Nat) : (Ex → Fr → Option Res) → Fr → Option Res := evC G_impl_graphOf fi_impl_graphOf (evF G_impl_graphOf (k + 1)) m (sub [1, 1, 0, 1, 2, 3] fi_impl_graphOf.code) none
noncomputable abbrev impl_graphOf_l0_K (k m : Nat) : Ex → Fr → Option Res := blockK 0 (seqK (evC G_impl_graphOf fi_impl_graphOf (evF G_impl_graphOf (k + 1)) m (sub [1, 1, 1] fi_impl_graphOf.code) none) (retK G_impl_graphOf fi_impl_graphOf))
theorem impl_graphOf_l0_eq (k m : Nat) : ∀ (n : Nat) (c3 : Cell) (c4 : Cell) (i5 : Int) (i6 : Int) (H7 : List Entry), loopK (some [3, 8, 9, 10]) (impl_graphOf_l0_B k m) (impl_graphOf_l0_K k m) n ⟨fT 38 0 [(3, .av (.one (c3))), (8, .av (.one (c4))), (9, .av (.one (Cell.int i5))), (10, .av (.one (Cell.int i6)))], fX 38 0 [], H7⟩ = impl_graphOf_l0 (k + 1) m n c3 c4 i5 i6 H7 := by
  intro n
  induction n with
  | zero => intros; rfl
  | succ n ih =>
    intros
    simp only [impl_graphOf_l0, ← ih]
    kernel_rfl
theorem impl_graphOf_code (k m : Nat) (c1 : Cell) (H : List Entry) : evC G_impl_graphOf fi_impl_graphOf (evF G_impl_graphOf (k + 1)) m fi_impl_graphOf.code none (retK G_impl_graphOf fi_impl_graphOf) (enter fi_impl_graphOf [.one (c1)] H) = impl_graphOf (k + 1) m c1 H := by
  simp only [impl_graphOf, ← impl_graphOf_l0_eq k m]
  kernel_rfl
theorem impl_graphOf_eq (k : Nat) (c1 : Cell) (H : List Entry) : evF G_impl_graphOf (k + 2) fid_impl_graphOf [.one (c1)] H = impl_graphOf (k + 1) (k + 1) c1 H :=
  Eq.trans (by kernel_rfl) (impl_graphOf_code k (k + 1) c1 H)
theorem run_impl_graphOf_of {c1 : Cell} {H : List Entry} {r : Res} (k : Nat) (h : impl_graphOf (k + 1) (k + 1) c1 H = some r) : run_impl_graphOf [.one (c1)] H = some r := lim_of ((impl_graphOf_eq k c1 H).trans h)
noncomputable def pl_slices_Index_string : List (Nat × Run) := []
noncomputable def G_slices_Index_string : Ctx := ctx tyTab fiTab pl_slices_Index_string
noncomputable def run_slices_Index_string : Run := lim G_slices_Index_string fid_slices_Index_string
theorem ok_slices_Index_string : FnOk Try.prog OkT fid_slices_Index_string run_slices_Index_string := lim_ok (l := pl_slices_Index_string) Try_mix tyTab_ok fiTab_ok okT .nil fid_slices_Index_string
noncomputable def slices_Index_string_l0 (k m : Nat) : Nat → Cell → ByteArray → Int → Int → Option Res
  | 0, _, _, _, _ => none
  | n + 1, c4, s5, i6, i7 =>
    cond (decide (i7 < i6))
    ((idxA 1 (c4) i7).bind fun c8 =>
    (deref [] (c8)).bind fun p9 =>
    (cS p9.1 p9.2).bind fun s10 =>
    cond (s5.toList == s10.toList)
    (some ([.one (Cell.int i7)], []))
    (slices_Index_string_l0 k m n (c4) s5 i6 (IntKind.i64.wrap (i7 + 1))))
    (some ([.one (Cell.int (-1))], []))
noncomputable def slices_Index_string (k m : Nat) (c1 : Cell) (s2 : ByteArray) : Option Res :=
  (lenC c1).bind fun n3 =>
  slices_Index_string_l0 k m m (c1) s2 (n3 : Int) 0
noncomputable abbrev slices_Index_string_l0_B (k m : Nat) : (Ex → Fr → Option Res) → Fr → Option Res := evC G_slices_Index_string fi_slices_Index_string (evF G_slices_Index_string (k + 1)) m (sub [1, 0, 1, 2, 3] fi_slices_Index_string.code) none
noncomputable abbrev slices_Index_string_l0_K (k m : Nat) : Ex → Fr → Option Res := blockK 0 (seqK (evC G_slices_Index_string fi_slices_Index_string (evF G_slices_Index_string (k + 1)) m (sub [1, 1] fi_slices_Index_string.code) none) (retK G_slices_Index_string fi_slices_Index_string))
theorem slices_Index_string_l0_eq (k m : Nat) : ∀ (n : Nat) (c4 : Cell) (s5 : ByteArray) (i6 : Int) (i7 : Int), loopK (some [0, 1, 7, 8]) (slices_Index_string_l0_B k m) (slices_Index_string_l0_K k m) n ⟨fT 19 0 [(0, .av (.one (c4))), (1, .av (.one (Cell.str s5))), (7, .av (.one (Cell.int i6))), (8, .av (.one (Cell.int i7)))], fX 19 0 [], []⟩ = slices_Index_string_l0 (k + 1) m n c4 s5 i6 i7 := by
  intro n
  induction n with
  | zero => intros; rfl
  | succ n ih =>
    intros
    simp only [slices_Index_string_l0, ← ih]
    kernel_rfl
theorem slices_Index_string_code (k m : Nat) (c1 : Cell) (s2 : ByteArray) : evC G_slices_Index_string fi_slices_Index_string (evF G_slices_Index_string (k + 1)) m fi_slices_Index_string.code none (retK G_slices_Index_string fi_slices_Index_string) (enter fi_slices_Index_string [.one (c1), .one (Cell.str s2)] []) = slices_Index_string (k + 1) m c1 s2 := by
  simp only [slices_Index_string, ← slices_Index_string_l0_eq k m]
  kernel_rfl
theorem slices_Index_string_eq (k : Nat) (c1 : Cell) (s2 : ByteArray) : evF G_slices_Index_string (k + 2) fid_slices_Index_string [.one (c1), .one (Cell.str s2)] [] = slices_Index_string (k + 1) (k + 1) c1 s2 :=
  Eq.trans (by kernel_rfl) (slices_Index_string_code k (k + 1) c1 s2)
theorem run_slices_Index_string_of {c1 : Cell} {s2 : ByteArray} {r : Res} (k : Nat) (h : slices_Index_string (k + 1) (k + 1) c1 s2 = some r) : run_slices_Index_string [.one (c1), .one (Cell.str s2)] [] = some r := lim_of ((slices_Index_string_eq k c1 s2).trans h)
noncomputable def pl_slices_Contains_string : List (Nat × Run) := [(fid_slices_Index_string, run_slices_Index_string)]
noncomputable def G_slices_Contains_string : Ctx := ctx tyTab fiTab pl_slices_Contains_string
noncomputable def run_slices_Contains_string : Run := lim G_slices_Contains_string fid_slices_Contains_string
theorem ok_slices_Contains_string : FnOk Try.prog OkT fid_slices_Contains_string run_slices_Contains_string := lim_ok (l := pl_slices_Contains_string) Try_mix tyTab_ok fiTab_ok okT (.cons ok_slices_Index_string .nil) fid_slices_Contains_string
noncomputable def slices_Contains_string (k m : Nat) (c1 : Cell) (s2 : ByteArray) : Option Res :=
  (callS run_slices_Index_string [.one (c1), .one (Cell.str s2)] []).bind fun r3 =>
  cond (shapeOk rk_slices_Index_string r3)
  ((cI .i64 (cellsAt r3 0) 0).bind fun i4 =>
  some ([.one (Cell.bool (decide (i4 ≥ 0)))], []))
  none
theorem slices_Contains_string_code (k m : Nat) (c1 : Cell) (s2 : ByteArray) : evC G_slices_Contains_string fi_slices_Contains_string (evF G_slices_Contains_string (k + 1)) m fi_slices_Contains_string.code none (retK G_slices_Contains_string fi_slices_Contains_string) (enter fi_slices_Contains_string [.one (c1), .one (Cell.str s2)] []) = slices_Contains_string (k + 1) m c1 s2 := by
  kernel_rfl
theorem slices_Contains_string_eq (k : Nat) (c1 : Cell) (s2 : ByteArray) : evF G_slices_Contains_string (k + 2) fid_slices_Contains_string [.one (c1), .one (Cell.str s2)] [] = slices_Contains_string (k + 1) (k + 1) c1 s2 :=
  Eq.trans (by kernel_rfl) (slices_Contains_string_code k (k + 1) c1 s2)
theorem run_slices_Contains_string_of {c1 : Cell} {s2 : ByteArray} {r : Res} (k : Nat) (h : slices_Contains_string (k + 1) (k + 1) c1 s2 = some r) : run_slices_Contains_string [.one (c1), .one (Cell.str s2)] [] = some r := lim_of ((slices_Contains_string_eq k c1 s2).trans h)
noncomputable def pl_impl_graph_onOf : List (Nat × Run) := [(fid_slices_Index_string, run_slices_Index_string)]
noncomputable def G_impl_graph_onOf : Ctx := ctx tyTab fiTab pl_impl_graph_onOf
noncomputable def run_impl_graph_onOf : Run := lim G_impl_graph_onOf fid_impl_graph_onOf
theorem ok_impl_graph_onOf : FnOk Try.prog OkT fid_impl_graph_onOf run_impl_graph_onOf := lim_ok (l := pl_impl_graph_onOf) Try_mix tyTab_ok fiTab_ok okT (.cons ok_slices_Index_string .nil) fid_impl_graph_onOf
noncomputable def impl_graph_onOf (k m : Nat) (c1 : Cell) (s2 : ByteArray) (H : List Entry) : Option Res :=
  (ptrC c1).bind fun c3 =>
  (fldA c3 0).bind fun c4 =>
  (deref H (c4)).bind fun p5 =>
  (cC p5.1 p5.2).bind fun c6 =>
  (callS run_slices_Index_string [.one (c6), .one (Cell.str s2)] H).bind fun r7 =>
  cond (shapeOk rk_slices_Index_string r7)
  ((cI .i64 (cellsAt r7 0) 0).bind fun i8 =>
  cond (decide (i8 < 0))
  (some ([.one (.lst true 1 [])], H))
  ((ptrC c1).bind fun c9 =>
  (fldA c9 1).bind fun c10 =>
  (deref H (c10)).bind fun p11 =>
  (cC p11.1 p11.2).bind fun c12 =>
  (idxA 1 (c12) i8).bind fun c13 =>
  (deref H (c13)).bind fun p14 =>
  (cC p14.1 p14.2).bind fun c15 =>
  some ([.one (c15)], H)))
  none
theorem impl_graph_onOf_code (k m : Nat) (c1 : Cell) (s2 : ByteArray) (H : List Entry) : evC G_impl_graph_onOf fi_impl_graph_onOf (evF G_impl_graph_onOf (k + 1)) m fi_impl_graph_onOf.code none (retK G_impl_graph_onOf fi_impl_graph_onOf) (enter fi_impl_graph_onOf [.one (c1), .one (Cell.str s2)] H) = impl_graph_onOf (k + 1) m c1 s2 H := by
  kernel_rfl
theorem impl_graph_onOf_eq (k : Nat) (c1 : Cell) (s2 : ByteArray) (H : List Entry) : evF G_impl_graph_onOf (k + 2) fid_impl_graph_onOf [.one (c1), .one (Cell.str s2)] H = impl_graph_onOf (k + 1) (k + 1) c1 s2 H :=
  Eq.trans (by kernel_rfl) (impl_graph_onOf_code k (k + 1) c1 s2 H)
theorem run_impl_graph_onOf_of {c1 : Cell} {s2 : ByteArray} {H : List Entry} {r : Res} (k : Nat) (h : impl_graph_onOf (k + 1) (k + 1) c1 s2 H = some r) : run_impl_graph_onOf [.one (c1), .one (Cell.str s2)] H = some r := lim_of ((impl_graph_onOf_eq k c1 s2 H).trans h)
noncomputable def pl_impl_graph_canBeNext : List (Nat × Run) := [(fid_impl_graph_onOf, run_impl_graph_onOf), (fid_slices_Contains_string, run_slices_Contains_string)]
noncomputable def G_impl_graph_canBeNext : Ctx := ctx tyTab fiTab pl_impl_graph_canBeNext
noncomputable def run_impl_graph_canBeNext : Run := lim G_impl_graph_canBeNext fid_impl_graph_canBeNext
theorem ok_impl_graph_canBeNext : FnOk Try.prog OkT fid_impl_graph_canBeNext run_impl_graph_canBeNext := lim_ok (l := pl_impl_graph_canBeNext) Try_mix tyTab_ok fiTab_ok okT (.cons ok_impl_graph_onOf (.cons ok_slices_Contains_string .nil)) fid_impl_graph_canBeNext
noncomputable def impl_graph_canBeNext_l0 (k m : Nat) : Nat → Cell → Cell → Cell → Int → Int → List Entry → Option Res
  | 0, _, _, _, _, _, _ => none
  | n + 1, c7, c8, c9, i10, i11, H12 =>
    cond (decide (i11 < i10))
    ((idxA 1 (c9) i11).bind fun c13 =>
    (deref H12 (c13)).bind fun p14 =>
    (cS p14.1 p14.2).bind fun s15 =>
    (ptrC c7).bind fun c16 =>
    (fldA c16 0).bind fun c17 =>
    (deref H12 (c17)).bind fun p18 =>
    (cC p18.1 p18.2).bind fun c19 =>
    (callS run_slices_Contains_string [.one (c19), .one (Cell.str s15)] H12).bind fun r20 =>
    cond (shapeOk rk_slices_Contains_string r20)
    ((cB (cellsAt r20 0) 0).bind fun b21 =>
    cond b21
    ((callS run_slices_Contains_string [.one (c8), .one (Cell.str s15)] H12).bind fun r22 =>
    cond (shapeOk rk_slices_Contains_string r22)
    ((cB (cellsAt r22 0) 0).bind fun b23 =>
    cond (!b23)
    (some ([.one (Cell.bool false)], H12))
    (impl_graph_canBeNext_l0 k m n (c7) (c8) (c9) i10 (IntKind.i64.wrap (i11 + 1)) H12))
    none)
    (impl_graph_canBeNext_l0 k m n (c7) (c8) (c9) i10 (IntKind.i64.wrap (i11 + 1)) H12))
    none)
    (some ([.one (Cell.bool true)], H12))
noncomputable def impl_graph_canBeNext (k m : Nat) (c1 : Cell) (s2 : ByteArray) (c3 : Cell) (H : List Entry) : Option Res :=
  (run_impl_graph_onOf [.one (c1), .one (Cell.str s2)] H).bind fun r4 =>
  cond (shapeOk rk_impl_graph_onOf r4.1)
  ((cC (cellsAt r4.1 0) 0).bind fun c5 =>
  (lenC c5).bind fun n6 =>
  impl_graph_canBeNext_l0 k m m (c1) (c3) (c5) (n6 : Int) 0 r4.2)
  none
noncomputable abbrev impl_graph_canBeNext_l0_B (k m : Nat) : (Ex → Fr → Option Res) → Fr → Option Res := evC G_impl_graph_canBeNext fi_impl_graph_canBeNext (evF G_impl_graph_canBeNext (k + 1)) m (sub [1, 0, 1, 2, 3] fi_impl_graph_canBeNext.code) none
noncomputable abbrev impl_graph_canBeNext_l0_K (k m : Nat) : Ex → Fr → Option Res := blockK 0 (seqK (evC G_impl_graph_canBeNext fi_impl_graph_canBeNext (evF G_impl_graph_canBeNext (k + 1)) m (sub [1, 1] fi_impl_graph_canBeNext.code) none) (retK G_impl_graph_canBeNext fi_impl_graph_canBeNext))
theorem impl_graph_canBeNext_l0_eq (k m : Nat) : ∀ (n : Nat) (c7 : Cell) (c8 : Cell) (c9 : Cell) (i10 : Int) (i11 : Int) (H12 : List Entry), loopK (some [0, 2, 11, 12, 13]) (impl_graph_canBeNext_l0_B k m) (impl_graph_canBeNext_l0_K k m) n ⟨fT 30 0 [(0, .av (.one (c7))), (2, .av (.one (c8))), (11, .av (.one (c9))), (12, .av (.one (Cell.int i10))), (13, .av (.one (Cell.int i11)))], fX 30 0 [], H12⟩ = impl_graph_canBeNext_l0 (k + 1) m n c7 c8 c9 i10 i11 H12 := by
  intro n
  induction n with
  | zero => intros; rfl
  | succ n ih =>
    intros
    simp only [impl_graph_canBeNext_l0, ← ih]
    kernel_rfl
theorem impl_graph_canBeNext_code (k m : Nat) (c1 : Cell) (s2 : ByteArray) (c3 : Cell) (H : List Entry) : evC G_impl_graph_canBeNext fi_impl_graph_canBeNext (evF G_impl_graph_canBeNext (k + 1)) m fi_impl_graph_canBeNext.code none (retK G_impl_graph_canBeNext fi_impl_graph_canBeNext) (enter fi_impl_graph_canBeNext [.one (c1), .one (Cell.str s2), .one (c3)] H) = impl_graph_canBeNext (k + 1) m c1 s2 c3 H := by
  simp only [impl_graph_canBeNext, ← impl_graph_canBeNext_l0_eq k m]
  kernel_rfl
theorem impl_graph_canBeNext_eq (k : Nat) (c1 : Cell) (s2 : ByteArray) (c3 : Cell) (H : List Entry) : evF G_impl_graph_canBeNext (k + 2) fid_impl_graph_canBeNext [.one (c1), .one (Cell.str s2), .one (c3)] H = impl_graph_canBeNext (k + 1) (k + 1) c1 s2 c3 H :=
  Eq.trans (by kernel_rfl) (impl_graph_canBeNext_code k (k + 1) c1 s2 c3 H)
theorem run_impl_graph_canBeNext_of {c1 : Cell} {s2 : ByteArray} {c3 : Cell} {H : List Entry} {r : Res} (k : Nat) (h : impl_graph_canBeNext (k + 1) (k + 1) c1 s2 c3 H = some r) : run_impl_graph_canBeNext [.one (c1), .one (Cell.str s2), .one (c3)] H = some r := lim_of ((impl_graph_canBeNext_eq k c1 s2 c3 H).trans h)
noncomputable def pl_impl_graph_order_1 : List (Nat × Run) := [(fid_slices_Contains_string, run_slices_Contains_string), (fid_impl_graph_canBeNext, run_impl_graph_canBeNext)]
noncomputable def G_impl_graph_order_1 : Ctx := ctx tyTab fiTab pl_impl_graph_order_1
noncomputable def run_impl_graph_order_1 : Run := lim G_impl_graph_order_1 fid_impl_graph_order_1
theorem ok_impl_graph_order_1 : FnOk Try.prog OkT fid_impl_graph_order_1 run_impl_graph_order_1 := lim_ok (l := pl_impl_graph_order_1) Try_mix tyTab_ok fiTab_ok okT (.cons ok_slices_Contains_string (.cons ok_impl_graph_canBeNext .nil)) fid_impl_graph_order_1
noncomputable def impl_graph_order_1 (k m : Nat) (s1 : ByteArray) (c2 : Cell) (c3 : Cell) (H : List Entry) : Option Res :=
  (deref H (c2)).bind fun p4 =>
  (cC p4.1 p4.2).bind fun c5 =>
  (callS run_slices_Contains_string [.one (c5), .one (Cell.str s1)] H).bind fun r6 =>
  cond (shapeOk rk_slices_Contains_string r6)
  ((cB (cellsAt r6 0) 0).bind fun b7 =>
  cond (!b7)
  ((deref H (c3)).bind fun p8 =>
  (cC p8.1 p8.2).bind fun c9 =>
  (deref H (c2)).bind fun p10 =>
  (cC p10.1 p10.2).bind fun c11 =>
  (run_impl_graph_canBeNext [.one (c9), .one (Cell.str s1), .one (c11)] H).bind fun r12 =>
  cond (shapeOk rk_impl_graph_canBeNext r12.1)
  ((cB (cellsAt r12.1 0) 0).bind fun b13 =>
  some ([.one (Cell.bool b13)], r12.2))
  none)
  (some ([.one (Cell.bool false)], H)))
  none
theorem impl_graph_order_1_code (k m : Nat) (s1 : ByteArray) (c2 : Cell) (c3 : Cell) (H : List Entry) : evC G_impl_graph_order_1 fi_impl_graph_order_1 (evF G_impl_graph_order_1 (k + 1)) m fi_impl_graph_order_1.code none (retK G_impl_graph_order_1 fi_impl_graph_order_1) (enter fi_impl_graph_order_1 [.one (Cell.str s1), .one (c2), .one (c3)] H) = impl_graph_order_1 (k + 1) m s1 c2 c3 H := by
  kernel_rfl
theorem impl_graph_order_1_eq (k : Nat) (s1 : ByteArray) (c2 : Cell) (c3 : Cell) (H : List Entry) : evF G_impl_graph_order_1 (k + 2) fid_impl_graph_order_1 [.one (Cell.str s1), .one (c2), .one (c3)] H = impl_graph_order_1 (k + 1) (k + 1) s1 c2 c3 H :=
  Eq.trans (by kernel_rfl) (impl_graph_order_1_code k (k + 1) s1 c2 c3 H)
theorem run_impl_graph_order_1_of {s1 : ByteArray} {c2 : Cell} {c3 : Cell} {H : List Entry} {r : Res} (k : Nat) (h : impl_graph_order_1 (k + 1) (k + 1) s1 c2 c3 H = some r) : run_impl_graph_order_1 [.one (Cell.str s1), .one (c2), .one (c3)] H = some r := lim_of ((impl_graph_order_1_eq k s1 c2 c3 H).trans h)
noncomputable def pl_slices_IndexFunc_string : List (Nat × Run) := [(fid_impl_graph_order_1, run_impl_graph_order_1)]
noncomputable def G_slices_IndexFunc_string : Ctx := ctx tyTab fiTab pl_slices_IndexFunc_string
noncomputable def run_slices_IndexFunc_string : Run := lim G_slices_IndexFunc_string fid_slices_IndexFunc_string
theorem ok_slices_IndexFunc_string : FnOk Try.prog OkT fid_slices_IndexFunc_string run_slices_IndexFunc_string := lim_ok (l := pl_slices_IndexFunc_string) Try_mix tyTab_ok fiTab_ok okT (.cons ok_impl_graph_order_1 .nil) fid_slices_IndexFunc_string
noncomputable def slices_IndexFunc_string_impl_graph_order_1_l0 (k m : Nat) : Nat → Cell → Cell → Cell → Int → Int → List Entry → Option Res
  | 0, _, _, _, _, _, _ => none
  | n + 1, c3, c4, c5, i6, i7, H8 =>
    cond (decide (i7 < i6))
    ((idxA 1 (c3) i7).bind fun c9 =>
    (deref H8 (c9)).bind fun p10 =>
    (cS p10.1 p10.2).bind fun s11 =>
    (run_impl_graph_order_1 [.one (Cell.str s11), .one (c4), .one (c5)] H8).bind fun r12 =>
    cond (shapeOk rk_impl_graph_order_1 r12.1)
    ((cB (cellsAt r12.1 0) 0).bind fun b13 =>
    cond b13
    (some ([.one (Cell.int i7)], r12.2))
    (slices_IndexFunc_string_impl_graph_order_1_l0 k m n (c3) (c4) (c5) i6 (IntKind.i64.wrap (i7 + 1)) r12.2))
    none)
    (some ([.one (Cell.int (-1))], H8))
noncomputable def slices_IndexFunc_string_impl_graph_order_1 (k m : Nat) (c1 : Cell) (q2 : Cell) (q3 : Cell) (H : List Entry) : Option Res :=
  (lenC c1).bind fun n2 =>
  slices_IndexFunc_string_impl_graph_order_1_l0 k m m (c1) (q2) (q3) (n2 : Int) 0 H
noncomputable abbrev slices_IndexFunc_string_impl_graph_order_1_l0_B (k m : Nat) : (Ex → Fr → Option Res) → Fr → Option Res := evC G_slices_IndexFunc_string fi_slices_IndexFunc_string (evF G_slices_IndexFunc_string (k + 1)) m (sub [1, 0, 1, 2, 3] fi_slices_IndexFunc_string.code) none
noncomputable abbrev slices_IndexFunc_string_impl_graph_order_1_l0_K (k m : Nat) : Ex → Fr → Option Res := blockK 0 (seqK (evC G_slices_IndexFunc_string fi_slices_IndexFunc_string (evF G_slices_IndexFunc_string (k + 1)) m (sub [1, 1] fi_slices_IndexFunc_string.code) none) (retK G_slices_IndexFunc_string fi_slices_IndexFunc_string))
theorem slices_IndexFunc_string_impl_graph_order_1_l0_eq (k m : Nat) : ∀ (n : Nat) (c3 : Cell) (c4 : Cell) (c5 : Cell) (i6 : Int) (i7 : Int) (H8 : List Entry), loopK (some [0, 1, 7, 8]) (slices_IndexFunc_string_impl_graph_order_1_l0_B k m) (slices_IndexFunc_string_impl_graph_order_1_l0_K k m) n ⟨fT 19 0 [(0, .av (.one (c3))), (1, .av (.one (.fn fid_impl_graph_order_1 [] [c4, c5]))), (7, .av (.one (Cell.int i6))), (8, .av (.one (Cell.int i7)))], fX 19 0 [], H8⟩ = slices_IndexFunc_string_impl_graph_order_1_l0 (k + 1) m n c3 c4 c5 i6 i7 H8 := by
  intro n
  induction n with
  | zero => intros; rfl
  | succ n ih =>
    intros
    simp only [slices_IndexFunc_string_impl_graph_order_1_l0, ← ih]
    kernel_rfl
theorem slices_IndexFunc_string_impl_graph_order_1_code (k m : Nat) (c1 : Cell) (q2 : Cell) (q3 : Cell) (H : List Entry) : evC G_slices_IndexFunc_string fi_slices_IndexFunc_string (evF G_slices_IndexFunc_string (k + 1)) m fi_slices_IndexFunc_string.code none (retK G_slices_IndexFunc_string fi_slices_IndexFunc_string) (enter fi_slices_IndexFunc_string [.one (c1), .one (.fn fid_impl_graph_order_1 [] [q2, q3])] H) = slices_IndexFunc_string_impl_graph_order_1 (k + 1) m c1 q2 q3 H := by
  simp only [slices_IndexFunc_string_impl_graph_order_1, ← slices_IndexFunc_string_impl_graph_order_1_l0_eq k m]
  kernel_rfl
theorem slices_IndexFunc_string_impl_graph_order_1_eq (k : Nat) (c1 : Cell) (q2 : Cell) (q3 : Cell) (H : List Entry) : evF G_slices_IndexFunc_string (k + 2) fid_slices_IndexFunc_string [.one (c1), .one (.fn fid_impl_graph_order_1 [] [q2, q3])] H = slices_IndexFunc_string_impl_graph_order_1 (k + 1) (k + 1) c1 q2 q3 H :=
  Eq.trans (by kernel_rfl) (slices_IndexFunc_string_impl_graph_order_1_code k (k + 1) c1 q2 q3 H)
theorem run_slices_IndexFunc_string_impl_graph_order_1_of {c1 : Cell} {q2 : Cell} {q3 : Cell} {H : List Entry} {r : Res} (k : Nat) (h : slices_IndexFunc_string_impl_graph_order_1 (k + 1) (k + 1) c1 q2 q3 H = some r) : run_slices_IndexFunc_string [.one (c1), .one (.fn fid_impl_graph_order_1 [] [q2, q3])] H = some r := lim_of ((slices_IndexFunc_string_impl_graph_order_1_eq k c1 q2 q3 H).trans h)
noncomputable def pl_impl_graph_order : List (Nat × Run) := [(fid_slices_IndexFunc_string, run_slices_IndexFunc_string), (fid_impl_graph_order_1, run_impl_graph_order_1)]
noncomputable def G_impl_graph_order : Ctx := ctx tyTab fiTab pl_impl_graph_order
noncomputable def run_impl_graph_order : Run := lim G_impl_graph_order fid_impl_graph_order
theorem ok_impl_graph_order : FnOk Try.prog OkT fid_impl_graph_order run_impl_graph_order := lim_ok (l := pl_impl_graph_order) Try_mix tyTab_ok fiTab_ok okT (.cons ok_slices_IndexFunc_string (.cons ok_impl_graph_order_1 .nil)) fid_impl_graph_order
noncomputable def impl_graph_order_l0 (k m : Nat) : Nat → Cell → Cell → List Entry → Option Res
  | 0, _, _, _ => none
  | n + 1, c2, c3, H4 =>
    (deref H4 (c3)).bind fun p5 =>
    (cC p5.1 p5.2).bind fun c6 =>
    (lenC c6).bind fun n7 =>
    (deref H4 (c2)).bind fun p8 =>
    (cC p8.1 p8.2).bind fun c9 =>
    (ptrC c9).bind fun c10 =>
    (fldA c10 0).bind fun c11 =>
    (deref H4 (c11)).bind fun p12 =>
    (cC p12.1 p12.2).bind fun c13 =>
    (lenC c13).bind fun n14 =>
    cond (decide ((n7 : Int) < (n14 : Int)))
    ((deref H4 (c2)).bind fun p15 =>
    (cC p15.1 p15.2).bind fun c16 =>
    (ptrC c16).bind fun c17 =>
    (fldA c17 0).bind fun c18 =>
    (deref H4 (c18)).bind fun p19 =>
    (cC p19.1 p19.2).bind fun c20 =>
    (run_slices_IndexFunc_string [.one (c20), .one (.fn fid_impl_graph_order_1 [] [c3, c2])] H4).bind fun r21 =>
    cond (shapeOk rk_slices_IndexFunc_string r21.1)
    ((cI .i64 (cellsAt r21.1 0) 0).bind fun i22 =>
    cond (decide (i22 < 0))
    (some ([.one (.lst true 1 []), .one (Cell.bool false)], r21.2))
    ((deref r21.2 (c3)).bind fun p23 =>
    (cC p23.1 p23.2).bind fun c24 =>
    (deref r21.2 (c2)).bind fun p25 =>
    (cC p25.1 p25.2).bind fun c26 =>
    (ptrC c26).bind fun c27 =>
    (fldA c27 0).bind fun c28 =>
    (deref r21.2 (c28)).bind fun p29 =>
    (cC p29.1 p29.2).bind fun c30 =>
    (idxA 1 (c30) i22).bind fun c31 =>
    (deref r21.2 (c31)).bind fun p32 =>
    (cS p32.1 p32.2).bind fun s33 =>
    (app r21.2 1 16 (c24) [[Cell.str s33]]).bind fun p34 =>
    (hStore p34.2 (c3) [p34.1]).bind fun h35 =>
    impl_graph_order_l0 k m n (c2) (c3) h35))
    none)
    ((deref H4 (c3)).bind fun p36 =>
    (cC p36.1 p36.2).bind fun c37 =>
    some ([.one (c37), .one (Cell.bool true)], H4))
noncomputable def impl_graph_order (k m : Nat) (c1 : Cell) (H : List Entry) : Option Res :=
  impl_graph_order_l0 k m m (.ptr H.length 1 0 0 0) (.ptr ((H ++ [Entry.mk 1 [[c1]] 0 false]).length) 1 0 0 0) ((H ++ [Entry.mk 1 [[c1]] 0 false]) ++ [Entry.mk 1 [[.lst true 1 []]] 0 false])
noncomputable abbrev impl_graph_order_l0_B (k m : Nat) : (Ex → Fr → Option Res) → Fr → Option Res := evC G_impl_graph_order fi_impl_graph_order (evF G_impl_graph_order (k + 1)) m (sub [1, 1, 0, 2, 3] fi_impl_graph_order.code) none
noncomputable abbrev impl_graph_order_l0_K (k m : Nat) : Ex → Fr → Option Res := blockK 0 (seqK (evC G_impl_graph_order fi_impl_graph_order (evF G_impl_graph_order (k + 1)) m (sub [1, 1, 1] fi_impl_graph_order.code) none) (retK G_impl_graph_order fi_impl_graph_order))
theorem impl_graph_order_l0_eq (k m : Nat) : ∀ (n : Nat) (c2 : Cell) (c3 : Cell) (H4 : List Entry), loopK (some [1, 4]) (impl_graph_order_l0_B k m) (impl_graph_order_l0_K k m) n ⟨fT 33 0 [(1, .av (.one (c2))), (4, .av (.one (c3)))], fX 33 0 [], H4⟩ = impl_graph_order_l0 (k + 1) m n c2 c3 H4 := by
  intro n
  induction n with
  | zero => intros; rfl
  | succ n ih =>
    intros
    simp only [impl_graph_order_l0, ← ih]
    kernel_rfl
theorem impl_graph_order_code (k m : Nat) (c1 : Cell) (H : List Entry) : evC G_impl_graph_order fi_impl_graph_order (evF G_impl_graph_order (k + 1)) m fi_impl_graph_order.code none (retK G_impl_graph_order fi_impl_graph_order) (enter fi_impl_graph_order [.one (c1)] H) = impl_graph_order (k + 1) m c1 H := by
  simp only [impl_graph_order, ← impl_graph_order_l0_eq k m]
  kernel_rfl
theorem impl_graph_order_eq (k : Nat) (c1 : Cell) (H : List Entry) : evF G_impl_graph_order (k + 2) fid_impl_graph_order [.one (c1)] H = impl_graph_order (k + 1) (k + 1) c1 H :=
  Eq.trans (by kernel_rfl) (impl_graph_order_code k (k + 1) c1 H)
theorem run_impl_graph_order_of {c1 : Cell} {H : List Entry} {r : Res} (k : Nat) (h : impl_graph_order (k + 1) (k + 1) c1 H = some r) : run_impl_graph_order [.one (c1)] H = some r := lim_of ((impl_graph_order_eq k c1 H).trans h)
noncomputable def pl_impl_Order : List (Nat × Run) := [(fid_impl_graphOf, run_impl_graphOf), (fid_impl_graph_order, run_impl_graph_order)]
noncomputable def G_impl_Order : Ctx := ctx tyTab fiTab pl_impl_Order
noncomputable def run_impl_Order : Run := lim G_impl_Order fid_impl_Order
theorem ok_impl_Order : FnOk Try.prog OkT fid_impl_Order run_impl_Order := lim_ok (l := pl_impl_Order) Try_mix tyTab_ok fiTab_ok okT (.cons ok_impl_graphOf (.cons ok_impl_graph_order .nil)) fid_impl_Order
noncomputable def impl_Order (k m : Nat) (c1 : Cell) : Option Res :=
  (run_impl_graphOf [.one (c1)] []).bind fun r2 =>
  cond (shapeOk rk_impl_graphOf r2.1)
  ((cC (cellsAt r2.1 0) 0).bind fun c3 =>
  (run_impl_graph_order [.one (c3)] r2.2).bind fun r4 =>
  cond (shapeOk rk_impl_graph_order r4.1)
  ((cC (cellsAt r4.1 0) 0).bind fun c5 =>
  (cB (cellsAt r4.1 1) 0).bind fun b6 =>
  some ([.one (c5), .one (Cell.bool b6)], r4.2))
  none)
  none
theorem impl_Order_code (k m : Nat) (c1 : Cell) : evC G_impl_Order fi_impl_Order (evF G_impl_Order (k + 1)) m fi_impl_Order.code none (retK G_impl_Order fi_impl_Order) (enter fi_impl_Order [.one (c1)] []) = impl_Order (k + 1) m c1 := by
  kernel_rfl
theorem impl_Order_eq (k : Nat) (c1 : Cell) : evF G_impl_Order (k + 2) fid_impl_Order [.one (c1)] [] = impl_Order (k + 1) (k + 1) c1 :=
  Eq.trans (by kernel_rfl) (impl_Order_code k (k + 1) c1)
theorem run_impl_Order_of {c1 : Cell} {r : Res} (k : Nat) (h : impl_Order (k + 1) (k + 1) c1 = some r) : run_impl_Order [.one (c1)] [] = some r := lim_of ((impl_Order_eq k c1).trans h)
noncomputable def pl_laws_eqStringS : List (Nat × Run) := []
noncomputable def G_laws_eqStringS : Ctx := ctx tyTab fiTab pl_laws_eqStringS
noncomputable def run_laws_eqStringS : Run := lim G_laws_eqStringS fid_laws_eqStringS
theorem ok_laws_eqStringS : FnOk Try.prog OkT fid_laws_eqStringS run_laws_eqStringS := lim_ok (l := pl_laws_eqStringS) Try_mix tyTab_ok fiTab_ok okT .nil fid_laws_eqStringS
noncomputable def laws_eqStringS_l0 (k m : Nat) : Nat → Cell → Cell → Int → Option Res
  | 0, _, _, _ => none
  | n + 1, c5, c6, i7 =>
    (lenC c5).bind fun n8 =>
    cond (decide (i7 < (n8 : Int)))
    ((idxA 1 (c5) i7).bind fun c9 =>
    (deref [] (c9)).bind fun p10 =>
    (cS p10.1 p10.2).bind fun s11 =>
    (idxA 1 (c6) i7).bind fun c12 =>
    (deref [] (c12)).bind fun p13 =>
    (cS p13.1 p13.2).bind fun s14 =>
    cond (!(s11.toList == s14.toList))
    (some ([.one (Cell.bool false)], []))
    (laws_eqStringS_l0 k m n (c5) (c6) (IntKind.i64.wrap (i7 + 1))))
    (some ([.one (Cell.bool true)], []))
noncomputable def laws_eqStringS (k m : Nat) (c1 : Cell) (c2 : Cell) : Option Res :=
  (lenC c1).bind fun n3 =>
  (lenC c2).bind fun n4 =>
  cond ((n3 : Int) != (n4 : Int))
  (some ([.one (Cell.bool false)], []))
  (laws_eqStringS_l0 k m m (c1) (c2) 0)
noncomputable abbrev laws_eqStringS_l0_B (k m : Nat) : (Ex → Fr → Option Res) → Fr → Option Res := evC G_laws_eqStringS fi_laws_eqStringS (evF G_laws_eqStringS (k + 1)) m (sub [1, 1, 0, 1, 2, 3] fi_laws_eqStringS.code) none
noncomputable abbrev laws_eqStringS_l0_K (k m : Nat) : Ex → Fr → Option Res := blockK 0 (seqK (evC G_laws_eqStringS fi_laws_eqStringS (evF G_laws_eqStringS (k + 1)) m (sub [1, 1, 1] fi_laws_eqStringS.code) none) (retK G_laws_eqStringS fi_laws_eqStringS))
theorem laws_eqStringS_l0_eq (k m : Nat) : ∀ (n : Nat) (c5 : Cell) (c6 : Cell) (i7 : Int), loopK (some [0, 1, 5]) (laws_eqStringS_l0_B k m) (laws_eqStringS_l0_K k m) n ⟨fT 26 0 [(0, .av (.one (c5))), (1, .av (.one (c6))), (5, .av (.one (Cell.int i7)))], fX 26 0 [], []⟩ = laws_eqStringS_l0 (k + 1) m n c5 c6 i7 := by
  intro n
  induction n with
  | zero => intros; rfl
  | succ n ih =>
    intros
    simp only [laws_eqStringS_l0, ← ih]
    kernel_rfl
theorem laws_eqStringS_code (k m : Nat) (c1 : Cell) (c2 : Cell) : evC G_laws_eqStringS fi_laws_eqStringS (evF G_laws_eqStringS (k + 1)) m fi_laws_eqStringS.code none (retK G_laws_eqStringS fi_laws_eqStringS) (enter fi_laws_eqStringS [.one (c1), .one (c2)] []) = laws_eqStringS (k + 1) m c1 c2 := by
  simp only [laws_eqStringS, ← laws_eqStringS_l0_eq k m]
  kernel_rfl
theorem laws_eqStringS_eq (k : Nat) (c1 : Cell) (c2 : Cell) : evF G_laws_eqStringS (k + 2) fid_laws_eqStringS [.one (c1), .one (c2)] [] = laws_eqStringS (k + 1) (k + 1) c1 c2 :=
  Eq.trans (by kernel_rfl) (laws_eqStringS_code k (k + 1) c1 c2)
theorem run_laws_eqStringS_of {c1 : Cell} {c2 : Cell} {r : Res} (k : Nat) (h : laws_eqStringS (k + 1) (k + 1) c1 c2 = some r) : run_laws_eqStringS [.one (c1), .one (c2)] [] = some r := lim_of ((laws_eqStringS_eq k c1 c2).trans h)
noncomputable def pl_laws_eqNeed : List (Nat × Run) := []
noncomputable def G_laws_eqNeed : Ctx := ctx tyTab fiTab pl_laws_eqNeed
noncomputable def run_laws_eqNeed : Run := lim G_laws_eqNeed fid_laws_eqNeed
theorem ok_laws_eqNeed : FnOk Try.prog OkT fid_laws_eqNeed run_laws_eqNeed := lim_ok (l := pl_laws_eqNeed) Try_mix tyTab_ok fiTab_ok okT .nil fid_laws_eqNeed
noncomputable def laws_eqNeed (k m : Nat) (s1 : ByteArray) (s2 : ByteArray) (s3 : ByteArray) (s4 : ByteArray) : Option Res :=
  cond (!(s1.toList == s3.toList))
  (some ([.one (Cell.bool false)], []))
  (cond (!(s2.toList == s4.toList))
  (some ([.one (Cell.bool false)], []))
  (some ([.one (Cell.bool true)], [])))
theorem laws_eqNeed_code (k m : Nat) (s1 : ByteArray) (s2 : ByteArray) (s3 : ByteArray) (s4 : ByteArray) : evC G_laws_eqNeed fi_laws_eqNeed (evF G_laws_eqNeed (k + 1)) m fi_laws_eqNeed.code none (retK G_laws_eqNeed fi_laws_eqNeed) (enter fi_laws_eqNeed [.agg [Cell.str s1, Cell.str s2], .agg [Cell.str s3, Cell.str s4]] []) = laws_eqNeed (k + 1) m s1 s2 s3 s4 := by
  kernel_rfl
theorem laws_eqNeed_eq (k : Nat) (s1 : ByteArray) (s2 : ByteArray) (s3 : ByteArray) (s4 : ByteArray) : evF G_laws_eqNeed (k + 2) fid_laws_eqNeed [.agg [Cell.str s1, Cell.str s2], .agg [Cell.str s3, Cell.str s4]] [] = laws_eqNeed (k + 1) (k + 1) s1 s2 s3 s4 :=
  Eq.trans (by kernel_rfl) (laws_eqNeed_code k (k + 1) s1 s2 s3 s4)
theorem run_laws_eqNeed_of {s1 : ByteArray} {s2 : ByteArray} {s3 : ByteArray} {s4 : ByteArray} {r : Res} (k : Nat) (h : laws_eqNeed (k + 1) (k + 1) s1 s2 s3 s4 = some r) : run_laws_eqNeed [.agg [Cell.str s1, Cell.str s2], .agg [Cell.str s3, Cell.str s4]] [] = some r := lim_of ((laws_eqNeed_eq k s1 s2 s3 s4).trans h)
noncomputable def pl_laws_eqNeedS : List (Nat × Run) := [(fid_laws_eqNeed, run_laws_eqNeed)]
noncomputable def G_laws_eqNeedS : Ctx := ctx tyTab fiTab pl_laws_eqNeedS
noncomputable def run_laws_eqNeedS : Run := lim G_laws_eqNeedS fid_laws_eqNeedS
theorem ok_laws_eqNeedS : FnOk Try.prog OkT fid_laws_eqNeedS run_laws_eqNeedS := lim_ok (l := pl_laws_eqNeedS) Try_mix tyTab_ok fiTab_ok okT (.cons ok_laws_eqNeed .nil) fid_laws_eqNeedS
noncomputable def laws_eqNeedS_l0 (k m : Nat) : Nat → Cell → Cell → Int → Option Res
  | 0, _, _, _ => none
  | n + 1, c5, c6, i7 =>
    (lenC c5).bind fun n8 =>
    cond (decide (i7 < (n8 : Int)))
    ((idxA 2 (c5) i7).bind fun c9 =>
    (deref [] (c9)).bind fun p10 =>
    (cS p10.1 p10.2).bind fun s11 =>
    (cS p10.1 (p10.2 + 1)).bind fun s12 =>
    (idxA 2 (c6) i7).bind fun c13 =>
    (deref [] (c13)).bind fun p14 =>
    (cS p14.1 p14.2).bind fun s15 =>
    (cS p14.1 (p14.2 + 1)).bind fun s16 =>
    (callS run_laws_eqNeed [.agg [Cell.str s11, Cell.str s12], .agg [Cell.str s15, Cell.str s16]] []).bind fun r17 =>
    cond (shapeOk rk_laws_eqNeed r17)
    ((cB (cellsAt r17 0) 0).bind fun b18 =>
    cond (!b18)
    (some ([.one (Cell.bool false)], []))
    (laws_eqNeedS_l0 k m n (c5) (c6) (IntKind.i64.wrap (i7 + 1))))
    none)
    (some ([.one (Cell.bool true)], []))
noncomputable def laws_eqNeedS (k m : Nat) (c1 : Cell) (c2 : Cell) : Option Res :=
  (lenC c1).bind fun n3 =>
  (lenC c2).bind fun n4 =>
  cond ((n3 : Int) != (n4 : Int))
  (some ([.one (Cell.bool false)], []))
  (laws_eqNeedS_l0 k m m (c1) (c2) 0)
noncomputable abbrev laws_eqNeedS_l0_B (k m : Nat) : (Ex → Fr → Option Res) → Fr → Option Res := evC G_laws_eqNeedS fi_laws_eqNeedS (evF G_laws_eqNeedS (k + 1)) m (sub [1, 1, 0, 1, 2, 3] fi_laws_eqNeedS.code) none
noncomputable abbrev laws_eqNeedS_l0_K (k m : Nat) : Ex → Fr → Option Res := blockK 0 (seqK (evC G_laws_eqNeedS fi_laws_eqNeedS (evF G_laws_eqNeedS (k + 1)) m (sub [1, 1, 1] fi_laws_eqNeedS.code) none) (retK G_laws_eqNeedS fi_laws_eqNeedS))
theorem laws_eqNeedS_l0_eq (k m : Nat) : ∀ (n : Nat) (c5 : Cell) (c6 : Cell) (i7 : Int), loopK (some [0, 1, 5]) (laws_eqNeedS_l0_B k m) (laws_eqNeedS_l0_K k m) n ⟨fT 27 0 [(0, .av (.one (c5))), (1, .av (.one (c6))), (5, .av (.one (Cell.int i7)))], fX 27 0 [], []⟩ = laws_eqNeedS_l0 (k + 1) m n c5 c6 i7 := by
  intro n
  induction n with
  | zero => intros; rfl
  | succ n ih =>
    intros
    simp only [laws_eqNeedS_l0, ← ih]
    kernel_rfl
theorem laws_eqNeedS_code (k m : Nat) (c1 : Cell) (c2 : Cell) : evC G_laws_eqNeedS fi_laws_eqNeedS (evF G_laws_eqNeedS (k + 1)) m fi_laws_eqNeedS.code none (retK G_laws_eqNeedS fi_laws_eqNeedS) (enter fi_laws_eqNeedS [.one (c1), .one (c2)] []) = laws_eqNeedS (k + 1) m c1 c2 := by
  simp only [laws_eqNeedS, ← laws_eqNeedS_l0_eq k m]
  kernel_rfl
theorem laws_eqNeedS_eq (k : Nat) (c1 : Cell) (c2 : Cell) : evF G_laws_eqNeedS (k + 2) fid_laws_eqNeedS [.one (c1), .one (c2)] [] = laws_eqNeedS (k + 1) (k + 1) c1 c2 :=
  Eq.trans (by kernel_rfl) (laws_eqNeedS_code k (k + 1) c1 c2)
theorem run_laws_eqNeedS_of {c1 : Cell} {c2 : Cell} {r : Res} (k : Nat) (h : laws_eqNeedS (k + 1) (k + 1) c1 c2 = some r) : run_laws_eqNeedS [.one (c1), .one (c2)] [] = some r := lim_of ((laws_eqNeedS_eq k c1 c2).trans h)
noncomputable def pl_laws_eqCmd : List (Nat × Run) := [(fid_laws_eqStringS, run_laws_eqStringS)]
noncomputable def G_laws_eqCmd : Ctx := ctx tyTab fiTab pl_laws_eqCmd
noncomputable def run_laws_eqCmd : Run := lim G_laws_eqCmd fid_laws_eqCmd
theorem ok_laws_eqCmd : FnOk Try.prog OkT fid_laws_eqCmd run_laws_eqCmd := lim_ok (l := pl_laws_eqCmd) Try_mix tyTab_ok fiTab_ok okT (.cons ok_laws_eqStringS .nil) fid_laws_eqCmd
noncomputable def laws_eqCmd (k m : Nat) (s1 : ByteArray) (c2 : Cell) (s3 : ByteArray) (c4 : Cell) : Option Res :=
  cond (!(s1.toList == s3.toList))
  (some ([.one (Cell.bool false)], []))
  ((callS run_laws_eqStringS [.one (c2), .one (c4)] []).bind fun r5 =>
  cond (shapeOk rk_laws_eqStringS r5)
  ((cB (cellsAt r5 0) 0).bind fun b6 =>
  cond (!b6)
  (some ([.one (Cell.bool false)], []))
  (some ([.one (Cell.bool true)], [])))
  none)
theorem laws_eqCmd_code (k m : Nat) (s1 : ByteArray) (c2 : Cell) (s3 : ByteArray) (c4 : Cell) : evC G_laws_eqCmd fi_laws_eqCmd (evF G_laws_eqCmd (k + 1)) m fi_laws_eqCmd.code none (retK G_laws_eqCmd fi_laws_eqCmd) (enter fi_laws_eqCmd [.agg [Cell.str s1, c2], .agg [Cell.str s3, c4]] []) = laws_eqCmd (k + 1) m s1 c2 s3 c4 := by
  kernel_rfl
theorem laws_eqCmd_eq (k : Nat) (s1 : ByteArray) (c2 : Cell) (s3 : ByteArray) (c4 : Cell) : evF G_laws_eqCmd (k + 2) fid_laws_eqCmd [.agg [Cell.str s1, c2], .agg [Cell.str s3, c4]] [] = laws_eqCmd (k + 1) (k + 1) s1 c2 s3 c4 :=
  Eq.trans (by kernel_rfl) (laws_eqCmd_code k (k + 1) s1 c2 s3 c4)
theorem run_laws_eqCmd_of {s1 : ByteArray} {c2 : Cell} {s3 : ByteArray} {c4 : Cell} {r : Res} (k : Nat) (h : laws_eqCmd (k + 1) (k + 1) s1 c2 s3 c4 = some r) : run_laws_eqCmd [.agg [Cell.str s1, c2], .agg [Cell.str s3, c4]] [] = some r := lim_of ((laws_eqCmd_eq k s1 c2 s3 c4).trans h)
noncomputable def pl_laws_eqCmdS : List (Nat × Run) := [(fid_laws_eqCmd, run_laws_eqCmd)]
noncomputable def G_laws_eqCmdS : Ctx := ctx tyTab fiTab pl_laws_eqCmdS
noncomputable def run_laws_eqCmdS : Run := lim G_laws_eqCmdS fid_laws_eqCmdS
theorem ok_laws_eqCmdS : FnOk Try.prog OkT fid_laws_eqCmdS run_laws_eqCmdS := lim_ok (l := pl_laws_eqCmdS) Try_mix tyTab_ok fiTab_ok okT (.cons ok_laws_eqCmd .nil) fid_laws_eqCmdS
noncomputable def laws_eqCmdS_l0 (k m : Nat) : Nat → Cell → Cell → Int → Option Res
  | 0, _, _, _ => none
  | n + 1, c5, c6, i7 =>
    (lenC c5).bind fun n8 =>
    cond (decide (i7 < (n8 : Int)))
    ((idxA 2 (c5) i7).bind fun c9 =>
    (deref [] (c9)).bind fun p10 =>
    (cS p10.1 p10.2).bind fun s11 =>
    (cC p10.1 (p10.2 + 1)).bind fun c12 =>
    (idxA 2 (c6) i7).bind fun c13 =>
    (deref [] (c13)).bind fun p14 =>
    (cS p14.1 p14.2).bind fun s15 =>
    (cC p14.1 (p14.2 + 1)).bind fun c16 =>
    (callS run_laws_eqCmd [.agg [Cell.str s11, c12], .agg [Cell.str s15, c16]] []).bind fun r17 =>
    cond (shapeOk rk_laws_eqCmd r17)
    ((cB (cellsAt r17 0) 0).bind fun b18 =>
    cond (!b18)
    (some ([.one (Cell.bool false)], []))
    (laws_eqCmdS_l0 k m n (c5) (c6) (IntKind.i64.wrap (i7 + 1))))
    none)
    (some ([.one (Cell.bool true)], []))
noncomputable def laws_eqCmdS (k m : Nat) (c1 : Cell) (c2 : Cell) : Option Res :=
  (lenC c1).bind fun n3 =>
  (lenC c2).bind fun n4 =>
  cond ((n3 : Int) != (n4 : Int))
  (some ([.one (Cell.bool false)], []))
  (laws_eqCmdS_l0 k m m (c1) (c2) 0)
noncomputable abbrev laws_eqCmdS_l0_B (k m : Nat) : (Ex → Fr → Option Res) → Fr → Option Res := evC G_laws_eqCmdS fi_laws_eqCmdS (evF G_laws_eqCmdS (k + 1)) m (sub [1, 1, 0, 1, 2, 3] fi_laws_eqCmdS.code) none
noncomputable abbrev laws_eqCmdS_l0_K (k m : Nat) : Ex → Fr → Option Res := blockK 0 (seqK (evC G_laws_eqCmdS fi_laws_eqCmdS (evF G_laws_eqCmdS (k + 1)) m (sub [1, 1, 1] fi_laws_eqCmdS.code) none) (retK G_laws_eqCmdS fi_laws_eqCmdS))
theorem laws_eqCmdS_l0_eq (k m : Nat) : ∀ (n : Nat) (c5 : Cell) (c6 : Cell) (i7 : Int), loopK (some [0, 1, 5]) (laws_eqCmdS_l0_B k m) (laws_eqCmdS_l0_K k m) n ⟨fT 27 0 [(0, .av (.one (c5))), (1, .av (.one (c6))), (5, .av (.one (Cell.int i7)))], fX 27 0 [], []⟩ = laws_eqCmdS_l0 (k + 1) m n c5 c6 i7 := by
  intro n
  induction n with
  | zero => intros; rfl
  | succ n ih =>
    intros
    simp only [laws_eqCmdS_l0, ← ih]
    kernel_rfl
theorem laws_eqCmdS_code (k m : Nat) (c1 : Cell) (c2 : Cell) : evC G_laws_eqCmdS fi_laws_eqCmdS (evF G_laws_eqCmdS (k + 1)) m fi_laws_eqCmdS.code none (retK G_laws_eqCmdS fi_laws_eqCmdS) (enter fi_laws_eqCmdS [.one (c1), .one (c2)] []) = laws_eqCmdS (k + 1) m c1 c2 := by
  simp only [laws_eqCmdS, ← laws_eqCmdS_l0_eq k m]
  kernel_rfl
theorem laws_eqCmdS_eq (k : Nat) (c1 : Cell) (c2 : Cell) : evF G_laws_eqCmdS (k + 2) fid_laws_eqCmdS [.one (c1), .one (c2)] [] = laws_eqCmdS (k + 1) (k + 1) c1 c2 :=
  Eq.trans (by kernel_rfl) (laws_eqCmdS_code k (k + 1) c1 c2)
theorem run_laws_eqCmdS_of {c1 : Cell} {c2 : Cell} {r : Res} (k : Nat) (h : laws_eqCmdS (k + 1) (k + 1) c1 c2 = some r) : run_laws_eqCmdS [.one (c1), .one (c2)] [] = some r := lim_of ((laws_eqCmdS_eq k c1 c2).trans h)
noncomputable def pl_laws_eqPack : List (Nat × Run) := [(fid_laws_eqStringS, run_laws_eqStringS), (fid_laws_eqNeedS, run_laws_eqNeedS), (fid_laws_eqCmdS, run_laws_eqCmdS)]
noncomputable def G_laws_eqPack : Ctx := ctx tyTab fiTab pl_laws_eqPack
noncomputable def run_laws_eqPack : Run := lim G_laws_eqPack fid_laws_eqPack
theorem ok_laws_eqPack : FnOk Try.prog OkT fid_laws_eqPack run_laws_eqPack := lim_ok (l := pl_laws_eqPack) Try_mix tyTab_ok fiTab_ok okT (.cons ok_laws_eqStringS (.cons ok_laws_eqNeedS (.cons ok_laws_eqCmdS .nil))) fid_laws_eqPack
noncomputable def laws_eqPack (k m : Nat) (s1 : ByteArray) (c2 : Cell) (c3 : Cell) (c4 : Cell) (s5 : ByteArray) (c6 : Cell) (c7 : Cell) (c8 : Cell) : Option Res :=
  cond (!(s1.toList == s5.toList))
  (some ([.one (Cell.bool false)], []))
  ((callS run_laws_eqStringS [.one (c2), .one (c6)] []).bind fun r9 =>
  cond (shapeOk rk_laws_eqStringS r9)
  ((cB (cellsAt r9 0) 0).bind fun b10 =>
  cond (!b10)
  (some ([.one (Cell.bool false)], []))
  ((callS run_laws_eqNeedS [.one (c3), .one (c7)] []).bind fun r11 =>
  cond (shapeOk rk_laws_eqNeedS r11)
  ((cB (cellsAt r11 0) 0).bind fun b12 =>
  cond (!b12)
  (some ([.one (Cell.bool false)], []))
  ((callS run_laws_eqCmdS [.one (c4), .one (c8)] []).bind fun r13 =>
  cond (shapeOk rk_laws_eqCmdS r13)
  ((cB (cellsAt r13 0) 0).bind fun b14 =>
  cond (!b14)
  (some ([.one (Cell.bool false)], []))
  (some ([.one (Cell.bool true)], [])))
  none))
  none))
  none)
theorem laws_eqPack_code (k m : Nat) (s1 : ByteArray) (c2 : Cell) (c3 : Cell) (c4 : Cell) (s5 : ByteArray) (c6 : Cell) (c7 : Cell) (c8 : Cell) : evC G_laws_eqPack fi_laws_eqPack (evF G_laws_eqPack (k + 1)) m fi_laws_eqPack.code none (retK G_laws_eqPack fi_laws_eqPack) (enter fi_laws_eqPack [.agg [Cell.str s1, c2, c3, c4], .agg [Cell.str s5, c6, c7, c8]] []) = laws_eqPack (k + 1) m s1 c2 c3 c4 s5 c6 c7 c8 := by
  kernel_rfl
theorem laws_eqPack_eq (k : Nat) (s1 : ByteArray) (c2 : Cell) (c3 : Cell) (c4 : Cell) (s5 : ByteArray) (c6 : Cell) (c7 : Cell) (c8 : Cell) : evF G_laws_eqPack (k + 2) fid_laws_eqPack [.agg [Cell.str s1, c2, c3, c4], .agg [Cell.str s5, c6, c7, c8]] [] = laws_eqPack (k + 1) (k + 1) s1 c2 c3 c4 s5 c6 c7 c8 :=
  Eq.trans (by kernel_rfl) (laws_eqPack_code k (k + 1) s1 c2 c3 c4 s5 c6 c7 c8)
theorem run_laws_eqPack_of {s1 : ByteArray} {c2 : Cell} {c3 : Cell} {c4 : Cell} {s5 : ByteArray} {c6 : Cell} {c7 : Cell} {c8 : Cell} {r : Res} (k : Nat) (h : laws_eqPack (k + 1) (k + 1) s1 c2 c3 c4 s5 c6 c7 c8 = some r) : run_laws_eqPack [.agg [Cell.str s1, c2, c3, c4], .agg [Cell.str s5, c6, c7, c8]] [] = some r := lim_of ((laws_eqPack_eq k s1 c2 c3 c4 s5 c6 c7 c8).trans h)
noncomputable def pl_laws_eqPackS : List (Nat × Run) := [(fid_laws_eqPack, run_laws_eqPack)]
noncomputable def G_laws_eqPackS : Ctx := ctx tyTab fiTab pl_laws_eqPackS
noncomputable def run_laws_eqPackS : Run := lim G_laws_eqPackS fid_laws_eqPackS
theorem ok_laws_eqPackS : FnOk Try.prog OkT fid_laws_eqPackS run_laws_eqPackS := lim_ok (l := pl_laws_eqPackS) Try_mix tyTab_ok fiTab_ok okT (.cons ok_laws_eqPack .nil) fid_laws_eqPackS
noncomputable def laws_eqPackS_l0 (k m : Nat) : Nat → Cell → Cell → Int → Option Res
  | 0, _, _, _ => none
  | n + 1, c5, c6, i7 =>
    (lenC c5).bind fun n8 =>
    cond (decide (i7 < (n8 : Int)))
    ((idxA 4 (c5) i7).bind fun c9 =>
    (deref [] (c9)).bind fun p10 =>
    (cS p10.1 p10.2).bind fun s11 =>
    (cC p10.1 (p10.2 + 1)).bind fun c12 =>
    (cC p10.1 ((p10.2 + 1) + 1)).bind fun c13 =>
    (cC p10.1 (((p10.2 + 1) + 1) + 1)).bind fun c14 =>
    (idxA 4 (c6) i7).bind fun c15 =>
    (deref [] (c15)).bind fun p16 =>
    (cS p16.1 p16.2).bind fun s17 =>
    (cC p16.1 (p16.2 + 1)).bind fun c18 =>
    (cC p16.1 ((p16.2 + 1) + 1)).bind fun c19 =>
    (cC p16.1 (((p16.2 + 1) + 1) + 1)).bind fun c20 =>
    (callS run_laws_eqPack [.agg [Cell.str s11, c12, c13, c14], .agg [Cell.str s17, c18, c19, c20]] []).bind fun r21 =>
    cond (shapeOk rk_laws_eqPack r21)
    ((cB (cellsAt r21 0) 0).bind fun b22 =>
    cond (!b22)
    (some ([.one (Cell.bool false)], []))
    (laws_eqPackS_l0 k m n (c5) (c6) (IntKind.i64.wrap (i7 + 1))))
    none)
    (some ([.one (Cell.bool true)], []))
noncomputable def laws_eqPackS (k m : Nat) (c1 : Cell) (c2 : Cell) : Option Res :=
  (lenC c1).bind fun n3 =>
  (lenC c2).bind fun n4 =>
  cond ((n3 : Int) != (n4 : Int))
  (some ([.one (Cell.bool false)], []))
  (laws_eqPackS_l0 k m m (c1) (c2) 0)
noncomputable abbrev laws_eqPackS_l0_B (k m : Nat) : (Ex → Fr → Option Res) → Fr → Option Res := evC G_laws_eqPackS fi_laws_eqPackS (evF G_laws_eqPackS (k + 1)) m (sub [1, 1, 0, 1, 2, 3] fi_laws_eqPackS.code) none
noncomputable abbrev laws_eqPackS_l0_K (k m : Nat) : Ex → Fr → Option Res := blockK 0 (seqK (evC G_laws_eqPackS fi_laws_eqPackS (evF G_laws_eqPackS (k + 1)) m (sub [1, 1, 1] fi_laws_eqPackS.code) none) (retK G_laws_eqPackS fi_laws_eqPackS))
theorem laws_eqPackS_l0_eq (k m : Nat) : ∀ (n : Nat) (c5 : Cell) (c6 : Cell) (i7 : Int), loopK (some [0, 1, 5]) (laws_eqPackS_l0_B k m) (laws_eqPackS_l0_K k m) n ⟨fT 27 0 [(0, .av (.one (c5))), (1, .av (.one (c6))), (5, .av (.one (Cell.int i7)))], fX 27 0 [], []⟩ = laws_eqPackS_l0 (k + 1) m n c5 c6 i7 := by
  intro n
  induction n with
  | zero => intros; rfl
  | succ n ih =>
    intros
    simp only [laws_eqPackS_l0, ← ih]
    kernel_rfl
theorem laws_eqPackS_code (k m : Nat) (c1 : Cell) (c2 : Cell) : evC G_laws_eqPackS fi_laws_eqPackS (evF G_laws_eqPackS (k + 1)) m fi_laws_eqPackS.code none (retK G_laws_eqPackS fi_laws_eqPackS) (enter fi_laws_eqPackS [.one (c1), .one (c2)] []) = laws_eqPackS (k + 1) m c1 c2 := by
  simp only [laws_eqPackS, ← laws_eqPackS_l0_eq k m]
  kernel_rfl
theorem laws_eqPackS_eq (k : Nat) (c1 : Cell) (c2 : Cell) : evF G_laws_eqPackS (k + 2) fid_laws_eqPackS [.one (c1), .one (c2)] [] = laws_eqPackS (k + 1) (k + 1) c1 c2 :=
  Eq.trans (by kernel_rfl) (laws_eqPackS_code k (k + 1) c1 c2)
theorem run_laws_eqPackS_of {c1 : Cell} {c2 : Cell} {r : Res} (k : Nat) (h : laws_eqPackS (k + 1) (k + 1) c1 c2 = some r) : run_laws_eqPackS [.one (c1), .one (c2)] [] = some r := lim_of ((laws_eqPackS_eq k c1 c2).trans h)
noncomputable def pl_laws_markText : List (Nat × Run) := []
noncomputable def G_laws_markText : Ctx := ctx tyTab fiTab pl_laws_markText
noncomputable def run_laws_markText : Run := lim G_laws_markText fid_laws_markText
theorem ok_laws_markText : FnOk Try.prog OkT fid_laws_markText run_laws_markText := lim_ok (l := pl_laws_markText) Try_mix tyTab_ok fiTab_ok okT .nil fid_laws_markText
noncomputable def laws_markText_l0 (k m : Nat) : Nat → Int → ByteArray → Option Res
  | 0, _, _ => none
  | n + 1, i2, s3 =>
    cond (decide (i2 > 0))
    ((bytesOf [] (.lst true 1 [[.sc (.int .u8 (IntKind.u8.wrap (IntKind.i64.wrap (48 + (i2.tmod 10)))))]])).bind fun s4 =>
    (catS s4 s3).bind fun s5 =>
    laws_markText_l0 k m n (IntKind.i64.wrap (i2.tdiv 10)) s5)
    ((catS (bs [109]) s3).bind fun s6 =>
    some ([.one (Cell.str s6)], []))
noncomputable def laws_markText (k m : Nat) (i1 : Int) : Option Res :=
  cond (decide (i1 ≤ 0))
  (some ([.one (Cell.str (bs [109, 48]))], []))
  (laws_markText_l0 k m m i1 (bs []))
noncomputable abbrev laws_markText_l0_B (k m : Nat) : (Ex → Fr → Option Res) → Fr → Option Res := evC G_laws_markText fi_laws_markText (evF G_laws_markText (k + 1)) m (sub [1, 1, 1, 0, 2, 3] fi_laws_markText.code) none
noncomputable abbrev laws_markText_l0_K (k m : Nat) : Ex → Fr → Option Res := blockK 0 (seqK (evC G_laws_markText fi_laws_markText (evF G_laws_markText (k + 1)) m (sub [1, 1, 1, 1] fi_laws_markText.code) none) (retK G_laws_markText fi_laws_markText))
theorem laws_markText_l0_eq (k m : Nat) : ∀ (n : Nat) (i2 : Int) (s3 : ByteArray), loopK (some [0, 3]) (laws_markText_l0_B k m) (laws_markText_l0_K k m) n ⟨fT 20 0 [(0, .av (.one (Cell.int i2))), (3, .av (.one (Cell.str s3)))], fX 20 0 [], []⟩ = laws_markText_l0 (k + 1) m n i2 s3 := by
  intro n
  induction n with
  | zero => intros; rfl
  | succ n ih =>
    intros
    simp only [laws_markText_l0, ← ih]
    kernel_rfl
theorem laws_markText_code (k m : Nat) (i1 : Int) : evC G_laws_markText fi_laws_markText (evF G_laws_markText (k + 1)) m fi_laws_markText.code none (retK G_laws_markText fi_laws_markText) (enter fi_laws_markText [.one (Cell.int i1)] []) = laws_markText (k + 1) m i1 := by
  simp only [laws_markText, ← laws_markText_l0_eq k m]
  kernel_rfl
theorem laws_markText_eq (k : Nat) (i1 : Int) : evF G_laws_markText (k + 2) fid_laws_markText [.one (Cell.int i1)] [] = laws_markText (k + 1) (k + 1) i1 :=
  Eq.trans (by kernel_rfl) (laws_markText_code k (k + 1) i1)
theorem run_laws_markText_of {i1 : Int} {r : Res} (k : Nat) (h : laws_markText (k + 1) (k + 1) i1 = some r) : run_laws_markText [.one (Cell.int i1)] [] = some r := lim_of ((laws_markText_eq k i1).trans h)
noncomputable def pl_laws_markStringS : List (Nat × Run) := [(fid_laws_markText, run_laws_markText)]
noncomputable def G_laws_markStringS : Ctx := ctx tyTab fiTab pl_laws_markStringS
noncomputable def run_laws_markStringS : Run := lim G_laws_markStringS fid_laws_markStringS
theorem ok_laws_markStringS : FnOk Try.prog OkT fid_laws_markStringS run_laws_markStringS := lim_ok (l := pl_laws_markStringS) Try_mix tyTab_ok fiTab_ok okT (.cons ok_laws_markText .nil) fid_laws_markStringS
noncomputable def laws_markStringS_l0 (k m : Nat) : Nat → Cell → Int → Int → List Entry → Option Res
  | 0, _, _, _, _ => none
  | n + 1, c3, i4, i5, H6 =>
    (lenC c3).bind fun n7 =>
    cond (decide (i5 < (n7 : Int)))
    ((callS run_laws_markText [.one (Cell.int i4)] H6).bind fun r8 =>
    cond (shapeOk rk_laws_markText r8)
    ((cS (cellsAt r8 0) 0).bind fun s9 =>
    (idxA 1 (c3) i5).bind fun c10 =>
    (hStore H6 (c10) [Cell.str s9]).bind fun h11 =>
    laws_markStringS_l0 k m n (c3) (IntKind.i64.wrap (i4 + 1)) (IntKind.i64.wrap (i5 + 1)) h11)
    none)
    (some ([.one (Cell.int i4)], H6))
noncomputable def laws_markStringS (k m : Nat) (c1 : Cell) (i2 : Int) (H : List Entry) : Option Res :=
  laws_markStringS_l0 k m m (c1) i2 0 H
noncomputable abbrev laws_markStringS_l0_B (k m : Nat) : (Ex → Fr → Option Res) → Fr → Option Res := evC G_laws_markStringS fi_laws_markStringS (evF G_laws_markStringS (k + 1)) m (sub [1, 0, 1, 2, 3] fi_laws_markStringS.code) none
noncomputable abbrev laws_markStringS_l0_K (k m : Nat) : Ex → Fr → Option Res := blockK 0 (seqK (evC G_laws_markStringS fi_laws_markStringS (evF G_laws_markStringS (k + 1)) m (sub [1, 1] fi_laws_markStringS.code) none) (retK G_laws_markStringS fi_laws_markStringS))
theorem laws_markStringS_l0_eq (k m : Nat) : ∀ (n : Nat) (c3 : Cell) (i4 : Int) (i5 : Int) (H6 : List Entry), loopK (some [0, 1, 5]) (laws_markStringS_l0_B k m) (laws_markStringS_l0_K k m) n ⟨fT 20 0 [(0, .av (.one (c3))), (1, .av (.one (Cell.int i4))), (5, .av (.one (Cell.int i5)))], fX 20 0 [], H6⟩ = laws_markStringS_l0 (k + 1) m n c3 i4 i5 H6 := by
  intro n
  induction n with
  | zero => intros; rfl
  | succ n ih =>
    intros
    simp only [laws_markStringS_l0, ← ih]
    kernel_rfl
theorem laws_markStringS_code (k m : Nat) (c1 : Cell) (i2 : Int) (H : List Entry) : evC G_laws_markStringS fi_laws_markStringS (evF G_laws_markStringS (k + 1)) m fi_laws_markStringS.code none (retK G_laws_markStringS fi_laws_markStringS) (enter fi_laws_markStringS [.one (c1), .one (Cell.int i2)] H) = laws_markStringS (k + 1) m c1 i2 H := by
  simp only [laws_markStringS, ← laws_markStringS_l0_eq k m]
  kernel_rfl
theorem laws_markStringS_eq (k : Nat) (c1 : Cell) (i2 : Int) (H : List Entry) : evF G_laws_markStringS (k + 2) fid_laws_markStringS [.one (c1), .one (Cell.int i2)] H = laws_markStringS (k + 1) (k + 1) c1 i2 H :=
  Eq.trans (by kernel_rfl) (laws_markStringS_code k (k + 1) c1 i2 H)
theorem run_laws_markStringS_of {c1 : Cell} {i2 : Int} {H : List Entry} {r : Res} (k : Nat) (h : laws_markStringS (k + 1) (k + 1) c1 i2 H = some r) : run_laws_markStringS [.one (c1), .one (Cell.int i2)] H = some r := lim_of ((laws_markStringS_eq k c1 i2 H).trans h)
noncomputable def pl_laws_markNeedS : List (Nat × Run) := [(fid_laws_markText, run_laws_markText)]
noncomputable def G_laws_markNeedS : Ctx := ctx tyTab fiTab pl_laws_markNeedS
noncomputable def run_laws_markNeedS : Run := lim G_laws_markNeedS fid_laws_markNeedS
theorem ok_laws_markNeedS : FnOk Try.prog OkT fid_laws_markNeedS run_laws_markNeedS := lim_ok (l := pl_laws_markNeedS) Try_mix tyTab_ok fiTab_ok okT (.cons ok_laws_markText .nil) fid_laws_markNeedS
noncomputable def laws_markNeedS_l0 (k m : Nat) : Nat → Cell → Int → Int → List Entry → Option Res
  | 0, _, _, _, _ => none
  | n + 1, c3, i4, i5, H6 =>
    (lenC c3).bind fun n7 =>
    cond (decide (i5 < (n7 : Int)))
    ((callS run_laws_markText [.one (Cell.int i4)] H6).bind fun r8 =>
    cond (shapeOk rk_laws_markText r8)
    ((cS (cellsAt r8 0) 0).bind fun s9 =>
    (idxA 2 (c3) i5).bind fun c10 =>
    (fldA c10 0).bind fun c11 =>
    (hStore H6 (c11) [Cell.str s9]).bind fun h12 =>
    (callS run_laws_markText [.one (Cell.int (IntKind.i64.wrap (i4 + 1)))] h12).bind fun r13 =>
    cond (shapeOk rk_laws_markText r13)
    ((cS (cellsAt r13 0) 0).bind fun s14 =>
    (idxA 2 (c3) i5).bind fun c15 =>
    (fldA c15 1).bind fun c16 =>
    (hStore h12 (c16) [Cell.str s14]).bind fun h17 =>
    laws_markNeedS_l0 k m n (c3) (IntKind.i64.wrap ((IntKind.i64.wrap (i4 + 1)) + 1)) (IntKind.i64.wrap (i5 + 1)) h17)
    none)
    none)
    (some ([.one (Cell.int i4)], H6))
noncomputable def laws_markNeedS (k m : Nat) (c1 : Cell) (i2 : Int) (H : List Entry) : Option Res :=
  laws_markNeedS_l0 k m m (c1) i2 0 H
noncomputable abbrev laws_markNeedS_l0_B (k m : Nat) : (Ex → Fr → Option Res) → Fr → Option Res := evC G_laws_markNeedS fi_laws_markNeedS (evF G_laws_markNeedS (k + 1)) m (sub [1, 0, 1, 2, 3] fi_laws_markNeedS.code) none
noncomputable abbrev laws_markNeedS_l0_K (k m : Nat) : Ex → Fr → Option Res := blockK 0 (seqK (evC G_laws_markNeedS fi_laws_markNeedS (evF G_laws_markNeedS (k + 1)) m (sub [1, 1] fi_laws_markNeedS.code) none) (retK G_laws_markNeedS fi_laws_markNeedS))
theorem laws_markNeedS_l0_eq (k m : Nat) : ∀ (n : Nat) (c3 : Cell) (i4 : Int) (i5 : Int) (H6 : List Entry), loopK (some [0, 1, 5]) (laws_markNeedS_l0_B k m) (laws_markNeedS_l0_K k m) n ⟨fT 29 0 [(0, .av (.one (c3))), (1, .av (.one (Cell.int i4))), (5, .av (.one (Cell.int i5)))], fX 29 0 [], H6⟩ = laws_markNeedS_l0 (k + 1) m n c3 i4 i5 H6 := by
  intro n
  induction n with
  | zero => intros; rfl
  | succ n ih =>
    intros
    simp only [laws_markNeedS_l0, ← ih]
    kernel_rfl
theorem laws_markNeedS_code (k m : Nat) (c1 : Cell) (i2 : Int) (H : List Entry) : evC G_laws_markNeedS fi_laws_markNeedS (evF G_laws_markNeedS (k + 1)) m fi_laws_markNeedS.code none (retK G_laws_markNeedS fi_laws_markNeedS) (enter fi_laws_markNeedS [.one (c1), .one (Cell.int i2)] H) = laws_markNeedS (k + 1) m c1 i2 H := by
  simp only [laws_markNeedS, ← laws_markNeedS_l0_eq k m]
  kernel_rfl
theorem laws_markNeedS_eq (k : Nat) (c1 : Cell) (i2 : Int) (H : List Entry) : evF G_laws_markNeedS (k + 2) fid_laws_markNeedS [.one (c1), .one (Cell.int i2)] H = laws_markNeedS (k + 1) (k + 1) c1 i2 H :=
  Eq.trans (by kernel_rfl) (laws_markNeedS_code k (k + 1) c1 i2 H)
theorem run_laws_markNeedS_of {c1 : Cell} {i2 : Int} {H : List Entry} {r : Res} (k : Nat) (h : laws_markNeedS (k + 1) (k + 1) c1 i2 H = some r) : run_laws_markNeedS [.one (c1), .one (Cell.int i2)] H = some r := lim_of ((laws_markNeedS_eq k c1 i2 H).trans h)
noncomputable def pl_laws_markCmdS : List (Nat × Run) := [(fid_laws_markStringS, run_laws_markStringS), (fid_laws_markText, run_laws_markText)]
noncomputable def G_laws_markCmdS : Ctx := ctx tyTab fiTab pl_laws_markCmdS
noncomputable def run_laws_markCmdS : Run := lim G_laws_markCmdS fid_laws_markCmdS
theorem ok_laws_markCmdS : FnOk Try.prog OkT fid_laws_markCmdS run_laws_markCmdS := lim_ok (l := pl_laws_markCmdS) Try_mix tyTab_ok fiTab_ok okT (.cons ok_laws_markStringS (.cons ok_laws_markText .nil)) fid_laws_markCmdS
noncomputable def laws_markCmdS_l0 (k m : Nat) : Nat → Cell → Int → Int → List Entry → Option Res
  | 0, _, _, _, _ => none
  | n + 1, c3, i4, i5, H6 =>
    (lenC c3).bind fun n7 =>
    cond (decide (i5 < (n7 : Int)))
    ((callS run_laws_markText [.one (Cell.int i4)] H6).bind fun r8 =>
    cond (shapeOk rk_laws_markText r8)
    ((cS (cellsAt r8 0) 0).bind fun s9 =>
    (idxA 2 (c3) i5).bind fun c10 =>
    (fldA c10 0).bind fun c11 =>
    (hStore H6 (c11) [Cell.str s9]).bind fun h12 =>
    (idxA 2 (c3) i5).bind fun c13 =>
    (fldA c13 1).bind fun c14 =>
    (deref h12 (c14)).bind fun p15 =>
    (cC p15.1 p15.2).bind fun c16 =>
    (run_laws_markStringS [.one (c16), .one (Cell.int (IntKind.i64.wrap (i4 + 1)))] h12).bind fun r17 =>
    cond (shapeOk rk_laws_markStringS r17.1)
    ((cI .i64 (cellsAt r17.1 0) 0).bind fun i18 =>
    laws_markCmdS_l0 k m n (c3) i18 (IntKind.i64.wrap (i5 + 1)) r17.2)
    none)
    none)
    (some ([.one (Cell.int i4)], H6))
noncomputable def laws_markCmdS (k m : Nat) (c1 : Cell) (i2 : Int) (H : List Entry) : Option Res :=
  laws_markCmdS_l0 k m m (c1) i2 0 H
noncomputable abbrev laws_markCmdS_l0_B (k m : Nat) : (Ex → Fr → Option Res) → Fr → Option Res := evC G_laws_markCmdS fi_laws_markCmdS (evF G_laws_markCmdS (k + 1)) m (sub [1, 0, 1, 2, 3] fi_laws_markCmdS.code) none
noncomputable abbrev laws_markCmdS_l0_K (k m : Nat) : Ex → Fr → Option Res := blockK 0 (seqK (evC G_laws_markCmdS fi_laws_markCmdS (evF G_laws_markCmdS (k + 1)) m (sub [1, 1] fi_laws_markCmdS.code) none) (retK G_laws_markCmdS fi_laws_markCmdS))
theorem laws_markCmdS_l0_eq (k m : Nat) : ∀ (n : Nat) (c3 : Cell) (i4 : Int) (i5 : Int) (H6 : List Entry), loopK (some [0, 1, 5]) (laws_markCmdS_l0_B k m) (laws_markCmdS_l0_K k m) n ⟨fT 28 0 [(0, .av (.one (c3))), (1, .av (.one (Cell.int i4))), (5, .av (.one (Cell.int i5)))], fX 28 0 [], H6⟩ = laws_markCmdS_l0 (k + 1) m n c3 i4 i5 H6 := by
  intro n
  induction n with
  | zero => intros; rfl
  | succ n ih =>
    intros
    simp only [laws_markCmdS_l0, ← ih]
    kernel_rfl
theorem laws_markCmdS_code (k m : Nat) (c1 : Cell) (i2 : Int) (H : List Entry) : evC G_laws_markCmdS fi_laws_markCmdS (evF G_laws_markCmdS (k + 1)) m fi_laws_markCmdS.code none (retK G_laws_markCmdS fi_laws_markCmdS) (enter fi_laws_markCmdS [.one (c1), .one (Cell.int i2)] H) = laws_markCmdS (k + 1) m c1 i2 H := by
  simp only [laws_markCmdS, ← laws_markCmdS_l0_eq k m]
  kernel_rfl
theorem laws_markCmdS_eq (k : Nat) (c1 : Cell) (i2 : Int) (H : List Entry) : evF G_laws_markCmdS (k + 2) fid_laws_markCmdS [.one (c1), .one (Cell.int i2)] H = laws_markCmdS (k + 1) (k + 1) c1 i2 H :=
  Eq.trans (by kernel_rfl) (laws_markCmdS_code k (k + 1) c1 i2 H)
theorem run_laws_markCmdS_of {c1 : Cell} {i2 : Int} {H : List Entry} {r : Res} (k : Nat) (h : laws_markCmdS (k + 1) (k + 1) c1 i2 H = some r) : run_laws_markCmdS [.one (c1), .one (Cell.int i2)] H = some r := lim_of ((laws_markCmdS_eq k c1 i2 H).trans h)
end Go.Ev
