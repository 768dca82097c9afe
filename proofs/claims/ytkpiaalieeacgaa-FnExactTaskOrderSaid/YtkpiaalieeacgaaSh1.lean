/- What the evaluator says of the functions, each as a Lean function over cells. Printed by a program of this claim. Conditions: none. -/
import Derived.Test.YtkpiaalieeacgaaSh0
import Derived.KernelRfl
namespace Go.Ev
open Go Go.Proofs
set_option maxRecDepth 100000
set_option linter.unusedVariables false
set_option linter.unusedSimpArgs false
noncomputable def pl_spec_TaskOrder : List (Nat × Run) := [(fid_spec_l13Graph, run_spec_l13Graph), (fid_spec_l11Order, run_spec_l11Order)]
noncomputable def G_spec_TaskOrder : Ctx := ctx tyTab fiTab pl_spec_TaskOrder
noncomputable def run_spec_TaskOrder : Run := lim G_spec_TaskOrder fid_spec_TaskOrder
theorem ok_spec_TaskOrder : FnOk Try.prog OkT fid_spec_TaskOrder run_spec_TaskOrder := lim_ok (l := pl_spec_TaskOrder) Try_mix tyTab_ok fiTab_ok okT (.cons ok_spec_l13Graph (.cons ok_spec_l11Order .nil)) fid_spec_TaskOrder
noncomputable def spec_TaskOrder (k m : Nat) (c1 : Cell) (c2 : Cell) : Option Res :=
  (callL run_spec_l13Graph [.agg [c1, c2]] []).bind fun r3 =>
  cond (shapeOk rk_spec_l13Graph r3.1)
  ((cC (cellsAt r3.1 0) 0).bind fun c4 =>
  (cC (cellsAt r3.1 0) 1).bind fun c5 =>
  (callL run_spec_l11Order [.agg [c4, c5]] r3.2).bind fun r6 =>
  cond (shapeOk rk_spec_l11Order r6.1)
  ((cC (cellsAt r6.1 0) 0).bind fun c7 =>
  (cB (cellsAt r6.1 1) 0).bind fun b8 =>
  some ([.one (c7), .one (Cell.bool b8)], r6.2))
  none)
  none
theorem spec_TaskOrder_code (k m : Nat) (c1 : Cell) (c2 : Cell) : evC G_spec_TaskOrder fi_spec_TaskOrder (evF G_spec_TaskOrder (k + 1)) m fi_spec_TaskOrder.code none (retK G_spec_TaskOrder fi_spec_TaskOrder) (enter fi_spec_TaskOrder [.agg [c1, c2]] []) = spec_TaskOrder (k + 1) m c1 c2 := by
  kernel_rfl
theorem spec_TaskOrder_eq (k : Nat) (c1 : Cell) (c2 : Cell) : evF G_spec_TaskOrder (k + 2) fid_spec_TaskOrder [.agg [c1, c2]] [] = spec_TaskOrder (k + 1) (k + 1) c1 c2 :=
  Eq.trans (by kernel_rfl) (spec_TaskOrder_code k (k + 1) c1 c2)
theorem run_spec_TaskOrder_of {c1 : Cell} {c2 : Cell} {r : Res} (k : Nat) (h : spec_TaskOrder (k + 1) (k + 1) c1 c2 = some r) : run_spec_TaskOrder [.agg [c1, c2]] [] = some r := lim_of ((spec_TaskOrder_eq k c1 c2).trans h)
noncomputable def pl_impl_Plan_graph : List (Nat × Run) := []
noncomputable def G_impl_Plan_graph : Ctx := ctx tyTab fiTab pl_impl_Plan_graph
noncomputable def run_impl_Plan_graph : Run := lim G_impl_Plan_graph fid_impl_Plan_graph
theorem ok_impl_Plan_graph : FnOk Try.prog OkT fid_impl_Plan_graph run_impl_Plan_graph := lim_ok (l := pl_impl_Plan_graph) Try_mix tyTab_ok fiTab_ok okT .nil fid_impl_Plan_graph
noncomputable def impl_Plan_graph_l0 (k m : Nat) : Nat → Cell → Cell → Int → Int → List Entry → Option Res
  | 0, _, _, _, _, _ => none
  | n + 1, c11, c12, i13, i14, H15 =>
    cond (decide (i14 < i13))
    ((ptrC c11).bind fun c16 =>
    (fldA c16 1).bind fun c17 =>
    (deref H15 (c17)).bind fun p18 =>
    (cC p18.1 p18.2).bind fun c19 =>
    (lenC c19).bind fun n20 =>
    cond (decide (i14 < (n20 : Int)))
    ((ptrC c11).bind fun c21 =>
    (fldA c21 1).bind fun c22 =>
    (deref H15 (c22)).bind fun p23 =>
    (cC p23.1 p23.2).bind fun c24 =>
    (idxA 1 (c24) i14).bind fun c25 =>
    (deref H15 (c25)).bind fun p26 =>
    (cC p26.1 p26.2).bind fun c27 =>
    (ptrC c12).bind fun c28 =>
    (fldA c28 1).bind fun c29 =>
    (deref H15 (c29)).bind fun p30 =>
    (cC p30.1 p30.2).bind fun c31 =>
    restK [c27] fun d32 =>
    (srcRows H15 1 (.lst true 1 (chunks 1 1 d32))).bind fun r33 =>
    (app H15 1 24 (c31) r33).bind fun p34 =>
    (ptrC c12).bind fun c35 =>
    (fldA c35 1).bind fun c36 =>
    (hStore p34.2 (c36) [p34.1]).bind fun h37 =>
    impl_Plan_graph_l0 k m n (c11) (c12) i13 (IntKind.i64.wrap (i14 + 1)) h37)
    ((ptrC c12).bind fun c38 =>
    (fldA c38 1).bind fun c39 =>
    (deref H15 (c39)).bind fun p40 =>
    (cC p40.1 p40.2).bind fun c41 =>
    (app H15 1 24 (c41) [[.lst true 1 []]]).bind fun p42 =>
    (ptrC c12).bind fun c43 =>
    (fldA c43 1).bind fun c44 =>
    (hStore p42.2 (c44) [p42.1]).bind fun h45 =>
    impl_Plan_graph_l0 k m n (c11) (c12) i13 (IntKind.i64.wrap (i14 + 1)) h45))
    (some ([.one (c12)], H15))
noncomputable def impl_Plan_graph (k m : Nat) (c1 : Cell) (H : List Entry) : Option Res :=
  (ptrC c1).bind fun c2 =>
  (fldA c2 0).bind fun c3 =>
  (deref H (c3)).bind fun p4 =>
  (cC p4.1 p4.2).bind fun c5 =>
  (ptrC c1).bind fun c6 =>
  (fldA c6 0).bind fun c7 =>
  (deref (H ++ [Entry.mk 2 [[c5, .lst true 1 []]] 0 false]) (c7)).bind fun p8 =>
  (cC p8.1 p8.2).bind fun c9 =>
  (lenC c9).bind fun n10 =>
  impl_Plan_graph_l0 k m m (c1) (.ptr H.length 2 0 0 0) (n10 : Int) 0 (H ++ [Entry.mk 2 [[c5, .lst true 1 []]] 0 false])
noncomputable abbrev impl_Plan_graph_l0_B (k m : Nat) : (Ex → Fr → Option Res) → Fr → Option Res := evC G_impl_Plan_graph fi_impl_Plan_graph (evF G_impl_Plan_graph (k + 1)) m (sub [1, 1, 0, 1, 2, 3] fi_impl_Plan_graph.code) none
noncomputable abbrev impl_Plan_graph_l0_K (k m : Nat) : Ex → Fr → Option Res := blockK 0 (seqK (evC G_impl_Plan_graph fi_impl_Plan_graph (evF G_impl_Plan_graph (k + 1)) m (sub [1, 1, 1] fi_impl_Plan_graph.code) none) (retK G_impl_Plan_graph fi_impl_Plan_graph))
theorem impl_Plan_graph_l0_eq (k m : Nat) : ∀ (n : Nat) (c11 : Cell) (c12 : Cell) (i13 : Int) (i14 : Int) (H15 : List Entry), loopK (some [0, 3, 16, 17]) (impl_Plan_graph_l0_B k m) (impl_Plan_graph_l0_K k m) n ⟨fT 46 0 [(0, .av (.one (c11))), (3, .av (.one (c12))), (16, .av (.one (Cell.int i13))), (17, .av (.one (Cell.int i14)))], fX 46 0 [], H15⟩ = impl_Plan_graph_l0 (k + 1) m n c11 c12 i13 i14 H15 := by
  intro n
  induction n with
  | zero => intros; rfl
  | succ n ih =>
    intros
    simp only [impl_Plan_graph_l0, ← ih]
    kernel_rfl
theorem impl_Plan_graph_code (k m : Nat) (c1 : Cell) (H : List Entry) : evC G_impl_Plan_graph fi_impl_Plan_graph (evF G_impl_Plan_graph (k + 1)) m fi_impl_Plan_graph.code none (retK G_impl_Plan_graph fi_impl_Plan_graph) (enter fi_impl_Plan_graph [.one (c1)] H) = impl_Plan_graph (k + 1) m c1 H := by
  simp only [impl_Plan_graph, ← impl_Plan_graph_l0_eq k m]
  kernel_rfl
theorem impl_Plan_graph_eq (k : Nat) (c1 : Cell) (H : List Entry) : evF G_impl_Plan_graph (k + 2) fid_impl_Plan_graph [.one (c1)] H = impl_Plan_graph (k + 1) (k + 1) c1 H :=
  Eq.trans (by kernel_rfl) (impl_Plan_graph_code k (k + 1) c1 H)
theorem run_impl_Plan_graph_of {c1 : Cell} {H : List Entry} {r : Res} (k : Nat) (h : impl_Plan_graph (k + 1) (k + 1) c1 H = some r) : run_impl_Plan_graph [.one (c1)] H = some r := lim_of ((impl_Plan_graph_eq k c1 H).trans h)
noncomputable def pl_slices_Index_string : List (Nat × Run) := []
noncomputable def G_slices_Index_string : Ctx := ctx tyTab fiTab pl_slices_Index_string
noncomputable def run_slices_Index_string : Run := lim G_slices_Index_string fid_slices_Index_string
theorem ok_slices_Index_string : FnOk Try.prog OkT fid_slices_Index_string run_slices_Index_string := lim_ok (l := pl_slices_Index_string) Try_mix tyTab_ok fiTab_ok okT .nil fid_slices_Index_string
noncomputable def slices_Index_string_l0 (k m : Nat) : Nat → Cell → ByteArray → Int → Int → Option Res
  | 0, _, _, _, _ => none
  | n + 1, c4, s5, i6, i7 =>
    cond (decide (i7 < i6))
    ((idxA 1 (c4) i7).bind fun c8 =>
    (deref [] (c8)).bind fun p9 =>
    (cS p9.1 p9.2).bind fun s10 =>
    cond (s5.toList == s10.toList)
    (some ([.one (Cell.int i7)], []))
    (slices_Index_string_l0 k m n (c4) s5 i6 (IntKind.i64.wrap (i7 + 1))))
    (some ([.one (Cell.int (-1))], []))
noncomputable def slices_Index_string (k m : Nat) (c1 : Cell) (s2 : ByteArray) : Option Res :=
  (lenC c1).bind fun n3 =>
  slices_Index_string_l0 k m m (c1) s2 (n3 : Int) 0
noncomputable abbrev slices_Index_string_l0_B (k m : Nat) : (Ex → Fr → Option Res) → Fr → Option Res := evC G_slices_Index_string fi_slices_Index_string (evF G_slices_Index_string (k + 1)) m (sub [1, 0, 1, 2, 3] fi_slices_Index_string.code) none
noncomputable abbrev slices_Index_string_l0_K (k m : Nat) : Ex → Fr → Option Res := blockK 0 (seqK (evC G_slices_Index_string fi_slices_Index_string (evF G_slices_Index_string (k + 1)) m (sub [1, 1] fi_slices_Index_string.code) none) (retK G_slices_Index_string fi_slices_Index_string))
theorem slices_Index_string_l0_eq (k m : Nat) : ∀ (n : Nat) (c4 : Cell) (s5 : ByteArray) (i6 : Int) (i7 : Int), loopK (some [0, 1, 7, 8]) (slices_Index_string_l0_B k m) (slices_Index_string_l0_K k m) n ⟨fT 19 0 [(0, .av (.one (c4))), (1, .av (.one (Cell.str s5))), (7, .av (.one (Cell.int i6))), (8, .av (.one (Cell.int i7)))], fX 19 0 [], []⟩ = slices_Index_string_l0 (k + 1) m n c4 s5 i6 i7 := by
  intro n
  induction n with
  | zero => intros; rfl
  | succ n ih =>
    intros
    simp only [slices_Index_string_l0, ← ih]
    kernel_rfl
theorem slices_Index_string_code (k m : Nat) (c1 : Cell) (s2 : ByteArray) : evC G_slices_Index_string fi_slices_Index_string (evF G_slices_Index_string (k + 1)) m fi_slices_Index_string.code none (retK G_slices_Index_string fi_slices_Index_string) (enter fi_slices_Index_string [.one (c1), .one (Cell.str s2)] []) = slices_Index_string (k + 1) m c1 s2 := by
  simp only [slices_Index_string, ← slices_Index_string_l0_eq k m]
  kernel_rfl
theorem slices_Index_string_eq (k : Nat) (c1 : Cell) (s2 : ByteArray) : evF G_slices_Index_string (k + 2) fid_slices_Index_string [.one (c1), .one (Cell.str s2)] [] = slices_Index_string (k + 1) (k + 1) c1 s2 :=
  Eq.trans (by kernel_rfl) (slices_Index_string_code k (k + 1) c1 s2)
theorem run_slices_Index_string_of {c1 : Cell} {s2 : ByteArray} {r : Res} (k : Nat) (h : slices_Index_string (k + 1) (k + 1) c1 s2 = some r) : run_slices_Index_string [.one (c1), .one (Cell.str s2)] [] = some r := lim_of ((slices_Index_string_eq k c1 s2).trans h)
noncomputable def pl_slices_Contains_string : List (Nat × Run) := [(fid_slices_Index_string, run_slices_Index_string)]
noncomputable def G_slices_Contains_string : Ctx := ctx tyTab fiTab pl_slices_Contains_string
noncomputable def run_slices_Contains_string : Run := lim G_slices_Contains_string fid_slices_Contains_string
theorem ok_slices_Contains_string : FnOk Try.prog OkT fid_slices_Contains_string run_slices_Contains_string := lim_ok (l := pl_slices_Contains_string) Try_mix tyTab_ok fiTab_ok okT (.cons ok_slices_Index_string .nil) fid_slices_Contains_string
noncomputable def slices_Contains_string (k m : Nat) (c1 : Cell) (s2 : ByteArray) : Option Res :=
  (callS run_slices_Index_string [.one (c1), .one (Cell.str s2)] []).bind fun r3 =>
  cond (shapeOk rk_slices_Index_string r3)
  ((cI .i64 (cellsAt r3 0) 0).bind fun i4 =>
  some ([.one (Cell.bool (decide (i4 ≥ 0)))], []))
  none
theorem slices_Contains_string_code (k m : Nat) (c1 : Cell) (s2 : ByteArray) : evC G_slices_Contains_string fi_slices_Contains_string (evF G_slices_Contains_string (k + 1)) m fi_slices_Contains_string.code none (retK G_slices_Contains_string fi_slices_Contains_string) (enter fi_slices_Contains_string [.one (c1), .one (Cell.str s2)] []) = slices_Contains_string (k + 1) m c1 s2 := by
  kernel_rfl
theorem slices_Contains_string_eq (k : Nat) (c1 : Cell) (s2 : ByteArray) : evF G_slices_Contains_string (k + 2) fid_slices_Contains_string [.one (c1), .one (Cell.str s2)] [] = slices_Contains_string (k + 1) (k + 1) c1 s2 :=
  Eq.trans (by kernel_rfl) (slices_Contains_string_code k (k + 1) c1 s2)
theorem run_slices_Contains_string_of {c1 : Cell} {s2 : ByteArray} {r : Res} (k : Nat) (h : slices_Contains_string (k + 1) (k + 1) c1 s2 = some r) : run_slices_Contains_string [.one (c1), .one (Cell.str s2)] [] = some r := lim_of ((slices_Contains_string_eq k c1 s2).trans h)
noncomputable def pl_impl_graph_onOf : List (Nat × Run) := [(fid_slices_Index_string, run_slices_Index_string)]
noncomputable def G_impl_graph_onOf : Ctx := ctx tyTab fiTab pl_impl_graph_onOf
noncomputable def run_impl_graph_onOf : Run := lim G_impl_graph_onOf fid_impl_graph_onOf
theorem ok_impl_graph_onOf : FnOk Try.prog OkT fid_impl_graph_onOf run_impl_graph_onOf := lim_ok (l := pl_impl_graph_onOf) Try_mix tyTab_ok fiTab_ok okT (.cons ok_slices_Index_string .nil) fid_impl_graph_onOf
noncomputable def impl_graph_onOf (k m : Nat) (c1 : Cell) (s2 : ByteArray) (H : List Entry) : Option Res :=
  (ptrC c1).bind fun c3 =>
  (fldA c3 0).bind fun c4 =>
  (deref H (c4)).bind fun p5 =>
  (cC p5.1 p5.2).bind fun c6 =>
  (callS run_slices_Index_string [.one (c6), .one (Cell.str s2)] H).bind fun r7 =>
  cond (shapeOk rk_slices_Index_string r7)
  ((cI .i64 (cellsAt r7 0) 0).bind fun i8 =>
  cond (decide (i8 < 0))
  (some ([.one (.lst true 1 [])], H))
  ((ptrC c1).bind fun c9 =>
  (fldA c9 1).bind fun c10 =>
  (deref H (c10)).bind fun p11 =>
  (cC p11.1 p11.2).bind fun c12 =>
  (idxA 1 (c12) i8).bind fun c13 =>
  (deref H (c13)).bind fun p14 =>
  (cC p14.1 p14.2).bind fun c15 =>
  some ([.one (c15)], H)))
  none
theorem impl_graph_onOf_code (k m : Nat) (c1 : Cell) (s2 : ByteArray) (H : List Entry) : evC G_impl_graph_onOf fi_impl_graph_onOf (evF G_impl_graph_onOf (k + 1)) m fi_impl_graph_onOf.code none (retK G_impl_graph_onOf fi_impl_graph_onOf) (enter fi_impl_graph_onOf [.one (c1), .one (Cell.str s2)] H) = impl_graph_onOf (k + 1) m c1 s2 H := by
  kernel_rfl
theorem impl_graph_onOf_eq (k : Nat) (c1 : Cell) (s2 : ByteArray) (H : List Entry) : evF G_impl_graph_onOf (k + 2) fid_impl_graph_onOf [.one (c1), .one (Cell.str s2)] H = impl_graph_onOf (k + 1) (k + 1) c1 s2 H :=
  Eq.trans (by kernel_rfl) (impl_graph_onOf_code k (k + 1) c1 s2 H)
theorem run_impl_graph_onOf_of {c1 : Cell} {s2 : ByteArray} {H : List Entry} {r : Res} (k : Nat) (h : impl_graph_onOf (k + 1) (k + 1) c1 s2 H = some r) : run_impl_graph_onOf [.one (c1), .one (Cell.str s2)] H = some r := lim_of ((impl_graph_onOf_eq k c1 s2 H).trans h)
noncomputable def pl_impl_graph_canBeNext : List (Nat × Run) := [(fid_impl_graph_onOf, run_impl_graph_onOf), (fid_slices_Contains_string, run_slices_Contains_string)]
noncomputable def G_impl_graph_canBeNext : Ctx := ctx tyTab fiTab pl_impl_graph_canBeNext
noncomputable def run_impl_graph_canBeNext : Run := lim G_impl_graph_canBeNext fid_impl_graph_canBeNext
theorem ok_impl_graph_canBeNext : FnOk Try.prog OkT fid_impl_graph_canBeNext run_impl_graph_canBeNext := lim_ok (l := pl_impl_graph_canBeNext) Try_mix tyTab_ok fiTab_ok okT (.cons ok_impl_graph_onOf (.cons ok_slices_Contains_string .nil)) fid_impl_graph_canBeNext
noncomputable def impl_graph_canBeNext_l0 (k m : Nat) : Nat → Cell → Cell → Cell → Int → Int → List Entry → Option Res
  | 0, _, _, _, _, _, _ => none
  | n + 1, c7, c8, c9, i10, i11, H12 =>
    cond (decide (i11 < i10))
    ((idxA 1 (c9) i11).bind fun c13 =>
    (deref H12 (c13)).bind fun p14 =>
    (cS p14.1 p14.2).bind fun s15 =>
    (ptrC c7).bind fun c16 =>
    (fldA c16 0).bind fun c17 =>
    (deref H12 (c17)).bind fun p18 =>
    (cC p18.1 p18.2).bind fun c19 =>
    (callS run_slices_Contains_string [.one (c19), .one (Cell.str s15)] H12).bind fun r20 =>
    cond (shapeOk rk_slices_Contains_string r20)
    ((cB (cellsAt r20 0) 0).bind fun b21 =>
    cond b21
    ((callS run_slices_Contains_string [.one (c8), .one (Cell.str s15)] H12).bind fun r22 =>
    cond (shapeOk rk_slices_Contains_string r22)
    ((cB (cellsAt r22 0) 0).bind fun b23 =>
    cond (!b23)
    (some ([.one (Cell.bool false)], H12))
    (impl_graph_canBeNext_l0 k m n (c7) (c8) (c9) i10 (IntKind.i64.wrap (i11 + 1)) H12))
    none)
    (impl_graph_canBeNext_l0 k m n (c7) (c8) (c9) i10 (IntKind.i64.wrap (i11 + 1)) H12))
    none)
    (some ([.one (Cell.bool true)], H12))
noncomputable def impl_graph_canBeNext (k m : Nat) (c1 : Cell) (s2 : ByteArray) (c3 : Cell) (H : List Entry) : Option Res :=
  (run_impl_graph_onOf [.one (c1), .one (Cell.str s2)] H).bind fun r4 =>
  cond (shapeOk rk_impl_graph_onOf r4.1)
  ((cC (cellsAt r4.1 0) 0).bind fun c5 =>
  (lenC c5).bind fun n6 =>
  impl_graph_canBeNext_l0 k m m (c1) (c3) (c5) (n6 : Int) 0 r4.2)
  none
noncomputable abbrev impl_graph_canBeNext_l0_B (k m : Nat) : (Ex → Fr → Option Res) → Fr → Option Res := evC G_impl_graph_canBeNext fi_impl_graph_canBeNext (evF G_impl_graph_canBeNext (k + 1)) m (sub [1, 0, 1, 2, 3] fi_impl_graph_canBeNext.code) none
noncomputable abbrev impl_graph_canBeNext_l0_K (k m : Nat) : Ex → Fr → Option Res := blockK 0 (seqK (evC G_impl_graph_canBeNext fi_impl_graph_canBeNext (evF G_impl_graph_canBeNext (k + 1)) m (sub [1, 1] fi_impl_graph_canBeNext.code) none) (retK G_impl_graph_canBeNext fi_impl_graph_canBeNext))
theorem impl_graph_canBeNext_l0_eq (k m : Nat) : ∀ (n : Nat) (c7 : Cell) (c8 : Cell) (c9 : Cell) (i10 : Int) (i11 : Int) (H12 : List Entry), loopK (some [0, 2, 11, 12, 13]) (impl_graph_canBeNext_l0_B k m) (impl_graph_canBeNext_l0_K k m) n ⟨fT 30 0 [(0, .av (.one (c7))), (2, .av (.one (c8))), (11, .av (.one (c9))), (12, .av (.one (Cell.int i10))), (13, .av (.one (Cell.int i11)))], fX 30 0 [], H12⟩ = impl_graph_canBeNext_l0 (k + 1) m n c7 c8 c9 i10 i11 H12 := by
  intro n
  induction n with
  | zero => intros; rfl
  | succ n ih =>
    intros
    simp only [impl_graph_canBeNext_l0, ← ih]
    kernel_rfl
theorem impl_graph_canBeNext_code (k m : Nat) (c1 : Cell) (s2 : ByteArray) (c3 : Cell) (H : List Entry) : evC G_impl_graph_canBeNext fi_impl_graph_canBeNext (evF G_impl_graph_canBeNext (k + 1)) m fi_impl_graph_canBeNext.code none (retK G_impl_graph_canBeNext fi_impl_graph_canBeNext) (enter fi_impl_graph_canBeNext [.one (c1), .one (Cell.str s2), .one (c3)] H) = impl_graph_canBeNext (k + 1) m c1 s2 c3 H := by
  simp only [impl_graph_canBeNext, ← impl_graph_canBeNext_l0_eq k m]
  kernel_rfl
theorem impl_graph_canBeNext_eq (k : Nat) (c1 : Cell) (s2 : ByteArray) (c3 : Cell) (H : List Entry) : evF G_impl_graph_canBeNext (k + 2) fid_impl_graph_canBeNext [.one (c1), .one (Cell.str s2), .one (c3)] H = impl_graph_canBeNext (k + 1) (k + 1) c1 s2 c3 H :=
  Eq.trans (by kernel_rfl) (impl_graph_canBeNext_code k (k + 1) c1 s2 c3 H)
theorem run_impl_graph_canBeNext_of {c1 : Cell} {s2 : ByteArray} {c3 : Cell} {H : List Entry} {r : Res} (k : Nat) (h : impl_graph_canBeNext (k + 1) (k + 1) c1 s2 c3 H = some r) : run_impl_graph_canBeNext [.one (c1), .one (Cell.str s2), .one (c3)] H = some r := lim_of ((impl_graph_canBeNext_eq k c1 s2 c3 H).trans h)
noncomputable def pl_impl_graph_order_1 : List (Nat × Run) := [(fid_slices_Contains_string, run_slices_Contains_string), (fid_impl_graph_canBeNext, run_impl_graph_canBeNext)]
noncomputable def G_impl_graph_order_1 : Ctx := ctx tyTab fiTab pl_impl_graph_order_1
noncomputable def run_impl_graph_order_1 : Run := lim G_impl_graph_order_1 fid_impl_graph_order_1
theorem ok_impl_graph_order_1 : FnOk Try.prog OkT fid_impl_graph_order_1 run_impl_graph_order_1 := lim_ok (l := pl_impl_graph_order_1) Try_mix tyTab_ok fiTab_ok okT (.cons ok_slices_Contains_string (.cons ok_impl_graph_canBeNext .nil)) fid_impl_graph_order_1
noncomputable def impl_graph_order_1 (k m : Nat) (s1 : ByteArray) (c2 : Cell) (c3 : Cell) (H : List Entry) : Option Res :=
  (deref H (c2)).bind fun p4 =>
  (cC p4.1 p4.2).bind fun c5 =>
  (callS run_slices_Contains_string [.one (c5), .one (Cell.str s1)] H).bind fun r6 =>
  cond (shapeOk rk_slices_Contains_string r6)
  ((cB (cellsAt r6 0) 0).bind fun b7 =>
  cond (!b7)
  ((deref H (c3)).bind fun p8 =>
  (cC p8.1 p8.2).bind fun c9 =>
  (deref H (c2)).bind fun p10 =>
  (cC p10.1 p10.2).bind fun c11 =>
  (run_impl_graph_canBeNext [.one (c9), .one (Cell.str s1), .one (c11)] H).bind fun r12 =>
  cond (shapeOk rk_impl_graph_canBeNext r12.1)
  ((cB (cellsAt r12.1 0) 0).bind fun b13 =>
  some ([.one (Cell.bool b13)], r12.2))
  none)
  (some ([.one (Cell.bool false)], H)))
  none
theorem impl_graph_order_1_code (k m : Nat) (s1 : ByteArray) (c2 : Cell) (c3 : Cell) (H : List Entry) : evC G_impl_graph_order_1 fi_impl_graph_order_1 (evF G_impl_graph_order_1 (k + 1)) m fi_impl_graph_order_1.code none (retK G_impl_graph_order_1 fi_impl_graph_order_1) (enter fi_impl_graph_order_1 [.one (Cell.str s1), .one (c2), .one (c3)] H) = impl_graph_order_1 (k + 1) m s1 c2 c3 H := by
  kernel_rfl
theorem impl_graph_order_1_eq (k : Nat) (s1 : ByteArray) (c2 : Cell) (c3 : Cell) (H : List Entry) : evF G_impl_graph_order_1 (k + 2) fid_impl_graph_order_1 [.one (Cell.str s1), .one (c2), .one (c3)] H = impl_graph_order_1 (k + 1) (k + 1) s1 c2 c3 H :=
  Eq.trans (by kernel_rfl) (impl_graph_order_1_code k (k + 1) s1 c2 c3 H)
theorem run_impl_graph_order_1_of {s1 : ByteArray} {c2 : Cell} {c3 : Cell} {H : List Entry} {r : Res} (k : Nat) (h : impl_graph_order_1 (k + 1) (k + 1) s1 c2 c3 H = some r) : run_impl_graph_order_1 [.one (Cell.str s1), .one (c2), .one (c3)] H = some r := lim_of ((impl_graph_order_1_eq k s1 c2 c3 H).trans h)
noncomputable def pl_slices_IndexFunc_string : List (Nat × Run) := [(fid_impl_graph_order_1, run_impl_graph_order_1)]
noncomputable def G_slices_IndexFunc_string : Ctx := ctx tyTab fiTab pl_slices_IndexFunc_string
noncomputable def run_slices_IndexFunc_string : Run := lim G_slices_IndexFunc_string fid_slices_IndexFunc_string
theorem ok_slices_IndexFunc_string : FnOk Try.prog OkT fid_slices_IndexFunc_string run_slices_IndexFunc_string := lim_ok (l := pl_slices_IndexFunc_string) Try_mix tyTab_ok fiTab_ok okT (.cons ok_impl_graph_order_1 .nil) fid_slices_IndexFunc_string
noncomputable def slices_IndexFunc_string_impl_graph_order_1_l0 (k m : Nat) : Nat → Cell → Cell → Cell → Int → Int → List Entry → Option Res
  | 0, _, _, _, _, _, _ => none
  | n + 1, c3, c4, c5, i6, i7, H8 =>
    cond (decide (i7 < i6))
    ((idxA 1 (c3) i7).bind fun c9 =>
    (deref H8 (c9)).bind fun p10 =>
    (cS p10.1 p10.2).bind fun s11 =>
    (run_impl_graph_order_1 [.one (Cell.str s11), .one (c4), .one (c5)] H8).bind fun r12 =>
    cond (shapeOk rk_impl_graph_order_1 r12.1)
    ((cB (cellsAt r12.1 0) 0).bind fun b13 =>
    cond b13
    (some ([.one (Cell.int i7)], r12.2))
    (slices_IndexFunc_string_impl_graph_order_1_l0 k m n (c3) (c4) (c5) i6 (IntKind.i64.wrap (i7 + 1)) r12.2))
    none)
    (some ([.one (Cell.int (-1))], H8))
noncomputable def slices_IndexFunc_string_impl_graph_order_1 (k m : Nat) (c1 : Cell) (q2 : Cell) (q3 : Cell) (H : List Entry) : Option Res :=
  (lenC c1).bind fun n2 =>
  slices_IndexFunc_string_impl_graph_order_1_l0 k m m (c1) (q2) (q3) (n2 : Int) 0 H
noncomputable abbrev slices_IndexFunc_string_impl_graph_order_1_l0_B (k m : Nat) : (Ex → Fr → Option Res) → Fr → Option Res := evC G_slices_IndexFunc_string fi_slices_IndexFunc_string (evF G_slices_IndexFunc_string (k + 1)) m (sub [1, 0, 1, 2, 3] fi_slices_IndexFunc_string.code) none
noncomputable abbrev slices_IndexFunc_string_impl_graph_order_1_l0_K (k m : Nat) : Ex → Fr → Option Res := blockK 0 (seqK (evC G_slices_IndexFunc_string fi_slices_IndexFunc_string (evF G_slices_IndexFunc_string (k + 1)) m (sub [1, 1] fi_slices_IndexFunc_string.code) none) (retK G_slices_IndexFunc_string fi_slices_IndexFunc_string))
theorem slices_IndexFunc_string_impl_graph_order_1_l0_eq (k m : Nat) : ∀ (n : Nat) (c3 : Cell) (c4 : Cell) (c5 : Cell) (i6 : Int) (i7 : Int) (H8 : List Entry), loopK (some [0, 1, 7, 8]) (slices_IndexFunc_string_impl_graph_order_1_l0_B k m) (slices_IndexFunc_string_impl_graph_order_1_l0_K k m) n ⟨fT 19 0 [(0, .av (.one (c3))), (1, .av (.one (.fn fid_impl_graph_order_1 [] [c4, c5]))), (7, .av (.one (Cell.int i6))), (8, .av (.one (Cell.int i7)))], fX 19 0 [], H8⟩ = slices_IndexFunc_string_impl_graph_order_1_l0 (k + 1) m n c3 c4 c5 i6 i7 H8 := by
  intro n
  induction n with
  | zero => intros; rfl
  | succ n ih =>
    intros
    simp only [slices_IndexFunc_string_impl_graph_order_1_l0, ← ih]
    kernel_rfl
theorem slices_IndexFunc_string_impl_graph_order_1_code (k m : Nat) (c1 : Cell) (q2 : Cell) (q3 : Cell) (H : List Entry) : evC G_slices_IndexFunc_string fi_slices_IndexFunc_string (evF G_slices_IndexFunc_string (k + 1)) m fi_slices_IndexFunc_string.code none (retK G_slices_IndexFunc_string fi_slices_IndexFunc_string) (enter fi_slices_IndexFunc_string [.one (c1), .one (.fn fid_impl_graph_order_1 [] [q2, q3])] H) = slices_IndexFunc_string_impl_graph_order_1 (k + 1) m c1 q2 q3 H := by
  simp only [slices_IndexFunc_string_impl_graph_order_1, ← slices_IndexFunc_string_impl_graph_order_1_l0_eq k m]
  kernel_rfl
theorem slices_IndexFunc_string_impl_graph_order_1_eq (k : Nat) (c1 : Cell) (q2 : Cell) (q3 : Cell) (H : List Entry) : evF G_slices_IndexFunc_string (k + 2) fid_slices_IndexFunc_string [.one (c1), .one (.fn fid_impl_graph_order_1 [] [q2, q3])] H = slices_IndexFunc_string_impl_graph_order_1 (k + 1) (k + 1) c1 q2 q3 H :=
  Eq.trans (by kernel_rfl) (slices_IndexFunc_string_impl_graph_order_1_code k (k + 1) c1 q2 q3 H)
theorem run_slices_IndexFunc_string_impl_graph_order_1_of {c1 : Cell} {q2 : Cell} {q3 : Cell} {H : List Entry} {r : Res} (k : Nat) (h : slices_IndexFunc_string_impl_graph_order_1 (k + 1) (k + 1) c1 q2 q3 H = some r) : run_slices_IndexFunc_string [.one (c1), .one (.fn fid_impl_graph_order_1 [] [q2, q3])] H = some r := lim_of ((slices_IndexFunc_string_impl_graph_order_1_eq k c1 q2 q3 H).trans h)
noncomputable def pl_impl_graph_order : List (Nat × Run) := [(fid_slices_IndexFunc_string, run_slices_IndexFunc_string), (fid_impl_graph_order_1, run_impl_graph_order_1)]
noncomputable def G_impl_graph_order : Ctx := ctx tyTab fiTab pl_impl_graph_order
noncomputable def run_impl_graph_order : Run := lim G_impl_graph_order fid_impl_graph_order
theorem ok_impl_graph_order : FnOk Try.prog OkT fid_impl_graph_order run_impl_graph_order := lim_ok (l := pl_impl_graph_order) Try_mix tyTab_ok fiTab_ok okT (.cons ok_slices_IndexFunc_string (.cons ok_impl_graph_order_1 .nil)) fid_impl_graph_order
noncomputable def impl_graph_order_l0 (k m : Nat) : Nat → Cell → Cell → List Entry → Option Res
  | 0, _, _, _ => none
  | n + 1, c2, c3, H4 =>
    (deref H4 (c3)).bind fun p5 =>
    (cC p5.1 p5.2).bind fun c6 =>
    (lenC c6).bind fun n7 =>
    (deref H4 (c2)).bind fun p8 =>
    (cC p8.1 p8.2).bind fun c9 =>
    (ptrC c9).bind fun c10 =>
    (fldA c10 0).bind fun c11 =>
    (deref H4 (c11)).bind fun p12 =>
    (cC p12.1 p12.2).bind fun c13 =>
    (lenC c13).bind fun n14 =>
    cond (decide ((n7 : Int) < (n14 : Int)))
    ((deref H4 (c2)).bind fun p15 =>
    (cC p15.1 p15.2).bind fun c16 =>
    (ptrC c16).bind fun c17 =>
    (fldA c17 0).bind fun c18 =>
    (deref H4 (c18)).bind fun p19 =>
    (cC p19.1 p19.2).bind fun c20 =>
    (run_slices_IndexFunc_string [.one (c20), .one (.fn fid_impl_graph_order_1 [] [c3, c2])] H4).bind fun r21 =>
    cond (shapeOk rk_slices_IndexFunc_string r21.1)
    ((cI .i64 (cellsAt r21.1 0) 0).bind fun i22 =>
    cond (decide (i22 < 0))
    (some ([.one (.lst true 1 []), .one (Cell.bool false)], r21.2))
    ((deref r21.2 (c3)).bind fun p23 =>
    (cC p23.1 p23.2).bind fun c24 =>
    (deref r21.2 (c2)).bind fun p25 =>
    (cC p25.1 p25.2).bind fun c26 =>
    (ptrC c26).bind fun c27 =>
    (fldA c27 0).bind fun c28 =>
    (deref r21.2 (c28)).bind fun p29 =>
    (cC p29.1 p29.2).bind fun c30 =>
    (idxA 1 (c30) i22).bind fun c31 =>
    (deref r21.2 (c31)).bind fun p32 =>
    (cS p32.1 p32.2).bind fun s33 =>
    (app r21.2 1 16 (c24) [[Cell.str s33]]).bind fun p34 =>
    (hStore p34.2 (c3) [p34.1]).bind fun h35 =>
    impl_graph_order_l0 k m n (c2) (c3) h35))
    none)
    ((deref H4 (c3)).bind fun p36 =>
    (cC p36.1 p36.2).bind fun c37 =>
    some ([.one (c37), .one (Cell.bool true)], H4))
noncomputable def impl_graph_order (k m : Nat) (c1 : Cell) (H : List Entry) : Option Res :=
  impl_graph_order_l0 k m m (.ptr H.length 1 0 0 0) (.ptr ((H ++ [Entry.mk 1 [[c1]] 0 false]).length) 1 0 0 0) ((H ++ [Entry.mk 1 [[c1]] 0 false]) ++ [Entry.mk 1 [[.lst true 1 []]] 0 false])
noncomputable abbrev impl_graph_order_l0_B (k m : Nat) : (Ex → Fr → Option Res) → Fr → Option Res := evC G_impl_graph_order fi_impl_graph_order (evF G_impl_graph_order (k + 1)) m (sub [1, 1, 0, 2, 3] fi_impl_graph_order.code) none
noncomputable abbrev impl_graph_order_l0_K (k m : Nat) : Ex → Fr → Option Res := blockK 0 (seqK (evC G_impl_graph_order fi_impl_graph_order (evF G_impl_graph_order (k + 1)) m (sub [1, 1, 1] fi_impl_graph_order.code) none) (retK G_impl_graph_order fi_impl_graph_order))
theorem impl_graph_order_l0_eq (k m : Nat) : ∀ (n : Nat) (c2 : Cell) (c3 : Cell) (H4 : List Entry), loopK (some [1, 4]) (impl_graph_order_l0_B k m) (impl_graph_order_l0_K k m) n ⟨fT 33 0 [(1, .av (.one (c2))), (4, .av (.one (c3)))], fX 33 0 [], H4⟩ = impl_graph_order_l0 (k + 1) m n c2 c3 H4 := by
  intro n
  induction n with
  | zero => intros; rfl
  | succ n ih =>
    intros
    simp only [impl_graph_order_l0, ← ih]
    kernel_rfl
theorem impl_graph_order_code (k m : Nat) (c1 : Cell) (H : List Entry) : evC G_impl_graph_order fi_impl_graph_order (evF G_impl_graph_order (k + 1)) m fi_impl_graph_order.code none (retK G_impl_graph_order fi_impl_graph_order) (enter fi_impl_graph_order [.one (c1)] H) = impl_graph_order (k + 1) m c1 H := by
  simp only [impl_graph_order, ← impl_graph_order_l0_eq k m]
  kernel_rfl
theorem impl_graph_order_eq (k : Nat) (c1 : Cell) (H : List Entry) : evF G_impl_graph_order (k + 2) fid_impl_graph_order [.one (c1)] H = impl_graph_order (k + 1) (k + 1) c1 H :=
  Eq.trans (by kernel_rfl) (impl_graph_order_code k (k + 1) c1 H)
theorem run_impl_graph_order_of {c1 : Cell} {H : List Entry} {r : Res} (k : Nat) (h : impl_graph_order (k + 1) (k + 1) c1 H = some r) : run_impl_graph_order [.one (c1)] H = some r := lim_of ((impl_graph_order_eq k c1 H).trans h)
noncomputable def pl_impl_TaskOrder : List (Nat × Run) := [(fid_impl_Plan_graph, run_impl_Plan_graph), (fid_impl_graph_order, run_impl_graph_order)]
noncomputable def G_impl_TaskOrder : Ctx := ctx tyTab fiTab pl_impl_TaskOrder
noncomputable def run_impl_TaskOrder : Run := lim G_impl_TaskOrder fid_impl_TaskOrder
theorem ok_impl_TaskOrder : FnOk Try.prog OkT fid_impl_TaskOrder run_impl_TaskOrder := lim_ok (l := pl_impl_TaskOrder) Try_mix tyTab_ok fiTab_ok okT (.cons ok_impl_Plan_graph (.cons ok_impl_graph_order .nil)) fid_impl_TaskOrder
noncomputable def impl_TaskOrder (k m : Nat) (c1 : Cell) (c2 : Cell) : Option Res :=
  (lenC c1).bind fun n3 =>
  (lenC c2).bind fun n4 =>
  (slcC 1 (c1) 0 (some (if (n4 : Int) < (n3 : Int) then (n4 : Int) else (n3 : Int))) none).bind fun c5 =>
  (run_impl_Plan_graph [.one (.ptr 0 2 0 0 0)] [Entry.mk 2 [[c5, c2]] 0 false]).bind fun r6 =>
  cond (shapeOk rk_impl_Plan_graph r6.1)
  ((cC (cellsAt r6.1 0) 0).bind fun c7 =>
  (run_impl_graph_order [.one (c7)] r6.2).bind fun r8 =>
  cond (shapeOk rk_impl_graph_order r8.1)
  ((cC (cellsAt r8.1 0) 0).bind fun c9 =>
  (cB (cellsAt r8.1 1) 0).bind fun b10 =>
  some ([.one (c9), .one (Cell.bool b10)], r8.2))
  none)
  none
theorem impl_TaskOrder_code (k m : Nat) (c1 : Cell) (c2 : Cell) : evC G_impl_TaskOrder fi_impl_TaskOrder (evF G_impl_TaskOrder (k + 1)) m fi_impl_TaskOrder.code none (retK G_impl_TaskOrder fi_impl_TaskOrder) (enter fi_impl_TaskOrder [.agg [c1, c2]] []) = impl_TaskOrder (k + 1) m c1 c2 := by
  kernel_rfl
theorem impl_TaskOrder_eq (k : Nat) (c1 : Cell) (c2 : Cell) : evF G_impl_TaskOrder (k + 2) fid_impl_TaskOrder [.agg [c1, c2]] [] = impl_TaskOrder (k + 1) (k + 1) c1 c2 :=
  Eq.trans (by kernel_rfl) (impl_TaskOrder_code k (k + 1) c1 c2)
theorem run_impl_TaskOrder_of {c1 : Cell} {c2 : Cell} {r : Res} (k : Nat) (h : impl_TaskOrder (k + 1) (k + 1) c1 c2 = some r) : run_impl_TaskOrder [.agg [c1, c2]] [] = some r := lim_of ((impl_TaskOrder_eq k c1 c2).trans h)
noncomputable def pl_laws_FnExactTaskOrder : List (Nat × Run) := [(fid_laws_szPlan, run_laws_szPlan), (fid_laws_toPlan, run_laws_toPlan), (fid_laws_eqStringS, run_laws_eqStringS), (fid_laws_eqPlan, run_laws_eqPlan), (fid_laws_markPlan, run_laws_markPlan), (fid_laws_markStringS, run_laws_markStringS), (fid_laws_heldStringS, run_laws_heldStringS), (fid_spec_TaskOrder, run_spec_TaskOrder), (fid_impl_TaskOrder, run_impl_TaskOrder)]
noncomputable def G_laws_FnExactTaskOrder : Ctx := ctx tyTab fiTab pl_laws_FnExactTaskOrder
noncomputable def run_laws_FnExactTaskOrder : Run := lim G_laws_FnExactTaskOrder fid_laws_FnExactTaskOrder
theorem ok_laws_FnExactTaskOrder : FnOk Try.prog OkT fid_laws_FnExactTaskOrder run_laws_FnExactTaskOrder := lim_ok (l := pl_laws_FnExactTaskOrder) Try_mix tyTab_ok fiTab_ok okT (.cons ok_laws_szPlan (.cons ok_laws_toPlan (.cons ok_laws_eqStringS (.cons ok_laws_eqPlan (.cons ok_laws_markPlan (.cons ok_laws_markStringS (.cons ok_laws_heldStringS (.cons ok_spec_TaskOrder (.cons ok_impl_TaskOrder .nil))))))))) fid_laws_FnExactTaskOrder
noncomputable def laws_FnExactTaskOrder (k m : Nat) (c1 : Cell) (c2 : Cell) : Option Res :=
  (callS run_laws_szPlan [.agg [c1, c2], .one (Cell.int 1048576)] []).bind fun r3 =>
  cond (shapeOk rk_laws_szPlan r3)
  ((cI .i64 (cellsAt r3 0) 0).bind fun i4 =>
  cond (decide (i4 < 0))
  (some ([.one (Cell.bool true)], []))
  ((callF run_laws_toPlan [.agg [c1, c2]] []).bind fun r5 =>
  cond (shapeOk rk_laws_toPlan r5.1)
  ((cC (cellsAt r5.1 0) 0).bind fun c6 =>
  (cC (cellsAt r5.1 0) 1).bind fun c7 =>
  (callL run_spec_TaskOrder [.agg [c6, c7]] r5.2).bind fun r8 =>
  cond (shapeOk rk_spec_TaskOrder r8.1)
  ((cC (cellsAt r8.1 0) 0).bind fun c9 =>
  (cB (cellsAt r8.1 1) 0).bind fun b10 =>
  (callF run_laws_toPlan [.agg [c1, c2]] r8.2).bind fun r11 =>
  cond (shapeOk rk_laws_toPlan r11.1)
  ((cC (cellsAt r11.1 0) 0).bind fun c12 =>
  (cC (cellsAt r11.1 0) 1).bind fun c13 =>
  (callF run_impl_TaskOrder [.agg [c12, c13]] r11.2).bind fun r14 =>
  cond (shapeOk rk_impl_TaskOrder r14.1)
  ((cC (cellsAt r14.1 0) 0).bind fun c15 =>
  (cB (cellsAt r14.1 1) 0).bind fun b16 =>
  (callS run_laws_eqStringS [.one (c15), .one (c9)] r14.2).bind fun r17 =>
  cond (shapeOk rk_laws_eqStringS r17)
  ((cB (cellsAt r17 0) 0).bind fun b18 =>
  cond (!b18)
  (some ([.one (Cell.bool false)], r14.2))
  (cond (!(b16 == b10))
  (some ([.one (Cell.bool false)], r14.2))
  ((callF run_laws_toPlan [.agg [c1, c2]] r14.2).bind fun r19 =>
  cond (shapeOk rk_laws_toPlan r19.1)
  ((cC (cellsAt r19.1 0) 0).bind fun c20 =>
  (cC (cellsAt r19.1 0) 1).bind fun c21 =>
  (callS run_laws_eqPlan [.agg [c12, c13], .agg [c20, c21]] r19.2).bind fun r22 =>
  cond (shapeOk rk_laws_eqPlan r22)
  ((cB (cellsAt r22 0) 0).bind fun b23 =>
  cond (!b23)
  (some ([.one (Cell.bool false)], r19.2))
  ((run_laws_markPlan [.agg [c12, c13], .one (Cell.int 1)] r19.2).bind fun r24 =>
  cond (shapeOk rk_laws_markPlan r24.1)
  ((cI .i64 (cellsAt r24.1 0) 0).bind fun i25 =>
  cond (decide (i25 < 0))
  (some ([.one (Cell.bool false)], r24.2))
  ((callS run_laws_eqStringS [.one (c15), .one (c9)] r24.2).bind fun r26 =>
  cond (shapeOk rk_laws_eqStringS r26)
  ((cB (cellsAt r26 0) 0).bind fun b27 =>
  cond (!b27)
  (some ([.one (Cell.bool false)], r24.2))
  (cond (!(b16 == b10))
  (some ([.one (Cell.bool false)], r24.2))
  ((run_laws_markStringS [.one (c15), .one (Cell.int 1)] r24.2).bind fun r28 =>
  cond (shapeOk rk_laws_markStringS r28.1)
  ((cI .i64 (cellsAt r28.1 0) 0).bind fun i29 =>
  (callS run_laws_heldStringS [.one (c15), .one (Cell.int 1)] r28.2).bind fun r30 =>
  cond (shapeOk rk_laws_heldStringS r30)
  ((cI .i64 (cellsAt r30 0) 0).bind fun i31 =>
  cond (decide (i31 < 0))
  (some ([.one (Cell.bool false)], r28.2))
  (cond (i31 != i29)
  (some ([.one (Cell.bool false)], r28.2))
  ((callF run_laws_toPlan [.agg [c1, c2]] r28.2).bind fun r32 =>
  cond (shapeOk rk_laws_toPlan r32.1)
  ((cC (cellsAt r32.1 0) 0).bind fun c33 =>
  (cC (cellsAt r32.1 0) 1).bind fun c34 =>
  (callF run_impl_TaskOrder [.agg [c33, c34]] r32.2).bind fun r35 =>
  cond (shapeOk rk_impl_TaskOrder r35.1)
  ((cC (cellsAt r35.1 0) 0).bind fun c36 =>
  (cB (cellsAt r35.1 1) 0).bind fun b37 =>
  (callS run_laws_eqStringS [.one (c36), .one (c9)] r35.2).bind fun r38 =>
  cond (shapeOk rk_laws_eqStringS r38)
  ((cB (cellsAt r38 0) 0).bind fun b39 =>
  cond (!b39)
  (some ([.one (Cell.bool false)], r35.2))
  (cond (!(b37 == b10))
  (some ([.one (Cell.bool false)], r35.2))
  ((callS run_laws_heldStringS [.one (c15), .one (Cell.int 1)] r35.2).bind fun r40 =>
  cond (shapeOk rk_laws_heldStringS r40)
  ((cI .i64 (cellsAt r40 0) 0).bind fun i41 =>
  cond (decide (i41 < 0))
  (some ([.one (Cell.bool false)], r35.2))
  (cond (i41 != i29)
  (some ([.one (Cell.bool false)], r35.2))
  (some ([.one (Cell.bool true)], r35.2))))
  none)))
  none)
  none)
  none)))
  none)
  none)))
  none))
  none))
  none)
  none)))
  none)
  none)
  none)
  none)
  none))
  none
theorem laws_FnExactTaskOrder_code (k m : Nat) (c1 : Cell) (c2 : Cell) : evC G_laws_FnExactTaskOrder fi_laws_FnExactTaskOrder (evF G_laws_FnExactTaskOrder (k + 1)) m fi_laws_FnExactTaskOrder.code none (retK G_laws_FnExactTaskOrder fi_laws_FnExactTaskOrder) (enter fi_laws_FnExactTaskOrder [.agg [c1, c2]] []) = laws_FnExactTaskOrder (k + 1) m c1 c2 := by
  kernel_rfl
theorem laws_FnExactTaskOrder_eq (k : Nat) (c1 : Cell) (c2 : Cell) : evF G_laws_FnExactTaskOrder (k + 2) fid_laws_FnExactTaskOrder [.agg [c1, c2]] [] = laws_FnExactTaskOrder (k + 1) (k + 1) c1 c2 :=
  Eq.trans (by kernel_rfl) (laws_FnExactTaskOrder_code k (k + 1) c1 c2)
theorem run_laws_FnExactTaskOrder_of {c1 : Cell} {c2 : Cell} {r : Res} (k : Nat) (h : laws_FnExactTaskOrder (k + 1) (k + 1) c1 c2 = some r) : run_laws_FnExactTaskOrder [.agg [c1, c2]] [] = some r := lim_of ((laws_FnExactTaskOrder_eq k c1 c2).trans h)
end Go.Ev
