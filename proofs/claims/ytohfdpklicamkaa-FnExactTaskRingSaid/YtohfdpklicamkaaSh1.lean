/- What the evaluator says of the functions, each as a Lean function over cells. Printed by a program of this claim. Conditions: none. -/
import Derived.Test.YtohfdpklicamkaaSh0
import Derived.KernelRfl
namespace Go.Ev
open Go Go.Proofs
set_option maxRecDepth 100000
set_option linter.unusedVariables false
set_option linter.unusedSimpArgs false
noncomputable def pl_slices_Clip_string : List (Nat × Run) := []
noncomputable def G_slices_Clip_string : Ctx := ctx tyTab fiTab pl_slices_Clip_string
noncomputable def run_slices_Clip_string : Run := lim G_slices_Clip_string fid_slices_Clip_string
theorem ok_slices_Clip_string : FnOk Try.prog OkT fid_slices_Clip_string run_slices_Clip_string := lim_ok (l := pl_slices_Clip_string) Try_mix tyTab_ok fiTab_ok okT .nil fid_slices_Clip_string
noncomputable def slices_Clip_string (k m : Nat) (c1 : Cell) (H : List Entry) : Option Res :=
  (lenC c1).bind fun n2 =>
  (lenC c1).bind fun n3 =>
  (slcC 1 (c1) 0 (some (n2 : Int)) (some (n3 : Int))).bind fun c4 =>
  some ([.one (c4)], H)
theorem slices_Clip_string_code (k m : Nat) (c1 : Cell) (H : List Entry) : evC G_slices_Clip_string fi_slices_Clip_string (evF G_slices_Clip_string (k + 1)) m fi_slices_Clip_string.code none (retK G_slices_Clip_string fi_slices_Clip_string) (enter fi_slices_Clip_string [.one (c1)] H) = slices_Clip_string (k + 1) m c1 H := by
  kernel_rfl
theorem slices_Clip_string_eq (k : Nat) (c1 : Cell) (H : List Entry) : evF G_slices_Clip_string (k + 2) fid_slices_Clip_string [.one (c1)] H = slices_Clip_string (k + 1) (k + 1) c1 H :=
  Eq.trans (by kernel_rfl) (slices_Clip_string_code k (k + 1) c1 H)
theorem run_slices_Clip_string_of {c1 : Cell} {H : List Entry} {r : Res} (k : Nat) (h : slices_Clip_string (k + 1) (k + 1) c1 H = some r) : run_slices_Clip_string [.one (c1)] H = some r := lim_of ((slices_Clip_string_eq k c1 H).trans h)
noncomputable def pl_impl_Sorted : List (Nat × Run) := [(fid_slices_Clone_string, run_slices_Clone_string), (fid_slices_Sort_string, run_slices_Sort_string), (fid_slices_Clip_string, run_slices_Clip_string), (fid_slices_Compact_string, run_slices_Compact_string)]
noncomputable def G_impl_Sorted : Ctx := ctx tyTab fiTab pl_impl_Sorted
noncomputable def run_impl_Sorted : Run := lim G_impl_Sorted fid_impl_Sorted
theorem ok_impl_Sorted : FnOk Try.prog OkT fid_impl_Sorted run_impl_Sorted := lim_ok (l := pl_impl_Sorted) Try_mix tyTab_ok fiTab_ok okT (.cons ok_slices_Clone_string (.cons ok_slices_Sort_string (.cons ok_slices_Clip_string (.cons ok_slices_Compact_string .nil)))) fid_impl_Sorted
noncomputable def impl_Sorted (k m : Nat) (c1 : Cell) : Option Res :=
  (callF run_slices_Clone_string [.one (c1)] []).bind fun r2 =>
  cond (shapeOk rk_slices_Clone_string r2.1)
  ((cC (cellsAt r2.1 0) 0).bind fun c3 =>
  (run_slices_Sort_string [.one (c3)] r2.2).bind fun r4 =>
  cond (shapeOk rk_slices_Sort_string r4.1)
  ((run_slices_Compact_string [.one (c3)] r4.2).bind fun r5 =>
  cond (shapeOk rk_slices_Compact_string r5.1)
  ((cC (cellsAt r5.1 0) 0).bind fun c6 =>
  (run_slices_Clip_string [.one (c6)] r5.2).bind fun r7 =>
  cond (shapeOk rk_slices_Clip_string r7.1)
  ((cC (cellsAt r7.1 0) 0).bind fun c8 =>
  some ([.one (c8)], r7.2))
  none)
  none)
  none)
  none
theorem impl_Sorted_code (k m : Nat) (c1 : Cell) : evC G_impl_Sorted fi_impl_Sorted (evF G_impl_Sorted (k + 1)) m fi_impl_Sorted.code none (retK G_impl_Sorted fi_impl_Sorted) (enter fi_impl_Sorted [.one (c1)] []) = impl_Sorted (k + 1) m c1 := by
  kernel_rfl
theorem impl_Sorted_eq (k : Nat) (c1 : Cell) : evF G_impl_Sorted (k + 2) fid_impl_Sorted [.one (c1)] [] = impl_Sorted (k + 1) (k + 1) c1 :=
  Eq.trans (by kernel_rfl) (impl_Sorted_code k (k + 1) c1)
theorem run_impl_Sorted_of {c1 : Cell} {r : Res} (k : Nat) (h : impl_Sorted (k + 1) (k + 1) c1 = some r) : run_impl_Sorted [.one (c1)] [] = some r := lim_of ((impl_Sorted_eq k c1).trans h)
noncomputable def pl_slices_Index_string : List (Nat × Run) := []
noncomputable def G_slices_Index_string : Ctx := ctx tyTab fiTab pl_slices_Index_string
noncomputable def run_slices_Index_string : Run := lim G_slices_Index_string fid_slices_Index_string
theorem ok_slices_Index_string : FnOk Try.prog OkT fid_slices_Index_string run_slices_Index_string := lim_ok (l := pl_slices_Index_string) Try_mix tyTab_ok fiTab_ok okT .nil fid_slices_Index_string
noncomputable def slices_Index_string_l0 (k m : Nat) : Nat → Cell → ByteArray → Int → Int → Option Res
  | 0, _, _, _, _ => none
  | n + 1, c4, s5, i6, i7 =>
    cond (decide (i7 < i6))
    ((idxA 1 (c4) i7).bind fun c8 =>
    (deref [] (c8)).bind fun p9 =>
    (cS p9.1 p9.2).bind fun s10 =>
    cond (s5.toList == s10.toList)
    (some ([.one (Cell.int i7)], []))
    (slices_Index_string_l0 k m n (c4) s5 i6 (IntKind.i64.wrap (i7 + 1))))
    (some ([.one (Cell.int (-1))], []))
noncomputable def slices_Index_string (k m : Nat) (c1 : Cell) (s2 : ByteArray) : Option Res :=
  (lenC c1).bind fun n3 =>
  slices_Index_string_l0 k m m (c1) s2 (n3 : Int) 0
noncomputable abbrev slices_Index_string_l0_B (k m : Nat) : (Ex → Fr → Option Res) → Fr → Option Res := evC G_slices_Index_string fi_slices_Index_string (evF G_slices_Index_string (k + 1)) m (sub [1, 0, 1, 2, 3] fi_slices_Index_string.code) none
noncomputable abbrev slices_Index_string_l0_K (k m : Nat) : Ex → Fr → Option Res := blockK 0 (seqK (evC G_slices_Index_string fi_slices_Index_string (evF G_slices_Index_string (k + 1)) m (sub [1, 1] fi_slices_Index_string.code) none) (retK G_slices_Index_string fi_slices_Index_string))
theorem slices_Index_string_l0_eq (k m : Nat) : ∀ (n : Nat) (c4 : Cell) (s5 : ByteArray) (i6 : Int) (i7 : Int), loopK (some [0, 1, 7, 8]) (slices_Index_string_l0_B k m) (slices_Index_string_l0_K k m) n ⟨fT 19 0 [(0, .av (.one (c4))), (1, .av (.one (Cell.str s5))), (7, .av (.one (Cell.int i6))), (8, .av (.one (Cell.int i7)))], fX 19 0 [], []⟩ = slices_Index_string_l0 (k + 1) m n c4 s5 i6 i7 := by
  intro n
  induction n with
  | zero => intros; rfl
  | succ n ih =>
    intros
    simp only [slices_Index_string_l0, ← ih]
    kernel_rfl
theorem slices_Index_string_code (k m : Nat) (c1 : Cell) (s2 : ByteArray) : evC G_slices_Index_string fi_slices_Index_string (evF G_slices_Index_string (k + 1)) m fi_slices_Index_string.code none (retK G_slices_Index_string fi_slices_Index_string) (enter fi_slices_Index_string [.one (c1), .one (Cell.str s2)] []) = slices_Index_string (k + 1) m c1 s2 := by
  simp only [slices_Index_string, ← slices_Index_string_l0_eq k m]
  kernel_rfl
theorem slices_Index_string_eq (k : Nat) (c1 : Cell) (s2 : ByteArray) : evF G_slices_Index_string (k + 2) fid_slices_Index_string [.one (c1), .one (Cell.str s2)] [] = slices_Index_string (k + 1) (k + 1) c1 s2 :=
  Eq.trans (by kernel_rfl) (slices_Index_string_code k (k + 1) c1 s2)
theorem run_slices_Index_string_of {c1 : Cell} {s2 : ByteArray} {r : Res} (k : Nat) (h : slices_Index_string (k + 1) (k + 1) c1 s2 = some r) : run_slices_Index_string [.one (c1), .one (Cell.str s2)] [] = some r := lim_of ((slices_Index_string_eq k c1 s2).trans h)
noncomputable def pl_impl_graph_onOf : List (Nat × Run) := [(fid_slices_Index_string, run_slices_Index_string)]
noncomputable def G_impl_graph_onOf : Ctx := ctx tyTab fiTab pl_impl_graph_onOf
noncomputable def run_impl_graph_onOf : Run := lim G_impl_graph_onOf fid_impl_graph_onOf
theorem ok_impl_graph_onOf : FnOk Try.prog OkT fid_impl_graph_onOf run_impl_graph_onOf := lim_ok (l := pl_impl_graph_onOf) Try_mix tyTab_ok fiTab_ok okT (.cons ok_slices_Index_string .nil) fid_impl_graph_onOf
noncomputable def impl_graph_onOf (k m : Nat) (c1 : Cell) (s2 : ByteArray) (H : List Entry) : Option Res :=
  (ptrC c1).bind fun c3 =>
  (fldA c3 0).bind fun c4 =>
  (deref H (c4)).bind fun p5 =>
  (cC p5.1 p5.2).bind fun c6 =>
  (callS run_slices_Index_string [.one (c6), .one (Cell.str s2)] H).bind fun r7 =>
  cond (shapeOk rk_slices_Index_string r7)
  ((cI .i64 (cellsAt r7 0) 0).bind fun i8 =>
  cond (decide (i8 < 0))
  (some ([.one (.lst true 1 [])], H))
  ((ptrC c1).bind fun c9 =>
  (fldA c9 1).bind fun c10 =>
  (deref H (c10)).bind fun p11 =>
  (cC p11.1 p11.2).bind fun c12 =>
  (idxA 1 (c12) i8).bind fun c13 =>
  (deref H (c13)).bind fun p14 =>
  (cC p14.1 p14.2).bind fun c15 =>
  some ([.one (c15)], H)))
  none
theorem impl_graph_onOf_code (k m : Nat) (c1 : Cell) (s2 : ByteArray) (H : List Entry) : evC G_impl_graph_onOf fi_impl_graph_onOf (evF G_impl_graph_onOf (k + 1)) m fi_impl_graph_onOf.code none (retK G_impl_graph_onOf fi_impl_graph_onOf) (enter fi_impl_graph_onOf [.one (c1), .one (Cell.str s2)] H) = impl_graph_onOf (k + 1) m c1 s2 H := by
  kernel_rfl
theorem impl_graph_onOf_eq (k : Nat) (c1 : Cell) (s2 : ByteArray) (H : List Entry) : evF G_impl_graph_onOf (k + 2) fid_impl_graph_onOf [.one (c1), .one (Cell.str s2)] H = impl_graph_onOf (k + 1) (k + 1) c1 s2 H :=
  Eq.trans (by kernel_rfl) (impl_graph_onOf_code k (k + 1) c1 s2 H)
theorem run_impl_graph_onOf_of {c1 : Cell} {s2 : ByteArray} {H : List Entry} {r : Res} (k : Nat) (h : impl_graph_onOf (k + 1) (k + 1) c1 s2 H = some r) : run_impl_graph_onOf [.one (c1), .one (Cell.str s2)] H = some r := lim_of ((impl_graph_onOf_eq k c1 s2 H).trans h)
noncomputable def pl_slices_Contains_string : List (Nat × Run) := [(fid_slices_Index_string, run_slices_Index_string)]
noncomputable def G_slices_Contains_string : Ctx := ctx tyTab fiTab pl_slices_Contains_string
noncomputable def run_slices_Contains_string : Run := lim G_slices_Contains_string fid_slices_Contains_string
theorem ok_slices_Contains_string : FnOk Try.prog OkT fid_slices_Contains_string run_slices_Contains_string := lim_ok (l := pl_slices_Contains_string) Try_mix tyTab_ok fiTab_ok okT (.cons ok_slices_Index_string .nil) fid_slices_Contains_string
noncomputable def slices_Contains_string (k m : Nat) (c1 : Cell) (s2 : ByteArray) : Option Res :=
  (callS run_slices_Index_string [.one (c1), .one (Cell.str s2)] []).bind fun r3 =>
  cond (shapeOk rk_slices_Index_string r3)
  ((cI .i64 (cellsAt r3 0) 0).bind fun i4 =>
  some ([.one (Cell.bool (decide (i4 ≥ 0)))], []))
  none
theorem slices_Contains_string_code (k m : Nat) (c1 : Cell) (s2 : ByteArray) : evC G_slices_Contains_string fi_slices_Contains_string (evF G_slices_Contains_string (k + 1)) m fi_slices_Contains_string.code none (retK G_slices_Contains_string fi_slices_Contains_string) (enter fi_slices_Contains_string [.one (c1), .one (Cell.str s2)] []) = slices_Contains_string (k + 1) m c1 s2 := by
  kernel_rfl
theorem slices_Contains_string_eq (k : Nat) (c1 : Cell) (s2 : ByteArray) : evF G_slices_Contains_string (k + 2) fid_slices_Contains_string [.one (c1), .one (Cell.str s2)] [] = slices_Contains_string (k + 1) (k + 1) c1 s2 :=
  Eq.trans (by kernel_rfl) (slices_Contains_string_code k (k + 1) c1 s2)
theorem run_slices_Contains_string_of {c1 : Cell} {s2 : ByteArray} {r : Res} (k : Nat) (h : slices_Contains_string (k + 1) (k + 1) c1 s2 = some r) : run_slices_Contains_string [.one (c1), .one (Cell.str s2)] [] = some r := lim_of ((slices_Contains_string_eq k c1 s2).trans h)
noncomputable def pl_impl_deep : List (Nat × Run) := [(fid_impl_Sorted, run_impl_Sorted), (fid_impl_graph_onOf, run_impl_graph_onOf), (fid_slices_Contains_string, run_slices_Contains_string)]
noncomputable def G_impl_deep : Ctx := ctx tyTab fiTab pl_impl_deep
noncomputable def run_impl_deep : Run := lim G_impl_deep fid_impl_deep
theorem ok_impl_deep : FnOk Try.prog OkT fid_impl_deep run_impl_deep := lim_ok (l := pl_impl_deep) Try_mix tyTab_ok fiTab_ok okT (.cons ok_impl_Sorted (.cons ok_impl_graph_onOf (.cons ok_slices_Contains_string .nil))) fid_impl_deep
noncomputable def impl_deep_impl_graph_onOf_l2 (k m : Nat) (b_l0 : Cell → Cell → Cell → List Entry → Option Res) (b_l1 : Cell → Cell → Cell → Cell → Int → Int → List Entry → Option Res) : Nat → Cell → Cell → Cell → Cell → Int → Int → Cell → Int → Int → List Entry → Option Res
  | 0, _, _, _, _, _, _, _, _, _, _ => none
  | n + 1, c21, c22, c23, c24, i25, i26, c27, i28, i29, H30 =>
    cond (decide (i29 < i28))
    ((idxA 1 (c27) i29).bind fun c31 =>
    (deref H30 (c31)).bind fun p32 =>
    (cS p32.1 p32.2).bind fun s33 =>
    (callS run_slices_Contains_string [.one (c22), .one (Cell.str s33)] H30).bind fun r34 =>
    cond (shapeOk rk_slices_Contains_string r34)
    ((cB (cellsAt r34 0) 0).bind fun b35 =>
    cond (!b35)
    ((app H30 1 16 (c22) [[Cell.str s33]]).bind fun p36 =>
    (app p36.2 1 16 (c23) [[Cell.str s33]]).bind fun p37 =>
    impl_deep_impl_graph_onOf_l2 k m b_l0 b_l1 n (c21) (p36.1) (p37.1) (c24) i25 i26 (c27) i28 (IntKind.i64.wrap (i29 + 1)) p37.2)
    (impl_deep_impl_graph_onOf_l2 k m b_l0 b_l1 n (c21) (c22) (c23) (c24) i25 i26 (c27) i28 (IntKind.i64.wrap (i29 + 1)) H30))
    none)
    (b_l1 (c21) (c22) (c23) (c24) i25 (IntKind.i64.wrap (i26 + 1)) H30)
noncomputable def impl_deep_impl_graph_onOf_l1 (k m : Nat) (b_l0 : Cell → Cell → Cell → List Entry → Option Res) : Nat → Cell → Cell → Cell → Cell → Int → Int → List Entry → Option Res
  | 0, _, _, _, _, _, _, _ => none
  | n + 1, c8, c9, c10, c11, i12, i13, H14 =>
    cond (decide (i13 < i12))
    ((idxA 1 (c11) i13).bind fun c15 =>
    (deref H14 (c15)).bind fun p16 =>
    (cS p16.1 p16.2).bind fun s17 =>
    (run_impl_graph_onOf [.one (c8), .one (Cell.str s17)] H14).bind fun r18 =>
    cond (shapeOk rk_impl_graph_onOf r18.1)
    ((cC (cellsAt r18.1 0) 0).bind fun c19 =>
    (lenC c19).bind fun n20 =>
    impl_deep_impl_graph_onOf_l2 k m b_l0 (impl_deep_impl_graph_onOf_l1 k m b_l0 n) m (c8) (c9) (c10) (c11) i12 i13 (c19) (n20 : Int) 0 r18.2)
    none)
    (b_l0 (c8) (c9) (c10) H14)
noncomputable def impl_deep_impl_graph_onOf_l0 (k m : Nat) : Nat → Cell → Cell → Cell → List Entry → Option Res
  | 0, _, _, _, _ => none
  | n + 1, c2, c3, c4, H5 =>
    (lenC c4).bind fun n6 =>
    cond (decide ((n6 : Int) > 0))
    ((lenC c4).bind fun n7 =>
    impl_deep_impl_graph_onOf_l1 k m (impl_deep_impl_graph_onOf_l0 k m n) m (c2) (c3) (.lst true 1 []) (c4) (n7 : Int) 0 H5)
    ((callF run_impl_Sorted [.one (c3)] H5).bind fun r38 =>
    cond (shapeOk rk_impl_Sorted r38.1)
    ((cC (cellsAt r38.1 0) 0).bind fun c39 =>
    some ([.one (c39)], r38.2))
    none)
noncomputable def impl_deep_impl_graph_onOf (k m : Nat) (s1 : ByteArray) (q2 : Cell) (H : List Entry) : Option Res :=
  impl_deep_impl_graph_onOf_l0 k m m (q2) (.lst true 1 []) (.lst true 1 [[Cell.str s1]]) H
noncomputable abbrev impl_deep_impl_graph_onOf_l0_B (k m : Nat) : (Ex → Fr → Option Res) → Fr → Option Res := evC G_impl_deep fi_impl_deep (evF G_impl_deep (k + 1)) m (sub [1, 1, 1, 0, 2, 3] fi_impl_deep.code) none
noncomputable abbrev impl_deep_impl_graph_onOf_l0_K (k m : Nat) : Ex → Fr → Option Res := blockK 0 (seqK (evC G_impl_deep fi_impl_deep (evF G_impl_deep (k + 1)) m (sub [1, 1, 1, 1] fi_impl_deep.code) none) (retK G_impl_deep fi_impl_deep))
noncomputable abbrev impl_deep_impl_graph_onOf_l1_B (k m : Nat) : (Ex → Fr → Option Res) → Fr → Option Res := evC G_impl_deep fi_impl_deep (evF G_impl_deep (k + 1)) m (sub [1, 1, 1, 0, 2, 3, 1, 2, 1, 0, 1, 2, 3] fi_impl_deep.code) none
noncomputable abbrev impl_deep_impl_graph_onOf_l1_K (k m : Nat) (n_l0 : Nat) : Ex → Fr → Option Res := blockK 2 (seqK (evC G_impl_deep fi_impl_deep (evF G_impl_deep (k + 1)) m (sub [1, 1, 1, 0, 2, 3, 1, 2, 1, 1] fi_impl_deep.code) none) (blockK 1 (loopE (fun s => loopK (some [1, 5, 6]) (impl_deep_impl_graph_onOf_l0_B k m) (impl_deep_impl_graph_onOf_l0_K k m) n_l0 (keepS (some [1, 5, 6]) s)) (impl_deep_impl_graph_onOf_l0_K k m))))
noncomputable abbrev impl_deep_impl_graph_onOf_l2_B (k m : Nat) : (Ex → Fr → Option Res) → Fr → Option Res := evC G_impl_deep fi_impl_deep (evF G_impl_deep (k + 1)) m (sub [1, 1, 1, 0, 2, 3, 1, 2, 1, 0, 1, 2, 3, 1, 1, 0, 2, 1, 1, 2, 3] fi_impl_deep.code) none
noncomputable abbrev impl_deep_impl_graph_onOf_l2_K (k m : Nat) (n_l0 : Nat) (n_l1 : Nat) : Ex → Fr → Option Res := blockK 4 (blockK 3 (seqK (evC G_impl_deep fi_impl_deep (evF G_impl_deep (k + 1)) m (sub [1, 1, 1, 0, 2, 3, 1, 2, 1, 0, 1, 2, 3, 1, 1, 1] fi_impl_deep.code) none) (loopE (fun s => loopK (some [1, 5, 7, 17, 18, 19]) (impl_deep_impl_graph_onOf_l1_B k m) (impl_deep_impl_graph_onOf_l1_K k m n_l0) n_l1 (keepS (some [1, 5, 7, 17, 18, 19]) s)) (impl_deep_impl_graph_onOf_l1_K k m n_l0))))
theorem impl_deep_impl_graph_onOf_l2_eq (k m : Nat) (b_l0 : Cell → Cell → Cell → List Entry → Option Res) (n_l0 : Nat) (h_l0 : ∀ (c2 : Cell) (c3 : Cell) (c4 : Cell) (H5 : List Entry), loopK (some [1, 5, 6]) (impl_deep_impl_graph_onOf_l0_B k m) (impl_deep_impl_graph_onOf_l0_K k m) n_l0 ⟨fT 48 0 [(1, .av (.one (.fn fid_impl_graph_onOf [c2] []))), (5, .av (.one (c3))), (6, .av (.one (c4)))], fX 48 0 [], H5⟩ = b_l0 c2 c3 c4 H5) (b_l1 : Cell → Cell → Cell → Cell → Int → Int → List Entry → Option Res) (n_l1 : Nat) (h_l1 : ∀ (c8 : Cell) (c9 : Cell) (c10 : Cell) (c11 : Cell) (i12 : Int) (i13 : Int) (H14 : List Entry), loopK (some [1, 5, 7, 17, 18, 19]) (impl_deep_impl_graph_onOf_l1_B k m) (impl_deep_impl_graph_onOf_l1_K k m n_l0) n_l1 ⟨fT 48 0 [(1, .av (.one (.fn fid_impl_graph_onOf [c8] []))), (5, .av (.one (c9))), (7, .av (.one (c10))), (17, .av (.one (c11))), (18, .av (.one (Cell.int i12))), (19, .av (.one (Cell.int i13)))], fX 48 0 [], H14⟩ = b_l1 c8 c9 c10 c11 i12 i13 H14) : ∀ (n : Nat) (c21 : Cell) (c22 : Cell) (c23 : Cell) (c24 : Cell) (i25 : Int) (i26 : Int) (c27 : Cell) (i28 : Int) (i29 : Int) (H30 : List Entry), loopK (some [1, 5, 7, 17, 18, 19, 25, 26, 27]) (impl_deep_impl_graph_onOf_l2_B k m) (impl_deep_impl_graph_onOf_l2_K k m n_l0 n_l1) n ⟨fT 48 0 [(1, .av (.one (.fn fid_impl_graph_onOf [c21] []))), (5, .av (.one (c22))), (7, .av (.one (c23))), (17, .av (.one (c24))), (18, .av (.one (Cell.int i25))), (19, .av (.one (Cell.int i26))), (25, .av (.one (c27))), (26, .av (.one (Cell.int i28))), (27, .av (.one (Cell.int i29)))], fX 48 0 [], H30⟩ = impl_deep_impl_graph_onOf_l2 (k + 1) m b_l0 b_l1 n c21 c22 c23 c24 i25 i26 c27 i28 i29 H30 := by
  intro n
  induction n with
  | zero => intros; rfl
  | succ n ih =>
    intros
    simp only [impl_deep_impl_graph_onOf_l2, ← h_l1, ← ih]
    kernel_rfl
theorem impl_deep_impl_graph_onOf_l1_eq (k m : Nat) (b_l0 : Cell → Cell → Cell → List Entry → Option Res) (n_l0 : Nat) (h_l0 : ∀ (c2 : Cell) (c3 : Cell) (c4 : Cell) (H5 : List Entry), loopK (some [1, 5, 6]) (impl_deep_impl_graph_onOf_l0_B k m) (impl_deep_impl_graph_onOf_l0_K k m) n_l0 ⟨fT 48 0 [(1, .av (.one (.fn fid_impl_graph_onOf [c2] []))), (5, .av (.one (c3))), (6, .av (.one (c4)))], fX 48 0 [], H5⟩ = b_l0 c2 c3 c4 H5) : ∀ (n : Nat) (c8 : Cell) (c9 : Cell) (c10 : Cell) (c11 : Cell) (i12 : Int) (i13 : Int) (H14 : List Entry), loopK (some [1, 5, 7, 17, 18, 19]) (impl_deep_impl_graph_onOf_l1_B k m) (impl_deep_impl_graph_onOf_l1_K k m n_l0) n ⟨fT 48 0 [(1, .av (.one (.fn fid_impl_graph_onOf [c8] []))), (5, .av (.one (c9))), (7, .av (.one (c10))), (17, .av (.one (c11))), (18, .av (.one (Cell.int i12))), (19, .av (.one (Cell.int i13)))], fX 48 0 [], H14⟩ = impl_deep_impl_graph_onOf_l1 (k + 1) m b_l0 n c8 c9 c10 c11 i12 i13 H14 := by
  intro n
  induction n with
  | zero => intros; rfl
  | succ n ih =>
    intros
    simp only [impl_deep_impl_graph_onOf_l1, ← impl_deep_impl_graph_onOf_l2_eq k m _ _ h_l0 _ _ (ih), ← h_l0]
    kernel_rfl
theorem impl_deep_impl_graph_onOf_l0_eq (k m : Nat) : ∀ (n : Nat) (c2 : Cell) (c3 : Cell) (c4 : Cell) (H5 : List Entry), loopK (some [1, 5, 6]) (impl_deep_impl_graph_onOf_l0_B k m) (impl_deep_impl_graph_onOf_l0_K k m) n ⟨fT 48 0 [(1, .av (.one (.fn fid_impl_graph_onOf [c2] []))), (5, .av (.one (c3))), (6, .av (.one (c4)))], fX 48 0 [], H5⟩ = impl_deep_impl_graph_onOf_l0 (k + 1) m n c2 c3 c4 H5 := by
  intro n
  induction n with
  | zero => intros; rfl
  | succ n ih =>
    intros
    simp only [impl_deep_impl_graph_onOf_l0, ← impl_deep_impl_graph_onOf_l1_eq k m _ _ (ih)]
    kernel_rfl
theorem impl_deep_impl_graph_onOf_code (k m : Nat) (s1 : ByteArray) (q2 : Cell) (H : List Entry) : evC G_impl_deep fi_impl_deep (evF G_impl_deep (k + 1)) m fi_impl_deep.code none (retK G_impl_deep fi_impl_deep) (enter fi_impl_deep [.one (Cell.str s1), .one (.fn fid_impl_graph_onOf [q2] [])] H) = impl_deep_impl_graph_onOf (k + 1) m s1 q2 H := by
  simp only [impl_deep_impl_graph_onOf, ← impl_deep_impl_graph_onOf_l0_eq k m]
  kernel_rfl
theorem impl_deep_impl_graph_onOf_eq (k : Nat) (s1 : ByteArray) (q2 : Cell) (H : List Entry) : evF G_impl_deep (k + 2) fid_impl_deep [.one (Cell.str s1), .one (.fn fid_impl_graph_onOf [q2] [])] H = impl_deep_impl_graph_onOf (k + 1) (k + 1) s1 q2 H :=
  Eq.trans (by kernel_rfl) (impl_deep_impl_graph_onOf_code k (k + 1) s1 q2 H)
theorem run_impl_deep_impl_graph_onOf_of {s1 : ByteArray} {q2 : Cell} {H : List Entry} {r : Res} (k : Nat) (h : impl_deep_impl_graph_onOf (k + 1) (k + 1) s1 q2 H = some r) : run_impl_deep [.one (Cell.str s1), .one (.fn fid_impl_graph_onOf [q2] [])] H = some r := lim_of ((impl_deep_impl_graph_onOf_eq k s1 q2 H).trans h)
noncomputable def pl_impl_graph_ahead : List (Nat × Run) := [(fid_impl_graph_onOf, run_impl_graph_onOf), (fid_slices_Contains_string, run_slices_Contains_string)]
noncomputable def G_impl_graph_ahead : Ctx := ctx tyTab fiTab pl_impl_graph_ahead
noncomputable def run_impl_graph_ahead : Run := lim G_impl_graph_ahead fid_impl_graph_ahead
theorem ok_impl_graph_ahead : FnOk Try.prog OkT fid_impl_graph_ahead run_impl_graph_ahead := lim_ok (l := pl_impl_graph_ahead) Try_mix tyTab_ok fiTab_ok okT (.cons ok_impl_graph_onOf (.cons ok_slices_Contains_string .nil)) fid_impl_graph_ahead
noncomputable def impl_graph_ahead_l0 (k m : Nat) : Nat → Cell → ByteArray → Cell → Cell → Int → Int → List Entry → Option Res
  | 0, _, _, _, _, _, _, _ => none
  | n + 1, c8, s9, c10, c11, i12, i13, H14 =>
    cond (decide (i13 < i12))
    ((idxA 1 (c11) i13).bind fun c15 =>
    (deref H14 (c15)).bind fun p16 =>
    (cS p16.1 p16.2).bind fun s17 =>
    (run_impl_graph_onOf [.one (c8), .one (Cell.str s17)] H14).bind fun r18 =>
    cond (shapeOk rk_impl_graph_onOf r18.1)
    ((cC (cellsAt r18.1 0) 0).bind fun c19 =>
    (callS run_slices_Contains_string [.one (c19), .one (Cell.str s9)] r18.2).bind fun r20 =>
    cond (shapeOk rk_slices_Contains_string r20)
    ((cB (cellsAt r20 0) 0).bind fun b21 =>
    cond b21
    ((app r18.2 1 16 (c10) [[Cell.str s17]]).bind fun p22 =>
    impl_graph_ahead_l0 k m n (c8) s9 (p22.1) (c11) i12 (IntKind.i64.wrap (i13 + 1)) p22.2)
    (impl_graph_ahead_l0 k m n (c8) s9 (c10) (c11) i12 (IntKind.i64.wrap (i13 + 1)) r18.2))
    none)
    none)
    (some ([.one (c10)], H14))
noncomputable def impl_graph_ahead (k m : Nat) (c1 : Cell) (s2 : ByteArray) (H : List Entry) : Option Res :=
  (ptrC c1).bind fun c3 =>
  (fldA c3 0).bind fun c4 =>
  (deref H (c4)).bind fun p5 =>
  (cC p5.1 p5.2).bind fun c6 =>
  (lenC c6).bind fun n7 =>
  impl_graph_ahead_l0 k m m (c1) s2 (.lst true 1 []) (c6) (n7 : Int) 0 H
noncomputable abbrev impl_graph_ahead_l0_B (k m : Nat) : (Ex → Fr → Option Res) → Fr → Option Res := evC G_impl_graph_ahead fi_impl_graph_ahead (evF G_impl_graph_ahead (k + 1)) m (sub [1, 1, 0, 1, 2, 3] fi_impl_graph_ahead.code) none
noncomputable abbrev impl_graph_ahead_l0_K (k m : Nat) : Ex → Fr → Option Res := blockK 0 (seqK (evC G_impl_graph_ahead fi_impl_graph_ahead (evF G_impl_graph_ahead (k + 1)) m (sub [1, 1, 1] fi_impl_graph_ahead.code) none) (retK G_impl_graph_ahead fi_impl_graph_ahead))
theorem impl_graph_ahead_l0_eq (k m : Nat) : ∀ (n : Nat) (c8 : Cell) (s9 : ByteArray) (c10 : Cell) (c11 : Cell) (i12 : Int) (i13 : Int) (H14 : List Entry), loopK (some [0, 1, 5, 11, 12, 13]) (impl_graph_ahead_l0_B k m) (impl_graph_ahead_l0_K k m) n ⟨fT 28 0 [(0, .av (.one (c8))), (1, .av (.one (Cell.str s9))), (5, .av (.one (c10))), (11, .av (.one (c11))), (12, .av (.one (Cell.int i12))), (13, .av (.one (Cell.int i13)))], fX 28 0 [], H14⟩ = impl_graph_ahead_l0 (k + 1) m n c8 s9 c10 c11 i12 i13 H14 := by
  intro n
  induction n with
  | zero => intros; rfl
  | succ n ih =>
    intros
    simp only [impl_graph_ahead_l0, ← ih]
    kernel_rfl
theorem impl_graph_ahead_code (k m : Nat) (c1 : Cell) (s2 : ByteArray) (H : List Entry) : evC G_impl_graph_ahead fi_impl_graph_ahead (evF G_impl_graph_ahead (k + 1)) m fi_impl_graph_ahead.code none (retK G_impl_graph_ahead fi_impl_graph_ahead) (enter fi_impl_graph_ahead [.one (c1), .one (Cell.str s2)] H) = impl_graph_ahead (k + 1) m c1 s2 H := by
  simp only [impl_graph_ahead, ← impl_graph_ahead_l0_eq k m]
  kernel_rfl
theorem impl_graph_ahead_eq (k : Nat) (c1 : Cell) (s2 : ByteArray) (H : List Entry) : evF G_impl_graph_ahead (k + 2) fid_impl_graph_ahead [.one (c1), .one (Cell.str s2)] H = impl_graph_ahead (k + 1) (k + 1) c1 s2 H :=
  Eq.trans (by kernel_rfl) (impl_graph_ahead_code k (k + 1) c1 s2 H)
theorem run_impl_graph_ahead_of {c1 : Cell} {s2 : ByteArray} {H : List Entry} {r : Res} (k : Nat) (h : impl_graph_ahead (k + 1) (k + 1) c1 s2 H = some r) : run_impl_graph_ahead [.one (c1), .one (Cell.str s2)] H = some r := lim_of ((impl_graph_ahead_eq k c1 s2 H).trans h)
noncomputable def pl_impl_graph_way : List (Nat × Run) := [(fid_impl_graph_onOf, run_impl_graph_onOf), (fid_impl_graph_ahead, run_impl_graph_ahead)]
noncomputable def G_impl_graph_way : Ctx := ctx tyTab fiTab pl_impl_graph_way
noncomputable def run_impl_graph_way : Run := lim G_impl_graph_way fid_impl_graph_way
theorem ok_impl_graph_way : FnOk Try.prog OkT fid_impl_graph_way run_impl_graph_way := lim_ok (l := pl_impl_graph_way) Try_mix tyTab_ok fiTab_ok okT (.cons ok_impl_graph_onOf (.cons ok_impl_graph_ahead .nil)) fid_impl_graph_way
noncomputable def impl_graph_way_l4 (k m : Nat) (b_l3 : Cell → ByteArray → Cell → Cell → List Entry → Option Res) : Nat → Cell → ByteArray → Cell → Cell → Cell → Int → Int → List Entry → Option Res
  | 0, _, _, _, _, _, _, _, _ => none
  | n + 1, c64, s65, c66, c67, c68, i69, i70, H71 =>
    cond (decide (i70 < i69))
    ((idxA 1 (c68) i70).bind fun c72 =>
    (deref H71 (c72)).bind fun p73 =>
    (cS p73.1 p73.2).bind fun s74 =>
    (mapAtC H71 (c66) s74).bind fun i75 =>
    cond (decide (i75 > 0))
    ((mapAtC H71 (c66) s74).bind fun i76 =>
    (mapAtC H71 (c66) s65).bind fun i77 =>
    cond (i76 == (IntKind.i64.wrap (i77 - 1)))
    ((srcRows (H71 ++ [Entry.mk 1 [[Cell.str s74]] 0 false]) 1 (.vs H71.length 1 0 1 0)).bind fun r78 =>
    (app (H71 ++ [Entry.mk 1 [[Cell.str s74]] 0 false]) 1 16 (c67) r78).bind fun p79 =>
    b_l3 (c64) s74 (c66) (p79.1) p79.2)
    (impl_graph_way_l4 k m b_l3 n (c64) s65 (c66) (c67) (c68) i69 (IntKind.i64.wrap (i70 + 1)) H71))
    (impl_graph_way_l4 k m b_l3 n (c64) s65 (c66) (c67) (c68) i69 (IntKind.i64.wrap (i70 + 1)) H71))
    ((srcRows (H71 ++ [Entry.mk 1 [[Cell.str s65]] 0 false]) 1 (.vs H71.length 1 0 1 0)).bind fun r80 =>
    (app (H71 ++ [Entry.mk 1 [[Cell.str s65]] 0 false]) 1 16 (c67) r80).bind fun p81 =>
    b_l3 (c64) s65 (c66) (p81.1) p81.2)
noncomputable def impl_graph_way_l3 (k m : Nat) : Nat → Cell → ByteArray → Cell → Cell → List Entry → Option Res
  | 0, _, _, _, _, _ => none
  | n + 1, c55, s56, c57, c58, H59 =>
    (mapAtC H59 (c57) s56).bind fun i60 =>
    cond (decide (i60 > 1))
    ((run_impl_graph_onOf [.one (c55), .one (Cell.str s56)] H59).bind fun r61 =>
    cond (shapeOk rk_impl_graph_onOf r61.1)
    ((cC (cellsAt r61.1 0) 0).bind fun c62 =>
    (lenC c62).bind fun n63 =>
    impl_graph_way_l4 k m (impl_graph_way_l3 k m n) m (c55) s56 (c57) (c58) (c62) (n63 : Int) 0 r61.2)
    none)
    (some ([.one (c58)], H59))
noncomputable def impl_graph_way_l2 (k m : Nat) (b_l1 : Cell → ByteArray → Cell → Cell → Int → List Entry → Option Res) : Nat → Cell → ByteArray → Cell → Cell → Int → Cell → Int → Int → List Entry → Option Res
  | 0, _, _, _, _, _, _, _, _, _ => none
  | n + 1, c35, s36, c37, c38, i39, c40, i41, i42, H43 =>
    cond (decide (i42 < i41))
    ((idxA 1 (c40) i42).bind fun c44 =>
    (deref H43 (c44)).bind fun p45 =>
    (cS p45.1 p45.2).bind fun s46 =>
    (mapAtC H43 (c37) s46).bind fun i47 =>
    cond (i47 == 0)
    ((idxA 1 (c38) i39).bind fun c48 =>
    (deref H43 (c48)).bind fun p49 =>
    (cS p49.1 p49.2).bind fun s50 =>
    (mapAtC H43 (c37) s50).bind fun i51 =>
    (mapPutC H43 (c37) s46 (IntKind.i64.wrap (i51 + 1))).bind fun h52 =>
    (srcRows (h52 ++ [Entry.mk 1 [[Cell.str s46]] 0 false]) 1 (.vs h52.length 1 0 1 0)).bind fun r53 =>
    (app (h52 ++ [Entry.mk 1 [[Cell.str s46]] 0 false]) 1 16 (c38) r53).bind fun p54 =>
    impl_graph_way_l2 k m b_l1 n (c35) s36 (c37) (p54.1) i39 (c40) i41 (IntKind.i64.wrap (i42 + 1)) p54.2)
    (impl_graph_way_l2 k m b_l1 n (c35) s36 (c37) (c38) i39 (c40) i41 (IntKind.i64.wrap (i42 + 1)) H43))
    (b_l1 (c35) s36 (c37) (c38) (IntKind.i64.wrap (i39 + 1)) H43)
noncomputable def impl_graph_way_l1 (k m : Nat) : Nat → Cell → ByteArray → Cell → Cell → Int → List Entry → Option Res
  | 0, _, _, _, _, _, _ => none
  | n + 1, c22, s23, c24, c25, i26, H27 =>
    (lenC c25).bind fun n28 =>
    cond (decide (i26 < (n28 : Int)))
    ((idxA 1 (c25) i26).bind fun c29 =>
    (deref H27 (c29)).bind fun p30 =>
    (cS p30.1 p30.2).bind fun s31 =>
    (run_impl_graph_ahead [.one (c22), .one (Cell.str s31)] H27).bind fun r32 =>
    cond (shapeOk rk_impl_graph_ahead r32.1)
    ((cC (cellsAt r32.1 0) 0).bind fun c33 =>
    (lenC c33).bind fun n34 =>
    impl_graph_way_l2 k m (impl_graph_way_l1 k m n) m (c22) s23 (c24) (c25) i26 (c33) (n34 : Int) 0 r32.2)
    none)
    (impl_graph_way_l3 k m m (c22) s23 (c24) ((.vs H27.length 1 0 1 0)) (H27 ++ [Entry.mk 1 [[Cell.str s23]] 0 false]))
noncomputable def impl_graph_way_l0 (k m : Nat) : Nat → Cell → ByteArray → Cell → Cell → Cell → Int → Int → List Entry → Option Res
  | 0, _, _, _, _, _, _, _, _ => none
  | n + 1, c7, s8, c9, c10, c11, i12, i13, H14 =>
    cond (decide (i13 < i12))
    ((idxA 1 (c11) i13).bind fun c15 =>
    (deref H14 (c15)).bind fun p16 =>
    (cS p16.1 p16.2).bind fun s17 =>
    (mapAtC H14 (c9) s17).bind fun i18 =>
    cond (i18 == 0)
    ((mapPutC H14 (c9) s17 (1 : Int)).bind fun h19 =>
    (srcRows (h19 ++ [Entry.mk 1 [[Cell.str s17]] 0 false]) 1 (.vs h19.length 1 0 1 0)).bind fun r20 =>
    (app (h19 ++ [Entry.mk 1 [[Cell.str s17]] 0 false]) 1 16 (c10) r20).bind fun p21 =>
    impl_graph_way_l0 k m n (c7) s8 (c9) (p21.1) (c11) i12 (IntKind.i64.wrap (i13 + 1)) p21.2)
    (impl_graph_way_l0 k m n (c7) s8 (c9) (c10) (c11) i12 (IntKind.i64.wrap (i13 + 1)) H14))
    (impl_graph_way_l1 k m m (c7) s8 (c9) (c10) 0 H14)
noncomputable def impl_graph_way (k m : Nat) (c1 : Cell) (s2 : ByteArray) (s3 : ByteArray) (H : List Entry) : Option Res :=
  (run_impl_graph_ahead [.one (c1), .one (Cell.str s3)] ((H ++ [Entry.mk 2 [] 0 false]) ++ [Entry.mk 1 [] 0 false])).bind fun r4 =>
  cond (shapeOk rk_impl_graph_ahead r4.1)
  ((cC (cellsAt r4.1 0) 0).bind fun c5 =>
  (lenC c5).bind fun n6 =>
  impl_graph_way_l0 k m m (c1) s2 (.mp H.length 0) ((.vs ((H ++ [Entry.mk 2 [] 0 false]).length) 1 0 0 0)) (c5) (n6 : Int) 0 r4.2)
  none
noncomputable abbrev impl_graph_way_l0_B (k m : Nat) : (Ex → Fr → Option Res) → Fr → Option Res := evC G_impl_graph_way fi_impl_graph_way (evF G_impl_graph_way (k + 1)) m (sub [1, 1, 1, 0, 1, 2, 3] fi_impl_graph_way.code) none
noncomputable abbrev impl_graph_way_l0_K (k m : Nat) : Ex → Fr → Option Res := blockK 0 (seqK (evC G_impl_graph_way fi_impl_graph_way (evF G_impl_graph_way (k + 1)) m (sub [1, 1, 1, 1] fi_impl_graph_way.code) none) (retK G_impl_graph_way fi_impl_graph_way))
noncomputable abbrev impl_graph_way_l1_B (k m : Nat) : (Ex → Fr → Option Res) → Fr → Option Res := evC G_impl_graph_way fi_impl_graph_way (evF G_impl_graph_way (k + 1)) m (sub [1, 1, 1, 1, 0, 1, 2, 3] fi_impl_graph_way.code) none
noncomputable abbrev impl_graph_way_l1_K (k m : Nat) : Ex → Fr → Option Res := blockK 2 (seqK (evC G_impl_graph_way fi_impl_graph_way (evF G_impl_graph_way (k + 1)) m (sub [1, 1, 1, 1, 1] fi_impl_graph_way.code) none) (retK G_impl_graph_way fi_impl_graph_way))
noncomputable abbrev impl_graph_way_l2_B (k m : Nat) : (Ex → Fr → Option Res) → Fr → Option Res := evC G_impl_graph_way fi_impl_graph_way (evF G_impl_graph_way (k + 1)) m (sub [1, 1, 1, 1, 0, 1, 2, 3, 1, 0, 2, 1, 2, 3] fi_impl_graph_way.code) none
noncomputable abbrev impl_graph_way_l2_K (k m : Nat) (n_l1 : Nat) : Ex → Fr → Option Res := blockK 4 (blockK 3 (seqK (evC G_impl_graph_way fi_impl_graph_way (evF G_impl_graph_way (k + 1)) m (sub [1, 1, 1, 1, 0, 1, 2, 3, 1, 1] fi_impl_graph_way.code) none) (loopE (fun s => loopK (some [0, 1, 7, 8, 11]) (impl_graph_way_l1_B k m) (impl_graph_way_l1_K k m) n_l1 (keepS (some [0, 1, 7, 8, 11]) s)) (impl_graph_way_l1_K k m))))
noncomputable abbrev impl_graph_way_l3_B (k m : Nat) : (Ex → Fr → Option Res) → Fr → Option Res := evC G_impl_graph_way fi_impl_graph_way (evF G_impl_graph_way (k + 1)) m (sub [1, 1, 1, 1, 1, 1, 0, 2, 3] fi_impl_graph_way.code) none
noncomputable abbrev impl_graph_way_l3_K (k m : Nat) : Ex → Fr → Option Res := blockK 6 (seqK (evC G_impl_graph_way fi_impl_graph_way (evF G_impl_graph_way (k + 1)) m (sub [1, 1, 1, 1, 1, 1, 1] fi_impl_graph_way.code) none) (retK G_impl_graph_way fi_impl_graph_way))
noncomputable abbrev impl_graph_way_l4_B (k m : Nat) : (Ex → Fr → Option Res) → Fr → Option Res := evC G_impl_graph_way fi_impl_graph_way (evF G_impl_graph_way (k + 1)) m (sub [1, 1, 1, 1, 1, 1, 0, 2, 3, 1, 2, 0, 1, 2, 3] fi_impl_graph_way.code) none
noncomputable abbrev impl_graph_way_l4_K (k m : Nat) (n_l3 : Nat) : Ex → Fr → Option Res := blockK 8 (seqK (evC G_impl_graph_way fi_impl_graph_way (evF G_impl_graph_way (k + 1)) m (sub [1, 1, 1, 1, 1, 1, 0, 2, 3, 1, 2, 1] fi_impl_graph_way.code) none) (blockK 7 (loopE (fun s => loopK (some [0, 1, 7, 14]) (impl_graph_way_l3_B k m) (impl_graph_way_l3_K k m) n_l3 (keepS (some [0, 1, 7, 14]) s)) (impl_graph_way_l3_K k m))))
theorem impl_graph_way_l4_eq (k m : Nat) (b_l3 : Cell → ByteArray → Cell → Cell → List Entry → Option Res) (n_l3 : Nat) (h_l3 : ∀ (c55 : Cell) (s56 : ByteArray) (c57 : Cell) (c58 : Cell) (H59 : List Entry), loopK (some [0, 1, 7, 14]) (impl_graph_way_l3_B k m) (impl_graph_way_l3_K k m) n_l3 ⟨fT 108 0 [(0, .av (.one (c55))), (1, .av (.one (Cell.str s56))), (7, .av (.one (c57))), (14, .av (.one (c58)))], fX 108 0 [], H59⟩ = b_l3 c55 s56 c57 c58 H59) : ∀ (n : Nat) (c64 : Cell) (s65 : ByteArray) (c66 : Cell) (c67 : Cell) (c68 : Cell) (i69 : Int) (i70 : Int) (H71 : List Entry), loopK (some [0, 1, 7, 14, 81, 82, 83]) (impl_graph_way_l4_B k m) (impl_graph_way_l4_K k m n_l3) n ⟨fT 108 0 [(0, .av (.one (c64))), (1, .av (.one (Cell.str s65))), (7, .av (.one (c66))), (14, .av (.one (c67))), (81, .av (.one (c68))), (82, .av (.one (Cell.int i69))), (83, .av (.one (Cell.int i70)))], fX 108 0 [], H71⟩ = impl_graph_way_l4 (k + 1) m b_l3 n c64 s65 c66 c67 c68 i69 i70 H71 := by
  intro n
  induction n with
  | zero => intros; rfl
  | succ n ih =>
    intros
    simp only [impl_graph_way_l4, ← h_l3, ← ih]
    kernel_rfl
theorem impl_graph_way_l3_eq (k m : Nat) : ∀ (n : Nat) (c55 : Cell) (s56 : ByteArray) (c57 : Cell) (c58 : Cell) (H59 : List Entry), loopK (some [0, 1, 7, 14]) (impl_graph_way_l3_B k m) (impl_graph_way_l3_K k m) n ⟨fT 108 0 [(0, .av (.one (c55))), (1, .av (.one (Cell.str s56))), (7, .av (.one (c57))), (14, .av (.one (c58)))], fX 108 0 [], H59⟩ = impl_graph_way_l3 (k + 1) m n c55 s56 c57 c58 H59 := by
  intro n
  induction n with
  | zero => intros; rfl
  | succ n ih =>
    intros
    simp only [impl_graph_way_l3, ← impl_graph_way_l4_eq k m _ _ (ih)]
    kernel_rfl
theorem impl_graph_way_l2_eq (k m : Nat) (b_l1 : Cell → ByteArray → Cell → Cell → Int → List Entry → Option Res) (n_l1 : Nat) (h_l1 : ∀ (c22 : Cell) (s23 : ByteArray) (c24 : Cell) (c25 : Cell) (i26 : Int) (H27 : List Entry), loopK (some [0, 1, 7, 8, 11]) (impl_graph_way_l1_B k m) (impl_graph_way_l1_K k m) n_l1 ⟨fT 108 0 [(0, .av (.one (c22))), (1, .av (.one (Cell.str s23))), (7, .av (.one (c24))), (8, .av (.one (c25))), (11, .av (.one (Cell.int i26)))], fX 108 0 [], H27⟩ = b_l1 c22 s23 c24 c25 i26 H27) : ∀ (n : Nat) (c35 : Cell) (s36 : ByteArray) (c37 : Cell) (c38 : Cell) (i39 : Int) (c40 : Cell) (i41 : Int) (i42 : Int) (H43 : List Entry), loopK (some [0, 1, 7, 8, 11, 49, 50, 51]) (impl_graph_way_l2_B k m) (impl_graph_way_l2_K k m n_l1) n ⟨fT 108 0 [(0, .av (.one (c35))), (1, .av (.one (Cell.str s36))), (7, .av (.one (c37))), (8, .av (.one (c38))), (11, .av (.one (Cell.int i39))), (49, .av (.one (c40))), (50, .av (.one (Cell.int i41))), (51, .av (.one (Cell.int i42)))], fX 108 0 [], H43⟩ = impl_graph_way_l2 (k + 1) m b_l1 n c35 s36 c37 c38 i39 c40 i41 i42 H43 := by
  intro n
  induction n with
  | zero => intros; rfl
  | succ n ih =>
    intros
    simp only [impl_graph_way_l2, ← h_l1, ← ih]
    kernel_rfl
theorem impl_graph_way_l1_eq (k m : Nat) : ∀ (n : Nat) (c22 : Cell) (s23 : ByteArray) (c24 : Cell) (c25 : Cell) (i26 : Int) (H27 : List Entry), loopK (some [0, 1, 7, 8, 11]) (impl_graph_way_l1_B k m) (impl_graph_way_l1_K k m) n ⟨fT 108 0 [(0, .av (.one (c22))), (1, .av (.one (Cell.str s23))), (7, .av (.one (c24))), (8, .av (.one (c25))), (11, .av (.one (Cell.int i26)))], fX 108 0 [], H27⟩ = impl_graph_way_l1 (k + 1) m n c22 s23 c24 c25 i26 H27 := by
  intro n
  induction n with
  | zero => intros; rfl
  | succ n ih =>
    intros
    simp only [impl_graph_way_l1, ← impl_graph_way_l2_eq k m _ _ (ih), ← impl_graph_way_l3_eq k m]
    kernel_rfl
theorem impl_graph_way_l0_eq (k m : Nat) : ∀ (n : Nat) (c7 : Cell) (s8 : ByteArray) (c9 : Cell) (c10 : Cell) (c11 : Cell) (i12 : Int) (i13 : Int) (H14 : List Entry), loopK (some [0, 1, 7, 8, 21, 22, 23]) (impl_graph_way_l0_B k m) (impl_graph_way_l0_K k m) n ⟨fT 108 0 [(0, .av (.one (c7))), (1, .av (.one (Cell.str s8))), (7, .av (.one (c9))), (8, .av (.one (c10))), (21, .av (.one (c11))), (22, .av (.one (Cell.int i12))), (23, .av (.one (Cell.int i13)))], fX 108 0 [], H14⟩ = impl_graph_way_l0 (k + 1) m n c7 s8 c9 c10 c11 i12 i13 H14 := by
  intro n
  induction n with
  | zero => intros; rfl
  | succ n ih =>
    intros
    simp only [impl_graph_way_l0, ← impl_graph_way_l1_eq k m, ← ih]
    kernel_rfl
theorem impl_graph_way_code (k m : Nat) (c1 : Cell) (s2 : ByteArray) (s3 : ByteArray) (H : List Entry) : evC G_impl_graph_way fi_impl_graph_way (evF G_impl_graph_way (k + 1)) m fi_impl_graph_way.code none (retK G_impl_graph_way fi_impl_graph_way) (enter fi_impl_graph_way [.one (c1), .one (Cell.str s2), .one (Cell.str s3)] H) = impl_graph_way (k + 1) m c1 s2 s3 H := by
  simp only [impl_graph_way, ← impl_graph_way_l0_eq k m]
  kernel_rfl
theorem impl_graph_way_eq (k : Nat) (c1 : Cell) (s2 : ByteArray) (s3 : ByteArray) (H : List Entry) : evF G_impl_graph_way (k + 2) fid_impl_graph_way [.one (c1), .one (Cell.str s2), .one (Cell.str s3)] H = impl_graph_way (k + 1) (k + 1) c1 s2 s3 H :=
  Eq.trans (by kernel_rfl) (impl_graph_way_code k (k + 1) c1 s2 s3 H)
theorem run_impl_graph_way_of {c1 : Cell} {s2 : ByteArray} {s3 : ByteArray} {H : List Entry} {r : Res} (k : Nat) (h : impl_graph_way (k + 1) (k + 1) c1 s2 s3 H = some r) : run_impl_graph_way [.one (c1), .one (Cell.str s2), .one (Cell.str s3)] H = some r := lim_of ((impl_graph_way_eq k c1 s2 s3 H).trans h)
noncomputable def pl_impl_graph_ring : List (Nat × Run) := [(fid_impl_deep, run_impl_deep), (fid_impl_graph_onOf, run_impl_graph_onOf), (fid_slices_Contains_string, run_slices_Contains_string), (fid_impl_graph_way, run_impl_graph_way)]
noncomputable def G_impl_graph_ring : Ctx := ctx tyTab fiTab pl_impl_graph_ring
noncomputable def run_impl_graph_ring : Run := lim G_impl_graph_ring fid_impl_graph_ring
theorem ok_impl_graph_ring : FnOk Try.prog OkT fid_impl_graph_ring run_impl_graph_ring := lim_ok (l := pl_impl_graph_ring) Try_mix tyTab_ok fiTab_ok okT (.cons ok_impl_deep (.cons ok_impl_graph_onOf (.cons ok_slices_Contains_string (.cons ok_impl_graph_way .nil)))) fid_impl_graph_ring
noncomputable def impl_graph_ring_l0 (k m : Nat) : Nat → Cell → Cell → Int → Int → List Entry → Option Res
  | 0, _, _, _, _, _ => none
  | n + 1, c7, c8, i9, i10, H11 =>
    cond (decide (i10 < i9))
    ((idxA 1 (c8) i10).bind fun c12 =>
    (deref H11 (c12)).bind fun p13 =>
    (cS p13.1 p13.2).bind fun s14 =>
    (run_impl_deep [.one (Cell.str s14), .one (.fn fid_impl_graph_onOf [c7] [])] H11).bind fun r15 =>
    cond (shapeOk rk_impl_deep r15.1)
    ((cC (cellsAt r15.1 0) 0).bind fun c16 =>
    (callS run_slices_Contains_string [.one (c16), .one (Cell.str s14)] r15.2).bind fun r17 =>
    cond (shapeOk rk_slices_Contains_string r17)
    ((cB (cellsAt r17 0) 0).bind fun b18 =>
    cond b18
    ((run_impl_graph_way [.one (c7), .one (Cell.str s14), .one (Cell.str s14)] r15.2).bind fun r19 =>
    cond (shapeOk rk_impl_graph_way r19.1)
    ((cC (cellsAt r19.1 0) 0).bind fun c20 =>
    some ([.one (c20)], r19.2))
    none)
    (impl_graph_ring_l0 k m n (c7) (c8) i9 (IntKind.i64.wrap (i10 + 1)) r15.2))
    none)
    none)
    (some ([.one (.lst true 1 [])], H11))
noncomputable def impl_graph_ring (k m : Nat) (c1 : Cell) (H : List Entry) : Option Res :=
  (ptrC c1).bind fun c2 =>
  (fldA c2 0).bind fun c3 =>
  (deref H (c3)).bind fun p4 =>
  (cC p4.1 p4.2).bind fun c5 =>
  (lenC c5).bind fun n6 =>
  impl_graph_ring_l0 k m m (c1) (c5) (n6 : Int) 0 H
noncomputable abbrev impl_graph_ring_l0_B (k m : Nat) : (Ex → Fr → Option Res) → Fr → Option Res := evC G_impl_graph_ring fi_impl_graph_ring (evF G_impl_graph_ring (k + 1)) m (sub [1, 0, 1, 2, 3] fi_impl_graph_ring.code) none
noncomputable abbrev impl_graph_ring_l0_K (k m : Nat) : Ex → Fr → Option Res := blockK 0 (seqK (evC G_impl_graph_ring fi_impl_graph_ring (evF G_impl_graph_ring (k + 1)) m (sub [1, 1] fi_impl_graph_ring.code) none) (retK G_impl_graph_ring fi_impl_graph_ring))
theorem impl_graph_ring_l0_eq (k m : Nat) : ∀ (n : Nat) (c7 : Cell) (c8 : Cell) (i9 : Int) (i10 : Int) (H11 : List Entry), loopK (some [0, 8, 9, 10]) (impl_graph_ring_l0_B k m) (impl_graph_ring_l0_K k m) n ⟨fT 25 0 [(0, .av (.one (c7))), (8, .av (.one (c8))), (9, .av (.one (Cell.int i9))), (10, .av (.one (Cell.int i10)))], fX 25 0 [], H11⟩ = impl_graph_ring_l0 (k + 1) m n c7 c8 i9 i10 H11 := by
  intro n
  induction n with
  | zero => intros; rfl
  | succ n ih =>
    intros
    simp only [impl_graph_ring_l0, ← ih]
    kernel_rfl
theorem impl_graph_ring_code (k m : Nat) (c1 : Cell) (H : List Entry) : evC G_impl_graph_ring fi_impl_graph_ring (evF G_impl_graph_ring (k + 1)) m fi_impl_graph_ring.code none (retK G_impl_graph_ring fi_impl_graph_ring) (enter fi_impl_graph_ring [.one (c1)] H) = impl_graph_ring (k + 1) m c1 H := by
  simp only [impl_graph_ring, ← impl_graph_ring_l0_eq k m]
  kernel_rfl
theorem impl_graph_ring_eq (k : Nat) (c1 : Cell) (H : List Entry) : evF G_impl_graph_ring (k + 2) fid_impl_graph_ring [.one (c1)] H = impl_graph_ring (k + 1) (k + 1) c1 H :=
  Eq.trans (by kernel_rfl) (impl_graph_ring_code k (k + 1) c1 H)
theorem run_impl_graph_ring_of {c1 : Cell} {H : List Entry} {r : Res} (k : Nat) (h : impl_graph_ring (k + 1) (k + 1) c1 H = some r) : run_impl_graph_ring [.one (c1)] H = some r := lim_of ((impl_graph_ring_eq k c1 H).trans h)
noncomputable def pl_impl_Plan_graph : List (Nat × Run) := []
noncomputable def G_impl_Plan_graph : Ctx := ctx tyTab fiTab pl_impl_Plan_graph
noncomputable def run_impl_Plan_graph : Run := lim G_impl_Plan_graph fid_impl_Plan_graph
theorem ok_impl_Plan_graph : FnOk Try.prog OkT fid_impl_Plan_graph run_impl_Plan_graph := lim_ok (l := pl_impl_Plan_graph) Try_mix tyTab_ok fiTab_ok okT .nil fid_impl_Plan_graph
noncomputable def impl_Plan_graph_l0 (k m : Nat) : Nat → Cell → Cell → Int → Int → List Entry → Option Res
  | 0, _, _, _, _, _ => none
  | n + 1, c11, c12, i13, i14, H15 =>
    cond (decide (i14 < i13))
    ((ptrC c11).bind fun c16 =>
    (fldA c16 1).bind fun c17 =>
    (deref H15 (c17)).bind fun p18 =>
    (cC p18.1 p18.2).bind fun c19 =>
    (lenC c19).bind fun n20 =>
    cond (decide (i14 < (n20 : Int)))
    ((ptrC c11).bind fun c21 =>
    (fldA c21 1).bind fun c22 =>
    (deref H15 (c22)).bind fun p23 =>
    (cC p23.1 p23.2).bind fun c24 =>
    (idxA 1 (c24) i14).bind fun c25 =>
    (deref H15 (c25)).bind fun p26 =>
    (cC p26.1 p26.2).bind fun c27 =>
    (ptrC c12).bind fun c28 =>
    (fldA c28 1).bind fun c29 =>
    (deref H15 (c29)).bind fun p30 =>
    (cC p30.1 p30.2).bind fun c31 =>
    restK [c27] fun d32 =>
    (srcRows H15 1 (.lst true 1 (chunks 1 1 d32))).bind fun r33 =>
    (app H15 1 24 (c31) r33).bind fun p34 =>
    (ptrC c12).bind fun c35 =>
    (fldA c35 1).bind fun c36 =>
    (hStore p34.2 (c36) [p34.1]).bind fun h37 =>
    impl_Plan_graph_l0 k m n (c11) (c12) i13 (IntKind.i64.wrap (i14 + 1)) h37)
    ((ptrC c12).bind fun c38 =>
    (fldA c38 1).bind fun c39 =>
    (deref H15 (c39)).bind fun p40 =>
    (cC p40.1 p40.2).bind fun c41 =>
    (app H15 1 24 (c41) [[.lst true 1 []]]).bind fun p42 =>
    (ptrC c12).bind fun c43 =>
    (fldA c43 1).bind fun c44 =>
    (hStore p42.2 (c44) [p42.1]).bind fun h45 =>
    impl_Plan_graph_l0 k m n (c11) (c12) i13 (IntKind.i64.wrap (i14 + 1)) h45))
    (some ([.one (c12)], H15))
noncomputable def impl_Plan_graph (k m : Nat) (c1 : Cell) (H : List Entry) : Option Res :=
  (ptrC c1).bind fun c2 =>
  (fldA c2 0).bind fun c3 =>
  (deref H (c3)).bind fun p4 =>
  (cC p4.1 p4.2).bind fun c5 =>
  (ptrC c1).bind fun c6 =>
  (fldA c6 0).bind fun c7 =>
  (deref (H ++ [Entry.mk 2 [[c5, .lst true 1 []]] 0 false]) (c7)).bind fun p8 =>
  (cC p8.1 p8.2).bind fun c9 =>
  (lenC c9).bind fun n10 =>
  impl_Plan_graph_l0 k m m (c1) (.ptr H.length 2 0 0 0) (n10 : Int) 0 (H ++ [Entry.mk 2 [[c5, .lst true 1 []]] 0 false])
noncomputable abbrev impl_Plan_graph_l0_B (k m : Nat) : (Ex → Fr → Option Res) → Fr → Option Res := evC G_impl_Plan_graph fi_impl_Plan_graph (evF G_impl_Plan_graph (k + 1)) m (sub [1, 1, 0, 1, 2, 3] fi_impl_Plan_graph.code) none
noncomputable abbrev impl_Plan_graph_l0_K (k m : Nat) : Ex → Fr → Option Res := blockK 0 (seqK (evC G_impl_Plan_graph fi_impl_Plan_graph (evF G_impl_Plan_graph (k + 1)) m (sub [1, 1, 1] fi_impl_Plan_graph.code) none) (retK G_impl_Plan_graph fi_impl_Plan_graph))
theorem impl_Plan_graph_l0_eq (k m : Nat) : ∀ (n : Nat) (c11 : Cell) (c12 : Cell) (i13 : Int) (i14 : Int) (H15 : List Entry), loopK (some [0, 3, 16, 17]) (impl_Plan_graph_l0_B k m) (impl_Plan_graph_l0_K k m) n ⟨fT 46 0 [(0, .av (.one (c11))), (3, .av (.one (c12))), (16, .av (.one (Cell.int i13))), (17, .av (.one (Cell.int i14)))], fX 46 0 [], H15⟩ = impl_Plan_graph_l0 (k + 1) m n c11 c12 i13 i14 H15 := by
  intro n
  induction n with
  | zero => intros; rfl
  | succ n ih =>
    intros
    simp only [impl_Plan_graph_l0, ← ih]
    kernel_rfl
theorem impl_Plan_graph_code (k m : Nat) (c1 : Cell) (H : List Entry) : evC G_impl_Plan_graph fi_impl_Plan_graph (evF G_impl_Plan_graph (k + 1)) m fi_impl_Plan_graph.code none (retK G_impl_Plan_graph fi_impl_Plan_graph) (enter fi_impl_Plan_graph [.one (c1)] H) = impl_Plan_graph (k + 1) m c1 H := by
  simp only [impl_Plan_graph, ← impl_Plan_graph_l0_eq k m]
  kernel_rfl
theorem impl_Plan_graph_eq (k : Nat) (c1 : Cell) (H : List Entry) : evF G_impl_Plan_graph (k + 2) fid_impl_Plan_graph [.one (c1)] H = impl_Plan_graph (k + 1) (k + 1) c1 H :=
  Eq.trans (by kernel_rfl) (impl_Plan_graph_code k (k + 1) c1 H)
theorem run_impl_Plan_graph_of {c1 : Cell} {H : List Entry} {r : Res} (k : Nat) (h : impl_Plan_graph (k + 1) (k + 1) c1 H = some r) : run_impl_Plan_graph [.one (c1)] H = some r := lim_of ((impl_Plan_graph_eq k c1 H).trans h)
noncomputable def pl_impl_TaskRing : List (Nat × Run) := [(fid_impl_graph_ring, run_impl_graph_ring), (fid_impl_Plan_graph, run_impl_Plan_graph)]
noncomputable def G_impl_TaskRing : Ctx := ctx tyTab fiTab pl_impl_TaskRing
noncomputable def run_impl_TaskRing : Run := lim G_impl_TaskRing fid_impl_TaskRing
theorem ok_impl_TaskRing : FnOk Try.prog OkT fid_impl_TaskRing run_impl_TaskRing := lim_ok (l := pl_impl_TaskRing) Try_mix tyTab_ok fiTab_ok okT (.cons ok_impl_graph_ring (.cons ok_impl_Plan_graph .nil)) fid_impl_TaskRing
noncomputable def impl_TaskRing (k m : Nat) (c1 : Cell) (c2 : Cell) : Option Res :=
  (run_impl_Plan_graph [.one (.ptr 0 2 0 0 0)] [Entry.mk 2 [[c1, c2]] 0 false]).bind fun r3 =>
  cond (shapeOk rk_impl_Plan_graph r3.1)
  ((cC (cellsAt r3.1 0) 0).bind fun c4 =>
  (run_impl_graph_ring [.one (c4)] r3.2).bind fun r5 =>
  cond (shapeOk rk_impl_graph_ring r5.1)
  ((cC (cellsAt r5.1 0) 0).bind fun c6 =>
  some ([.one (c6)], r5.2))
  none)
  none
theorem impl_TaskRing_code (k m : Nat) (c1 : Cell) (c2 : Cell) : evC G_impl_TaskRing fi_impl_TaskRing (evF G_impl_TaskRing (k + 1)) m fi_impl_TaskRing.code none (retK G_impl_TaskRing fi_impl_TaskRing) (enter fi_impl_TaskRing [.agg [c1, c2]] []) = impl_TaskRing (k + 1) m c1 c2 := by
  kernel_rfl
theorem impl_TaskRing_eq (k : Nat) (c1 : Cell) (c2 : Cell) : evF G_impl_TaskRing (k + 2) fid_impl_TaskRing [.agg [c1, c2]] [] = impl_TaskRing (k + 1) (k + 1) c1 c2 :=
  Eq.trans (by kernel_rfl) (impl_TaskRing_code k (k + 1) c1 c2)
theorem run_impl_TaskRing_of {c1 : Cell} {c2 : Cell} {r : Res} (k : Nat) (h : impl_TaskRing (k + 1) (k + 1) c1 c2 = some r) : run_impl_TaskRing [.agg [c1, c2]] [] = some r := lim_of ((impl_TaskRing_eq k c1 c2).trans h)
noncomputable def pl_laws_eqStringS : List (Nat × Run) := []
noncomputable def G_laws_eqStringS : Ctx := ctx tyTab fiTab pl_laws_eqStringS
noncomputable def run_laws_eqStringS : Run := lim G_laws_eqStringS fid_laws_eqStringS
theorem ok_laws_eqStringS : FnOk Try.prog OkT fid_laws_eqStringS run_laws_eqStringS := lim_ok (l := pl_laws_eqStringS) Try_mix tyTab_ok fiTab_ok okT .nil fid_laws_eqStringS
noncomputable def laws_eqStringS_l0 (k m : Nat) : Nat → Cell → Cell → Int → Option Res
  | 0, _, _, _ => none
  | n + 1, c5, c6, i7 =>
    (lenC c5).bind fun n8 =>
    cond (decide (i7 < (n8 : Int)))
    ((idxA 1 (c5) i7).bind fun c9 =>
    (deref [] (c9)).bind fun p10 =>
    (cS p10.1 p10.2).bind fun s11 =>
    (idxA 1 (c6) i7).bind fun c12 =>
    (deref [] (c12)).bind fun p13 =>
    (cS p13.1 p13.2).bind fun s14 =>
    cond (!(s11.toList == s14.toList))
    (some ([.one (Cell.bool false)], []))
    (laws_eqStringS_l0 k m n (c5) (c6) (IntKind.i64.wrap (i7 + 1))))
    (some ([.one (Cell.bool true)], []))
noncomputable def laws_eqStringS (k m : Nat) (c1 : Cell) (c2 : Cell) : Option Res :=
  (lenC c1).bind fun n3 =>
  (lenC c2).bind fun n4 =>
  cond ((n3 : Int) != (n4 : Int))
  (some ([.one (Cell.bool false)], []))
  (laws_eqStringS_l0 k m m (c1) (c2) 0)
noncomputable abbrev laws_eqStringS_l0_B (k m : Nat) : (Ex → Fr → Option Res) → Fr → Option Res := evC G_laws_eqStringS fi_laws_eqStringS (evF G_laws_eqStringS (k + 1)) m (sub [1, 1, 0, 1, 2, 3] fi_laws_eqStringS.code) none
noncomputable abbrev laws_eqStringS_l0_K (k m : Nat) : Ex → Fr → Option Res := blockK 0 (seqK (evC G_laws_eqStringS fi_laws_eqStringS (evF G_laws_eqStringS (k + 1)) m (sub [1, 1, 1] fi_laws_eqStringS.code) none) (retK G_laws_eqStringS fi_laws_eqStringS))
theorem laws_eqStringS_l0_eq (k m : Nat) : ∀ (n : Nat) (c5 : Cell) (c6 : Cell) (i7 : Int), loopK (some [0, 1, 5]) (laws_eqStringS_l0_B k m) (laws_eqStringS_l0_K k m) n ⟨fT 26 0 [(0, .av (.one (c5))), (1, .av (.one (c6))), (5, .av (.one (Cell.int i7)))], fX 26 0 [], []⟩ = laws_eqStringS_l0 (k + 1) m n c5 c6 i7 := by
  intro n
  induction n with
  | zero => intros; rfl
  | succ n ih =>
    intros
    simp only [laws_eqStringS_l0, ← ih]
    kernel_rfl
theorem laws_eqStringS_code (k m : Nat) (c1 : Cell) (c2 : Cell) : evC G_laws_eqStringS fi_laws_eqStringS (evF G_laws_eqStringS (k + 1)) m fi_laws_eqStringS.code none (retK G_laws_eqStringS fi_laws_eqStringS) (enter fi_laws_eqStringS [.one (c1), .one (c2)] []) = laws_eqStringS (k + 1) m c1 c2 := by
  simp only [laws_eqStringS, ← laws_eqStringS_l0_eq k m]
  kernel_rfl
theorem laws_eqStringS_eq (k : Nat) (c1 : Cell) (c2 : Cell) : evF G_laws_eqStringS (k + 2) fid_laws_eqStringS [.one (c1), .one (c2)] [] = laws_eqStringS (k + 1) (k + 1) c1 c2 :=
  Eq.trans (by kernel_rfl) (laws_eqStringS_code k (k + 1) c1 c2)
theorem run_laws_eqStringS_of {c1 : Cell} {c2 : Cell} {r : Res} (k : Nat) (h : laws_eqStringS (k + 1) (k + 1) c1 c2 = some r) : run_laws_eqStringS [.one (c1), .one (c2)] [] = some r := lim_of ((laws_eqStringS_eq k c1 c2).trans h)
noncomputable def pl_laws_eqStringSS : List (Nat × Run) := [(fid_laws_eqStringS, run_laws_eqStringS)]
noncomputable def G_laws_eqStringSS : Ctx := ctx tyTab fiTab pl_laws_eqStringSS
noncomputable def run_laws_eqStringSS : Run := lim G_laws_eqStringSS fid_laws_eqStringSS
theorem ok_laws_eqStringSS : FnOk Try.prog OkT fid_laws_eqStringSS run_laws_eqStringSS := lim_ok (l := pl_laws_eqStringSS) Try_mix tyTab_ok fiTab_ok okT (.cons ok_laws_eqStringS .nil) fid_laws_eqStringSS
noncomputable def laws_eqStringSS_l0 (k m : Nat) : Nat → Cell → Cell → Int → Option Res
  | 0, _, _, _ => none
  | n + 1, c5, c6, i7 =>
    (lenC c5).bind fun n8 =>
    cond (decide (i7 < (n8 : Int)))
    ((idxA 1 (c5) i7).bind fun c9 =>
    (deref [] (c9)).bind fun p10 =>
    (cC p10.1 p10.2).bind fun c11 =>
    (idxA 1 (c6) i7).bind fun c12 =>
    (deref [] (c12)).bind fun p13 =>
    (cC p13.1 p13.2).bind fun c14 =>
    (callS run_laws_eqStringS [.one (c11), .one (c14)] []).bind fun r15 =>
    cond (shapeOk rk_laws_eqStringS r15)
    ((cB (cellsAt r15 0) 0).bind fun b16 =>
    cond (!b16)
    (some ([.one (Cell.bool false)], []))
    (laws_eqStringSS_l0 k m n (c5) (c6) (IntKind.i64.wrap (i7 + 1))))
    none)
    (some ([.one (Cell.bool true)], []))
noncomputable def laws_eqStringSS (k m : Nat) (c1 : Cell) (c2 : Cell) : Option Res :=
  (lenC c1).bind fun n3 =>
  (lenC c2).bind fun n4 =>
  cond ((n3 : Int) != (n4 : Int))
  (some ([.one (Cell.bool false)], []))
  (laws_eqStringSS_l0 k m m (c1) (c2) 0)
noncomputable abbrev laws_eqStringSS_l0_B (k m : Nat) : (Ex → Fr → Option Res) → Fr → Option Res := evC G_laws_eqStringSS fi_laws_eqStringSS (evF G_laws_eqStringSS (k + 1)) m (sub [1, 1, 0, 1, 2, 3] fi_laws_eqStringSS.code) none
noncomputable abbrev laws_eqStringSS_l0_K (k m : Nat) : Ex → Fr → Option Res := blockK 0 (seqK (evC G_laws_eqStringSS fi_laws_eqStringSS (evF G_laws_eqStringSS (k + 1)) m (sub [1, 1, 1] fi_laws_eqStringSS.code) none) (retK G_laws_eqStringSS fi_laws_eqStringSS))
theorem laws_eqStringSS_l0_eq (k m : Nat) : ∀ (n : Nat) (c5 : Cell) (c6 : Cell) (i7 : Int), loopK (some [0, 1, 5]) (laws_eqStringSS_l0_B k m) (laws_eqStringSS_l0_K k m) n ⟨fT 27 0 [(0, .av (.one (c5))), (1, .av (.one (c6))), (5, .av (.one (Cell.int i7)))], fX 27 0 [], []⟩ = laws_eqStringSS_l0 (k + 1) m n c5 c6 i7 := by
  intro n
  induction n with
  | zero => intros; rfl
  | succ n ih =>
    intros
    simp only [laws_eqStringSS_l0, ← ih]
    kernel_rfl
theorem laws_eqStringSS_code (k m : Nat) (c1 : Cell) (c2 : Cell) : evC G_laws_eqStringSS fi_laws_eqStringSS (evF G_laws_eqStringSS (k + 1)) m fi_laws_eqStringSS.code none (retK G_laws_eqStringSS fi_laws_eqStringSS) (enter fi_laws_eqStringSS [.one (c1), .one (c2)] []) = laws_eqStringSS (k + 1) m c1 c2 := by
  simp only [laws_eqStringSS, ← laws_eqStringSS_l0_eq k m]
  kernel_rfl
theorem laws_eqStringSS_eq (k : Nat) (c1 : Cell) (c2 : Cell) : evF G_laws_eqStringSS (k + 2) fid_laws_eqStringSS [.one (c1), .one (c2)] [] = laws_eqStringSS (k + 1) (k + 1) c1 c2 :=
  Eq.trans (by kernel_rfl) (laws_eqStringSS_code k (k + 1) c1 c2)
theorem run_laws_eqStringSS_of {c1 : Cell} {c2 : Cell} {r : Res} (k : Nat) (h : laws_eqStringSS (k + 1) (k + 1) c1 c2 = some r) : run_laws_eqStringSS [.one (c1), .one (c2)] [] = some r := lim_of ((laws_eqStringSS_eq k c1 c2).trans h)
noncomputable def pl_laws_eqPlan : List (Nat × Run) := [(fid_laws_eqStringS, run_laws_eqStringS), (fid_laws_eqStringSS, run_laws_eqStringSS)]
noncomputable def G_laws_eqPlan : Ctx := ctx tyTab fiTab pl_laws_eqPlan
noncomputable def run_laws_eqPlan : Run := lim G_laws_eqPlan fid_laws_eqPlan
theorem ok_laws_eqPlan : FnOk Try.prog OkT fid_laws_eqPlan run_laws_eqPlan := lim_ok (l := pl_laws_eqPlan) Try_mix tyTab_ok fiTab_ok okT (.cons ok_laws_eqStringS (.cons ok_laws_eqStringSS .nil)) fid_laws_eqPlan
noncomputable def laws_eqPlan (k m : Nat) (c1 : Cell) (c2 : Cell) (c3 : Cell) (c4 : Cell) : Option Res :=
  (callS run_laws_eqStringS [.one (c1), .one (c3)] []).bind fun r5 =>
  cond (shapeOk rk_laws_eqStringS r5)
  ((cB (cellsAt r5 0) 0).bind fun b6 =>
  cond (!b6)
  (some ([.one (Cell.bool false)], []))
  ((callS run_laws_eqStringSS [.one (c2), .one (c4)] []).bind fun r7 =>
  cond (shapeOk rk_laws_eqStringSS r7)
  ((cB (cellsAt r7 0) 0).bind fun b8 =>
  cond (!b8)
  (some ([.one (Cell.bool false)], []))
  (some ([.one (Cell.bool true)], [])))
  none))
  none
theorem laws_eqPlan_code (k m : Nat) (c1 : Cell) (c2 : Cell) (c3 : Cell) (c4 : Cell) : evC G_laws_eqPlan fi_laws_eqPlan (evF G_laws_eqPlan (k + 1)) m fi_laws_eqPlan.code none (retK G_laws_eqPlan fi_laws_eqPlan) (enter fi_laws_eqPlan [.agg [c1, c2], .agg [c3, c4]] []) = laws_eqPlan (k + 1) m c1 c2 c3 c4 := by
  kernel_rfl
theorem laws_eqPlan_eq (k : Nat) (c1 : Cell) (c2 : Cell) (c3 : Cell) (c4 : Cell) : evF G_laws_eqPlan (k + 2) fid_laws_eqPlan [.agg [c1, c2], .agg [c3, c4]] [] = laws_eqPlan (k + 1) (k + 1) c1 c2 c3 c4 :=
  Eq.trans (by kernel_rfl) (laws_eqPlan_code k (k + 1) c1 c2 c3 c4)
theorem run_laws_eqPlan_of {c1 : Cell} {c2 : Cell} {c3 : Cell} {c4 : Cell} {r : Res} (k : Nat) (h : laws_eqPlan (k + 1) (k + 1) c1 c2 c3 c4 = some r) : run_laws_eqPlan [.agg [c1, c2], .agg [c3, c4]] [] = some r := lim_of ((laws_eqPlan_eq k c1 c2 c3 c4).trans h)
noncomputable def pl_laws_markText : List (Nat × Run) := []
noncomputable def G_laws_markText : Ctx := ctx tyTab fiTab pl_laws_markText
noncomputable def run_laws_markText : Run := lim G_laws_markText fid_laws_markText
theorem ok_laws_markText : FnOk Try.prog OkT fid_laws_markText run_laws_markText := lim_ok (l := pl_laws_markText) Try_mix tyTab_ok fiTab_ok okT .nil fid_laws_markText
noncomputable def laws_markText_l0 (k m : Nat) : Nat → Int → ByteArray → Option Res
  | 0, _, _ => none
  | n + 1, i2, s3 =>
    cond (decide (i2 > 0))
    ((bytesOf [] (.lst true 1 [[.sc (.int .u8 (IntKind.u8.wrap (IntKind.i64.wrap (48 + (i2.tmod 10)))))]])).bind fun s4 =>
    (catS s4 s3).bind fun s5 =>
    laws_markText_l0 k m n (IntKind.i64.wrap (i2.tdiv 10)) s5)
    ((catS (bs [109]) s3).bind fun s6 =>
    some ([.one (Cell.str s6)], []))
noncomputable def laws_markText (k m : Nat) (i1 : Int) : Option Res :=
  cond (decide (i1 ≤ 0))
  (some ([.one (Cell.str (bs [109, 48]))], []))
  (laws_markText_l0 k m m i1 (bs []))
noncomputable abbrev laws_markText_l0_B (k m : Nat) : (Ex → Fr → Option Res) → Fr → Option Res := evC G_laws_markText fi_laws_markText (evF G_laws_markText (k + 1)) m (sub [1, 1, 1, 0, 2, 3] fi_laws_markText.code) none
noncomputable abbrev laws_markText_l0_K (k m : Nat) : Ex → Fr → Option Res := blockK 0 (seqK (evC G_laws_markText fi_laws_markText (evF G_laws_markText (k + 1)) m (sub [1, 1, 1, 1] fi_laws_markText.code) none) (retK G_laws_markText fi_laws_markText))
theorem laws_markText_l0_eq (k m : Nat) : ∀ (n : Nat) (i2 : Int) (s3 : ByteArray), loopK (some [0, 3]) (laws_markText_l0_B k m) (laws_markText_l0_K k m) n ⟨fT 20 0 [(0, .av (.one (Cell.int i2))), (3, .av (.one (Cell.str s3)))], fX 20 0 [], []⟩ = laws_markText_l0 (k + 1) m n i2 s3 := by
  intro n
  induction n with
  | zero => intros; rfl
  | succ n ih =>
    intros
    simp only [laws_markText_l0, ← ih]
    kernel_rfl
theorem laws_markText_code (k m : Nat) (i1 : Int) : evC G_laws_markText fi_laws_markText (evF G_laws_markText (k + 1)) m fi_laws_markText.code none (retK G_laws_markText fi_laws_markText) (enter fi_laws_markText [.one (Cell.int i1)] []) = laws_markText (k + 1) m i1 := by
  simp only [laws_markText, ← laws_markText_l0_eq k m]
  kernel_rfl
theorem laws_markText_eq (k : Nat) (i1 : Int) : evF G_laws_markText (k + 2) fid_laws_markText [.one (Cell.int i1)] [] = laws_markText (k + 1) (k + 1) i1 :=
  Eq.trans (by kernel_rfl) (laws_markText_code k (k + 1) i1)
theorem run_laws_markText_of {i1 : Int} {r : Res} (k : Nat) (h : laws_markText (k + 1) (k + 1) i1 = some r) : run_laws_markText [.one (Cell.int i1)] [] = some r := lim_of ((laws_markText_eq k i1).trans h)
end Go.Ev
