/- What the evaluator says of the functions, each as a Lean function over cells. Printed by a program of this claim. Conditions: none. -/
import Derived.Test.YtaigckobkcihgaaDoorSh1
import Derived.KernelRfl
namespace Go.Ev
open Go Go.Proofs
set_option maxRecDepth 100000
set_option linter.unusedVariables false
set_option linter.unusedSimpArgs false
noncomputable def pl_impl_graph_by : List (Nat × Run) := [(fid_slices_Contains_string, run_slices_Contains_string)]
noncomputable def G_impl_graph_by : Ctx := ctx tyTab fiTab pl_impl_graph_by
noncomputable def run_impl_graph_by : Run := lim G_impl_graph_by fid_impl_graph_by
theorem ok_impl_graph_by : FnOk Tryd.prog OkT fid_impl_graph_by run_impl_graph_by := lim_ok (l := pl_impl_graph_by) Tryd_mix tyTab_ok fiTab_ok okT (.cons ok_slices_Contains_string .nil) fid_impl_graph_by
noncomputable def impl_graph_by_l0 (k m : Nat) : Nat → Cell → ByteArray → Cell → Cell → Int → Int → List Entry → Option Res
  | 0, _, _, _, _, _, _, _ => none
  | n + 1, c8, s9, c10, c11, i12, i13, H14 =>
    cond (decide (i13 < i12))
    ((idxA 1 (c11) i13).bind fun c15 =>
    (deref H14 (c15)).bind fun p16 =>
    (cC p16.1 p16.2).bind fun c17 =>
    (callS run_slices_Contains_string [.one (c17), .one (Cell.str s9)] H14).bind fun r18 =>
    cond (shapeOk rk_slices_Contains_string r18)
    ((cB (cellsAt r18 0) 0).bind fun b19 =>
    cond b19
    ((ptrC c8).bind fun c20 =>
    (fldA c20 0).bind fun c21 =>
    (deref H14 (c21)).bind fun p22 =>
    (cC p22.1 p22.2).bind fun c23 =>
    (idxA 1 (c23) i13).bind fun c24 =>
    (deref H14 (c24)).bind fun p25 =>
    (cS p25.1 p25.2).bind fun s26 =>
    (app H14 1 16 (c10) [[Cell.str s26]]).bind fun p27 =>
    impl_graph_by_l0 k m n (c8) s9 (p27.1) (c11) i12 (IntKind.i64.wrap (i13 + 1)) p27.2)
    (impl_graph_by_l0 k m n (c8) s9 (c10) (c11) i12 (IntKind.i64.wrap (i13 + 1)) H14))
    none)
    (some ([.one (c10)], H14))
noncomputable def impl_graph_by (k m : Nat) (c1 : Cell) (s2 : ByteArray) (H : List Entry) : Option Res :=
  (ptrC c1).bind fun c3 =>
  (fldA c3 1).bind fun c4 =>
  (deref H (c4)).bind fun p5 =>
  (cC p5.1 p5.2).bind fun c6 =>
  (lenC c6).bind fun n7 =>
  impl_graph_by_l0 k m m (c1) s2 (.lst true 1 []) (c6) (n7 : Int) 0 H
noncomputable abbrev impl_graph_by_l0_B (k m : Nat) : (Ex → Fr → Option Res) → Fr → Option Res := evC G_impl_graph_by fi_impl_graph_by (evF G_impl_graph_by (k + 1)) m (sub [1, 1, 0, 1, 2, 3] fi_impl_graph_by.code) none
noncomputable abbrev impl_graph_by_l0_K (k m : Nat) : Ex → Fr → Option Res := blockK 0 (seqK (evC G_impl_graph_by fi_impl_graph_by (evF G_impl_graph_by (k + 1)) m (sub [1, 1, 1] fi_impl_graph_by.code) none) (retK G_impl_graph_by fi_impl_graph_by))
theorem impl_graph_by_l0_eq (k m : Nat) : ∀ (n : Nat) (c8 : Cell) (s9 : ByteArray) (c10 : Cell) (c11 : Cell) (i12 : Int) (i13 : Int) (H14 : List Entry), loopK (some [0, 1, 5, 11, 12, 13]) (impl_graph_by_l0_B k m) (impl_graph_by_l0_K k m) n ⟨fT 33 0 [(0, .av (.one (c8))), (1, .av (.one (Cell.str s9))), (5, .av (.one (c10))), (11, .av (.one (c11))), (12, .av (.one (Cell.int i12))), (13, .av (.one (Cell.int i13)))], fX 33 0 [], H14⟩ = impl_graph_by_l0 (k + 1) m n c8 s9 c10 c11 i12 i13 H14 := by
  intro n
  induction n with
  | zero => intros; rfl
  | succ n ih =>
    intros
    simp only [impl_graph_by_l0, ← ih]
    kernel_rfl
theorem impl_graph_by_code (k m : Nat) (c1 : Cell) (s2 : ByteArray) (H : List Entry) : evC G_impl_graph_by fi_impl_graph_by (evF G_impl_graph_by (k + 1)) m fi_impl_graph_by.code none (retK G_impl_graph_by fi_impl_graph_by) (enter fi_impl_graph_by [.one (c1), .one (Cell.str s2)] H) = impl_graph_by (k + 1) m c1 s2 H := by
  simp only [impl_graph_by, ← impl_graph_by_l0_eq k m]
  kernel_rfl
theorem impl_graph_by_eq (k : Nat) (c1 : Cell) (s2 : ByteArray) (H : List Entry) : evF G_impl_graph_by (k + 2) fid_impl_graph_by [.one (c1), .one (Cell.str s2)] H = impl_graph_by (k + 1) (k + 1) c1 s2 H :=
  Eq.trans (by kernel_rfl) (impl_graph_by_code k (k + 1) c1 s2 H)
theorem run_impl_graph_by_of {c1 : Cell} {s2 : ByteArray} {H : List Entry} {r : Res} (k : Nat) (h : impl_graph_by (k + 1) (k + 1) c1 s2 H = some r) : run_impl_graph_by [.one (c1), .one (Cell.str s2)] H = some r := lim_of ((impl_graph_by_eq k c1 s2 H).trans h)
noncomputable def pl_impl_graph_onOf : List (Nat × Run) := [(fid_slices_Index_string, run_slices_Index_string)]
noncomputable def G_impl_graph_onOf : Ctx := ctx tyTab fiTab pl_impl_graph_onOf
noncomputable def run_impl_graph_onOf : Run := lim G_impl_graph_onOf fid_impl_graph_onOf
theorem ok_impl_graph_onOf : FnOk Tryd.prog OkT fid_impl_graph_onOf run_impl_graph_onOf := lim_ok (l := pl_impl_graph_onOf) Tryd_mix tyTab_ok fiTab_ok okT (.cons ok_slices_Index_string .nil) fid_impl_graph_onOf
noncomputable def impl_graph_onOf (k m : Nat) (c1 : Cell) (s2 : ByteArray) (H : List Entry) : Option Res :=
  (ptrC c1).bind fun c3 =>
  (fldA c3 0).bind fun c4 =>
  (deref H (c4)).bind fun p5 =>
  (cC p5.1 p5.2).bind fun c6 =>
  (callS run_slices_Index_string [.one (c6), .one (Cell.str s2)] H).bind fun r7 =>
  cond (shapeOk rk_slices_Index_string r7)
  ((cI .i64 (cellsAt r7 0) 0).bind fun i8 =>
  cond (decide (i8 < 0))
  (some ([.one (.lst true 1 [])], H))
  ((ptrC c1).bind fun c9 =>
  (fldA c9 1).bind fun c10 =>
  (deref H (c10)).bind fun p11 =>
  (cC p11.1 p11.2).bind fun c12 =>
  (idxA 1 (c12) i8).bind fun c13 =>
  (deref H (c13)).bind fun p14 =>
  (cC p14.1 p14.2).bind fun c15 =>
  some ([.one (c15)], H)))
  none
theorem impl_graph_onOf_code (k m : Nat) (c1 : Cell) (s2 : ByteArray) (H : List Entry) : evC G_impl_graph_onOf fi_impl_graph_onOf (evF G_impl_graph_onOf (k + 1)) m fi_impl_graph_onOf.code none (retK G_impl_graph_onOf fi_impl_graph_onOf) (enter fi_impl_graph_onOf [.one (c1), .one (Cell.str s2)] H) = impl_graph_onOf (k + 1) m c1 s2 H := by
  kernel_rfl
theorem impl_graph_onOf_eq (k : Nat) (c1 : Cell) (s2 : ByteArray) (H : List Entry) : evF G_impl_graph_onOf (k + 2) fid_impl_graph_onOf [.one (c1), .one (Cell.str s2)] H = impl_graph_onOf (k + 1) (k + 1) c1 s2 H :=
  Eq.trans (by kernel_rfl) (impl_graph_onOf_code k (k + 1) c1 s2 H)
theorem run_impl_graph_onOf_of {c1 : Cell} {s2 : ByteArray} {H : List Entry} {r : Res} (k : Nat) (h : impl_graph_onOf (k + 1) (k + 1) c1 s2 H = some r) : run_impl_graph_onOf [.one (c1), .one (Cell.str s2)] H = some r := lim_of ((impl_graph_onOf_eq k c1 s2 H).trans h)
noncomputable def pl_impl_deep : List (Nat × Run) := [(fid_impl_Sorted, run_impl_Sorted), (fid_slices_Contains_string, run_slices_Contains_string), (fid_impl_graph_by, run_impl_graph_by), (fid_impl_graph_onOf, run_impl_graph_onOf)]
noncomputable def G_impl_deep : Ctx := ctx tyTab fiTab pl_impl_deep
noncomputable def run_impl_deep : Run := lim G_impl_deep fid_impl_deep
theorem ok_impl_deep : FnOk Tryd.prog OkT fid_impl_deep run_impl_deep := lim_ok (l := pl_impl_deep) Tryd_mix tyTab_ok fiTab_ok okT (.cons ok_impl_Sorted (.cons ok_slices_Contains_string (.cons ok_impl_graph_by (.cons ok_impl_graph_onOf .nil)))) fid_impl_deep
noncomputable def impl_deep_impl_graph_by_l2 (k m : Nat) (b_l0 : Cell → Cell → Cell → List Entry → Option Res) (b_l1 : Cell → Cell → Cell → Cell → Int → Int → List Entry → Option Res) : Nat → Cell → Cell → Cell → Cell → Int → Int → Cell → Int → Int → List Entry → Option Res
  | 0, _, _, _, _, _, _, _, _, _, _ => none
  | n + 1, c21, c22, c23, c24, i25, i26, c27, i28, i29, H30 =>
    cond (decide (i29 < i28))
    ((idxA 1 (c27) i29).bind fun c31 =>
    (deref H30 (c31)).bind fun p32 =>
    (cS p32.1 p32.2).bind fun s33 =>
    (callS run_slices_Contains_string [.one (c22), .one (Cell.str s33)] H30).bind fun r34 =>
    cond (shapeOk rk_slices_Contains_string r34)
    ((cB (cellsAt r34 0) 0).bind fun b35 =>
    cond (!b35)
    ((app H30 1 16 (c22) [[Cell.str s33]]).bind fun p36 =>
    (app p36.2 1 16 (c23) [[Cell.str s33]]).bind fun p37 =>
    impl_deep_impl_graph_by_l2 k m b_l0 b_l1 n (c21) (p36.1) (p37.1) (c24) i25 i26 (c27) i28 (IntKind.i64.wrap (i29 + 1)) p37.2)
    (impl_deep_impl_graph_by_l2 k m b_l0 b_l1 n (c21) (c22) (c23) (c24) i25 i26 (c27) i28 (IntKind.i64.wrap (i29 + 1)) H30))
    none)
    (b_l1 (c21) (c22) (c23) (c24) i25 (IntKind.i64.wrap (i26 + 1)) H30)
noncomputable def impl_deep_impl_graph_by_l1 (k m : Nat) (b_l0 : Cell → Cell → Cell → List Entry → Option Res) : Nat → Cell → Cell → Cell → Cell → Int → Int → List Entry → Option Res
  | 0, _, _, _, _, _, _, _ => none
  | n + 1, c8, c9, c10, c11, i12, i13, H14 =>
    cond (decide (i13 < i12))
    ((idxA 1 (c11) i13).bind fun c15 =>
    (deref H14 (c15)).bind fun p16 =>
    (cS p16.1 p16.2).bind fun s17 =>
    (run_impl_graph_by [.one (c8), .one (Cell.str s17)] H14).bind fun r18 =>
    cond (shapeOk rk_impl_graph_by r18.1)
    ((cC (cellsAt r18.1 0) 0).bind fun c19 =>
    (lenC c19).bind fun n20 =>
    impl_deep_impl_graph_by_l2 k m b_l0 (impl_deep_impl_graph_by_l1 k m b_l0 n) m (c8) (c9) (c10) (c11) i12 i13 (c19) (n20 : Int) 0 r18.2)
    none)
    (b_l0 (c8) (c9) (c10) H14)
noncomputable def impl_deep_impl_graph_by_l0 (k m : Nat) : Nat → Cell → Cell → Cell → List Entry → Option Res
  | 0, _, _, _, _ => none
  | n + 1, c2, c3, c4, H5 =>
    (lenC c4).bind fun n6 =>
    cond (decide ((n6 : Int) > 0))
    ((lenC c4).bind fun n7 =>
    impl_deep_impl_graph_by_l1 k m (impl_deep_impl_graph_by_l0 k m n) m (c2) (c3) (.lst true 1 []) (c4) (n7 : Int) 0 H5)
    ((callF run_impl_Sorted [.one (c3)] H5).bind fun r38 =>
    cond (shapeOk rk_impl_Sorted r38.1)
    ((cC (cellsAt r38.1 0) 0).bind fun c39 =>
    some ([.one (c39)], r38.2))
    none)
noncomputable def impl_deep_impl_graph_by (k m : Nat) (s1 : ByteArray) (q2 : Cell) (H : List Entry) : Option Res :=
  impl_deep_impl_graph_by_l0 k m m (q2) (.lst true 1 []) (.lst true 1 [[Cell.str s1]]) H
noncomputable abbrev impl_deep_impl_graph_by_l0_B (k m : Nat) : (Ex → Fr → Option Res) → Fr → Option Res := evC G_impl_deep fi_impl_deep (evF G_impl_deep (k + 1)) m (sub [1, 1, 1, 0, 2, 3] fi_impl_deep.code) none
noncomputable abbrev impl_deep_impl_graph_by_l0_K (k m : Nat) : Ex → Fr → Option Res := blockK 0 (seqK (evC G_impl_deep fi_impl_deep (evF G_impl_deep (k + 1)) m (sub [1, 1, 1, 1] fi_impl_deep.code) none) (retK G_impl_deep fi_impl_deep))
noncomputable abbrev impl_deep_impl_graph_by_l1_B (k m : Nat) : (Ex → Fr → Option Res) → Fr → Option Res := evC G_impl_deep fi_impl_deep (evF G_impl_deep (k + 1)) m (sub [1, 1, 1, 0, 2, 3, 1, 2, 1, 0, 1, 2, 3] fi_impl_deep.code) none
noncomputable abbrev impl_deep_impl_graph_by_l1_K (k m : Nat) (n_l0 : Nat) : Ex → Fr → Option Res := blockK 2 (seqK (evC G_impl_deep fi_impl_deep (evF G_impl_deep (k + 1)) m (sub [1, 1, 1, 0, 2, 3, 1, 2, 1, 1] fi_impl_deep.code) none) (blockK 1 (loopE (fun s => loopK (some [1, 5, 6]) (impl_deep_impl_graph_by_l0_B k m) (impl_deep_impl_graph_by_l0_K k m) n_l0 (keepS (some [1, 5, 6]) s)) (impl_deep_impl_graph_by_l0_K k m))))
noncomputable abbrev impl_deep_impl_graph_by_l2_B (k m : Nat) : (Ex → Fr → Option Res) → Fr → Option Res := evC G_impl_deep fi_impl_deep (evF G_impl_deep (k + 1)) m (sub [1, 1, 1, 0, 2, 3, 1, 2, 1, 0, 1, 2, 3, 1, 1, 0, 2, 1, 1, 2, 3] fi_impl_deep.code) none
noncomputable abbrev impl_deep_impl_graph_by_l2_K (k m : Nat) (n_l0 : Nat) (n_l1 : Nat) : Ex → Fr → Option Res := blockK 4 (blockK 3 (seqK (evC G_impl_deep fi_impl_deep (evF G_impl_deep (k + 1)) m (sub [1, 1, 1, 0, 2, 3, 1, 2, 1, 0, 1, 2, 3, 1, 1, 1] fi_impl_deep.code) none) (loopE (fun s => loopK (some [1, 5, 7, 17, 18, 19]) (impl_deep_impl_graph_by_l1_B k m) (impl_deep_impl_graph_by_l1_K k m n_l0) n_l1 (keepS (some [1, 5, 7, 17, 18, 19]) s)) (impl_deep_impl_graph_by_l1_K k m n_l0))))
theorem impl_deep_impl_graph_by_l2_eq (k m : Nat) (b_l0 : Cell → Cell → Cell → List Entry → Option Res) (n_l0 : Nat) (h_l0 : ∀ (c2 : Cell) (c3 : Cell) (c4 : Cell) (H5 : List Entry), loopK (some [1, 5, 6]) (impl_deep_impl_graph_by_l0_B k m) (impl_deep_impl_graph_by_l0_K k m) n_l0 ⟨fT 48 0 [(1, .av (.one (.fn fid_impl_graph_by [c2] []))), (5, .av (.one (c3))), (6, .av (.one (c4)))], fX 48 0 [], H5⟩ = b_l0 c2 c3 c4 H5) (b_l1 : Cell → Cell → Cell → Cell → Int → Int → List Entry → Option Res) (n_l1 : Nat) (h_l1 : ∀ (c8 : Cell) (c9 : Cell) (c10 : Cell) (c11 : Cell) (i12 : Int) (i13 : Int) (H14 : List Entry), loopK (some [1, 5, 7, 17, 18, 19]) (impl_deep_impl_graph_by_l1_B k m) (impl_deep_impl_graph_by_l1_K k m n_l0) n_l1 ⟨fT 48 0 [(1, .av (.one (.fn fid_impl_graph_by [c8] []))), (5, .av (.one (c9))), (7, .av (.one (c10))), (17, .av (.one (c11))), (18, .av (.one (Cell.int i12))), (19, .av (.one (Cell.int i13)))], fX 48 0 [], H14⟩ = b_l1 c8 c9 c10 c11 i12 i13 H14) : ∀ (n : Nat) (c21 : Cell) (c22 : Cell) (c23 : Cell) (c24 : Cell) (i25 : Int) (i26 : Int) (c27 : Cell) (i28 : Int) (i29 : Int) (H30 : List Entry), loopK (some [1, 5, 7, 17, 18, 19, 25, 26, 27]) (impl_deep_impl_graph_by_l2_B k m) (impl_deep_impl_graph_by_l2_K k m n_l0 n_l1) n ⟨fT 48 0 [(1, .av (.one (.fn fid_impl_graph_by [c21] []))), (5, .av (.one (c22))), (7, .av (.one (c23))), (17, .av (.one (c24))), (18, .av (.one (Cell.int i25))), (19, .av (.one (Cell.int i26))), (25, .av (.one (c27))), (26, .av (.one (Cell.int i28))), (27, .av (.one (Cell.int i29)))], fX 48 0 [], H30⟩ = impl_deep_impl_graph_by_l2 (k + 1) m b_l0 b_l1 n c21 c22 c23 c24 i25 i26 c27 i28 i29 H30 := by
  intro n
  induction n with
  | zero => intros; rfl
  | succ n ih =>
    intros
    simp only [impl_deep_impl_graph_by_l2, ← h_l1, ← ih]
    kernel_rfl
theorem impl_deep_impl_graph_by_l1_eq (k m : Nat) (b_l0 : Cell → Cell → Cell → List Entry → Option Res) (n_l0 : Nat) (h_l0 : ∀ (c2 : Cell) (c3 : Cell) (c4 : Cell) (H5 : List Entry), loopK (some [1, 5, 6]) (impl_deep_impl_graph_by_l0_B k m) (impl_deep_impl_graph_by_l0_K k m) n_l0 ⟨fT 48 0 [(1, .av (.one (.fn fid_impl_graph_by [c2] []))), (5, .av (.one (c3))), (6, .av (.one (c4)))], fX 48 0 [], H5⟩ = b_l0 c2 c3 c4 H5) : ∀ (n : Nat) (c8 : Cell) (c9 : Cell) (c10 : Cell) (c11 : Cell) (i12 : Int) (i13 : Int) (H14 : List Entry), loopK (some [1, 5, 7, 17, 18, 19]) (impl_deep_impl_graph_by_l1_B k m) (impl_deep_impl_graph_by_l1_K k m n_l0) n ⟨fT 48 0 [(1, .av (.one (.fn fid_impl_graph_by [c8] []))), (5, .av (.one (c9))), (7, .av (.one (c10))), (17, .av (.one (c11))), (18, .av (.one (Cell.int i12))), (19, .av (.one (Cell.int i13)))], fX 48 0 [], H14⟩ = impl_deep_impl_graph_by_l1 (k + 1) m b_l0 n c8 c9 c10 c11 i12 i13 H14 := by
  intro n
  induction n with
  | zero => intros; rfl
  | succ n ih =>
    intros
    simp only [impl_deep_impl_graph_by_l1, ← impl_deep_impl_graph_by_l2_eq k m _ _ h_l0 _ _ (ih), ← h_l0]
    kernel_rfl
theorem impl_deep_impl_graph_by_l0_eq (k m : Nat) : ∀ (n : Nat) (c2 : Cell) (c3 : Cell) (c4 : Cell) (H5 : List Entry), loopK (some [1, 5, 6]) (impl_deep_impl_graph_by_l0_B k m) (impl_deep_impl_graph_by_l0_K k m) n ⟨fT 48 0 [(1, .av (.one (.fn fid_impl_graph_by [c2] []))), (5, .av (.one (c3))), (6, .av (.one (c4)))], fX 48 0 [], H5⟩ = impl_deep_impl_graph_by_l0 (k + 1) m n c2 c3 c4 H5 := by
  intro n
  induction n with
  | zero => intros; rfl
  | succ n ih =>
    intros
    simp only [impl_deep_impl_graph_by_l0, ← impl_deep_impl_graph_by_l1_eq k m _ _ (ih)]
    kernel_rfl
theorem impl_deep_impl_graph_by_code (k m : Nat) (s1 : ByteArray) (q2 : Cell) (H : List Entry) : evC G_impl_deep fi_impl_deep (evF G_impl_deep (k + 1)) m fi_impl_deep.code none (retK G_impl_deep fi_impl_deep) (enter fi_impl_deep [.one (Cell.str s1), .one (.fn fid_impl_graph_by [q2] [])] H) = impl_deep_impl_graph_by (k + 1) m s1 q2 H := by
  simp only [impl_deep_impl_graph_by, ← impl_deep_impl_graph_by_l0_eq k m]
  kernel_rfl
theorem impl_deep_impl_graph_by_eq (k : Nat) (s1 : ByteArray) (q2 : Cell) (H : List Entry) : evF G_impl_deep (k + 2) fid_impl_deep [.one (Cell.str s1), .one (.fn fid_impl_graph_by [q2] [])] H = impl_deep_impl_graph_by (k + 1) (k + 1) s1 q2 H :=
  Eq.trans (by kernel_rfl) (impl_deep_impl_graph_by_code k (k + 1) s1 q2 H)
theorem run_impl_deep_impl_graph_by_of {s1 : ByteArray} {q2 : Cell} {H : List Entry} {r : Res} (k : Nat) (h : impl_deep_impl_graph_by (k + 1) (k + 1) s1 q2 H = some r) : run_impl_deep [.one (Cell.str s1), .one (.fn fid_impl_graph_by [q2] [])] H = some r := lim_of ((impl_deep_impl_graph_by_eq k s1 q2 H).trans h)
noncomputable def impl_deep_impl_graph_onOf_l2 (k m : Nat) (b_l0 : Cell → Cell → Cell → List Entry → Option Res) (b_l1 : Cell → Cell → Cell → Cell → Int → Int → List Entry → Option Res) : Nat → Cell → Cell → Cell → Cell → Int → Int → Cell → Int → Int → List Entry → Option Res
  | 0, _, _, _, _, _, _, _, _, _, _ => none
  | n + 1, c21, c22, c23, c24, i25, i26, c27, i28, i29, H30 =>
    cond (decide (i29 < i28))
    ((idxA 1 (c27) i29).bind fun c31 =>
    (deref H30 (c31)).bind fun p32 =>
    (cS p32.1 p32.2).bind fun s33 =>
    (callS run_slices_Contains_string [.one (c22), .one (Cell.str s33)] H30).bind fun r34 =>
    cond (shapeOk rk_slices_Contains_string r34)
    ((cB (cellsAt r34 0) 0).bind fun b35 =>
    cond (!b35)
    ((app H30 1 16 (c22) [[Cell.str s33]]).bind fun p36 =>
    (app p36.2 1 16 (c23) [[Cell.str s33]]).bind fun p37 =>
    impl_deep_impl_graph_onOf_l2 k m b_l0 b_l1 n (c21) (p36.1) (p37.1) (c24) i25 i26 (c27) i28 (IntKind.i64.wrap (i29 + 1)) p37.2)
    (impl_deep_impl_graph_onOf_l2 k m b_l0 b_l1 n (c21) (c22) (c23) (c24) i25 i26 (c27) i28 (IntKind.i64.wrap (i29 + 1)) H30))
    none)
    (b_l1 (c21) (c22) (c23) (c24) i25 (IntKind.i64.wrap (i26 + 1)) H30)
noncomputable def impl_deep_impl_graph_onOf_l1 (k m : Nat) (b_l0 : Cell → Cell → Cell → List Entry → Option Res) : Nat → Cell → Cell → Cell → Cell → Int → Int → List Entry → Option Res
  | 0, _, _, _, _, _, _, _ => none
  | n + 1, c8, c9, c10, c11, i12, i13, H14 =>
    cond (decide (i13 < i12))
    ((idxA 1 (c11) i13).bind fun c15 =>
    (deref H14 (c15)).bind fun p16 =>
    (cS p16.1 p16.2).bind fun s17 =>
    (run_impl_graph_onOf [.one (c8), .one (Cell.str s17)] H14).bind fun r18 =>
    cond (shapeOk rk_impl_graph_onOf r18.1)
    ((cC (cellsAt r18.1 0) 0).bind fun c19 =>
    (lenC c19).bind fun n20 =>
    impl_deep_impl_graph_onOf_l2 k m b_l0 (impl_deep_impl_graph_onOf_l1 k m b_l0 n) m (c8) (c9) (c10) (c11) i12 i13 (c19) (n20 : Int) 0 r18.2)
    none)
    (b_l0 (c8) (c9) (c10) H14)
noncomputable def impl_deep_impl_graph_onOf_l0 (k m : Nat) : Nat → Cell → Cell → Cell → List Entry → Option Res
  | 0, _, _, _, _ => none
  | n + 1, c2, c3, c4, H5 =>
    (lenC c4).bind fun n6 =>
    cond (decide ((n6 : Int) > 0))
    ((lenC c4).bind fun n7 =>
    impl_deep_impl_graph_onOf_l1 k m (impl_deep_impl_graph_onOf_l0 k m n) m (c2) (c3) (.lst true 1 []) (c4) (n7 : Int) 0 H5)
    ((callF run_impl_Sorted [.one (c3)] H5).bind fun r38 =>
    cond (shapeOk rk_impl_Sorted r38.1)
    ((cC (cellsAt r38.1 0) 0).bind fun c39 =>
    some ([.one (c39)], r38.2))
    none)
noncomputable def impl_deep_impl_graph_onOf (k m : Nat) (s1 : ByteArray) (q2 : Cell) (H : List Entry) : Option Res :=
  impl_deep_impl_graph_onOf_l0 k m m (q2) (.lst true 1 []) (.lst true 1 [[Cell.str s1]]) H
noncomputable abbrev impl_deep_impl_graph_onOf_l0_B (k m : Nat) : (Ex → Fr → Option Res) → Fr → Option Res := evC G_impl_deep fi_impl_deep (evF G_impl_deep (k + 1)) m (sub [1, 1, 1, 0, 2, 3] fi_impl_deep.code) none
noncomputable abbrev impl_deep_impl_graph_onOf_l0_K (k m : Nat) : Ex → Fr → Option Res := blockK 0 (seqK (evC G_impl_deep fi_impl_deep (evF G_impl_deep (k + 1)) m (sub [1, 1, 1, 1] fi_impl_deep.code) none) (retK G_impl_deep fi_impl_deep))
noncomputable abbrev impl_deep_impl_graph_onOf_l1_B (k m : Nat) : (Ex → Fr → Option Res) → Fr → Option Res := evC G_impl_deep fi_impl_deep (evF G_impl_deep (k + 1)) m (sub [1, 1, 1, 0, 2, 3, 1, 2, 1, 0, 1, 2, 3] fi_impl_deep.code) none
noncomputable abbrev impl_deep_impl_graph_onOf_l1_K (k m : Nat) (n_l0 : Nat) : Ex → Fr → Option Res := blockK 2 (seqK (evC G_impl_deep fi_impl_deep (evF G_impl_deep (k + 1)) m (sub [1, 1, 1, 0, 2, 3, 1, 2, 1, 1] fi_impl_deep.code) none) (blockK 1 (loopE (fun s => loopK (some [1, 5, 6]) (impl_deep_impl_graph_onOf_l0_B k m) (impl_deep_impl_graph_onOf_l0_K k m) n_l0 (keepS (some [1, 5, 6]) s)) (impl_deep_impl_graph_onOf_l0_K k m))))
noncomputable abbrev impl_deep_impl_graph_onOf_l2_B (k m : Nat) : (Ex → Fr → Option Res) → Fr → Option Res := evC G_impl_deep fi_impl_deep (evF G_impl_deep (k + 1)) m (sub [1, 1, 1, 0, 2, 3, 1, 2, 1, 0, 1, 2, 3, 1, 1, 0, 2, 1, 1, 2, 3] fi_impl_deep.code) none
noncomputable abbrev impl_deep_impl_graph_onOf_l2_K (k m : Nat) (n_l0 : Nat) (n_l1 : Nat) : Ex → Fr → Option Res := blockK 4 (blockK 3 (seqK (evC G_impl_deep fi_impl_deep (evF G_impl_deep (k + 1)) m (sub [1, 1, 1, 0, 2, 3, 1, 2, 1, 0, 1, 2, 3, 1, 1, 1] fi_impl_deep.code) none) (loopE (fun s => loopK (some [1, 5, 7, 17, 18, 19]) (impl_deep_impl_graph_onOf_l1_B k m) (impl_deep_impl_graph_onOf_l1_K k m n_l0) n_l1 (keepS (some [1, 5, 7, 17, 18, 19]) s)) (impl_deep_impl_graph_onOf_l1_K k m n_l0))))
theorem impl_deep_impl_graph_onOf_l2_eq (k m : Nat) (b_l0 : Cell → Cell → Cell → List Entry → Option Res) (n_l0 : Nat) (h_l0 : ∀ (c2 : Cell) (c3 : Cell) (c4 : Cell) (H5 : List Entry), loopK (some [1, 5, 6]) (impl_deep_impl_graph_onOf_l0_B k m) (impl_deep_impl_graph_onOf_l0_K k m) n_l0 ⟨fT 48 0 [(1, .av (.one (.fn fid_impl_graph_onOf [c2] []))), (5, .av (.one (c3))), (6, .av (.one (c4)))], fX 48 0 [], H5⟩ = b_l0 c2 c3 c4 H5) (b_l1 : Cell → Cell → Cell → Cell → Int → Int → List Entry → Option Res) (n_l1 : Nat) (h_l1 : ∀ (c8 : Cell) (c9 : Cell) (c10 : Cell) (c11 : Cell) (i12 : Int) (i13 : Int) (H14 : List Entry), loopK (some [1, 5, 7, 17, 18, 19]) (impl_deep_impl_graph_onOf_l1_B k m) (impl_deep_impl_graph_onOf_l1_K k m n_l0) n_l1 ⟨fT 48 0 [(1, .av (.one (.fn fid_impl_graph_onOf [c8] []))), (5, .av (.one (c9))), (7, .av (.one (c10))), (17, .av (.one (c11))), (18, .av (.one (Cell.int i12))), (19, .av (.one (Cell.int i13)))], fX 48 0 [], H14⟩ = b_l1 c8 c9 c10 c11 i12 i13 H14) : ∀ (n : Nat) (c21 : Cell) (c22 : Cell) (c23 : Cell) (c24 : Cell) (i25 : Int) (i26 : Int) (c27 : Cell) (i28 : Int) (i29 : Int) (H30 : List Entry), loopK (some [1, 5, 7, 17, 18, 19, 25, 26, 27]) (impl_deep_impl_graph_onOf_l2_B k m) (impl_deep_impl_graph_onOf_l2_K k m n_l0 n_l1) n ⟨fT 48 0 [(1, .av (.one (.fn fid_impl_graph_onOf [c21] []))), (5, .av (.one (c22))), (7, .av (.one (c23))), (17, .av (.one (c24))), (18, .av (.one (Cell.int i25))), (19, .av (.one (Cell.int i26))), (25, .av (.one (c27))), (26, .av (.one (Cell.int i28))), (27, .av (.one (Cell.int i29)))], fX 48 0 [], H30⟩ = impl_deep_impl_graph_onOf_l2 (k + 1) m b_l0 b_l1 n c21 c22 c23 c24 i25 i26 c27 i28 i29 H30 := by
  intro n
  induction n with
  | zero => intros; rfl
  | succ n ih =>
    intros
    simp only [impl_deep_impl_graph_onOf_l2, ← h_l1, ← ih]
    kernel_rfl
theorem impl_deep_impl_graph_onOf_l1_eq (k m : Nat) (b_l0 : Cell → Cell → Cell → List Entry → Option Res) (n_l0 : Nat) (h_l0 : ∀ (c2 : Cell) (c3 : Cell) (c4 : Cell) (H5 : List Entry), loopK (some [1, 5, 6]) (impl_deep_impl_graph_onOf_l0_B k m) (impl_deep_impl_graph_onOf_l0_K k m) n_l0 ⟨fT 48 0 [(1, .av (.one (.fn fid_impl_graph_onOf [c2] []))), (5, .av (.one (c3))), (6, .av (.one (c4)))], fX 48 0 [], H5⟩ = b_l0 c2 c3 c4 H5) : ∀ (n : Nat) (c8 : Cell) (c9 : Cell) (c10 : Cell) (c11 : Cell) (i12 : Int) (i13 : Int) (H14 : List Entry), loopK (some [1, 5, 7, 17, 18, 19]) (impl_deep_impl_graph_onOf_l1_B k m) (impl_deep_impl_graph_onOf_l1_K k m n_l0) n ⟨fT 48 0 [(1, .av (.one (.fn fid_impl_graph_onOf [c8] []))), (5, .av (.one (c9))), (7, .av (.one (c10))), (17, .av (.one (c11))), (18, .av (.one (Cell.int i12))), (19, .av (.one (Cell.int i13)))], fX 48 0 [], H14⟩ = impl_deep_impl_graph_onOf_l1 (k + 1) m b_l0 n c8 c9 c10 c11 i12 i13 H14 := by
  intro n
  induction n with
  | zero => intros; rfl
  | succ n ih =>
    intros
    simp only [impl_deep_impl_graph_onOf_l1, ← impl_deep_impl_graph_onOf_l2_eq k m _ _ h_l0 _ _ (ih), ← h_l0]
    kernel_rfl
theorem impl_deep_impl_graph_onOf_l0_eq (k m : Nat) : ∀ (n : Nat) (c2 : Cell) (c3 : Cell) (c4 : Cell) (H5 : List Entry), loopK (some [1, 5, 6]) (impl_deep_impl_graph_onOf_l0_B k m) (impl_deep_impl_graph_onOf_l0_K k m) n ⟨fT 48 0 [(1, .av (.one (.fn fid_impl_graph_onOf [c2] []))), (5, .av (.one (c3))), (6, .av (.one (c4)))], fX 48 0 [], H5⟩ = impl_deep_impl_graph_onOf_l0 (k + 1) m n c2 c3 c4 H5 := by
  intro n
  induction n with
  | zero => intros; rfl
  | succ n ih =>
    intros
    simp only [impl_deep_impl_graph_onOf_l0, ← impl_deep_impl_graph_onOf_l1_eq k m _ _ (ih)]
    kernel_rfl
theorem impl_deep_impl_graph_onOf_code (k m : Nat) (s1 : ByteArray) (q2 : Cell) (H : List Entry) : evC G_impl_deep fi_impl_deep (evF G_impl_deep (k + 1)) m fi_impl_deep.code none (retK G_impl_deep fi_impl_deep) (enter fi_impl_deep [.one (Cell.str s1), .one (.fn fid_impl_graph_onOf [q2] [])] H) = impl_deep_impl_graph_onOf (k + 1) m s1 q2 H := by
  simp only [impl_deep_impl_graph_onOf, ← impl_deep_impl_graph_onOf_l0_eq k m]
  kernel_rfl
theorem impl_deep_impl_graph_onOf_eq (k : Nat) (s1 : ByteArray) (q2 : Cell) (H : List Entry) : evF G_impl_deep (k + 2) fid_impl_deep [.one (Cell.str s1), .one (.fn fid_impl_graph_onOf [q2] [])] H = impl_deep_impl_graph_onOf (k + 1) (k + 1) s1 q2 H :=
  Eq.trans (by kernel_rfl) (impl_deep_impl_graph_onOf_code k (k + 1) s1 q2 H)
theorem run_impl_deep_impl_graph_onOf_of {s1 : ByteArray} {q2 : Cell} {H : List Entry} {r : Res} (k : Nat) (h : impl_deep_impl_graph_onOf (k + 1) (k + 1) s1 q2 H = some r) : run_impl_deep [.one (Cell.str s1), .one (.fn fid_impl_graph_onOf [q2] [])] H = some r := lim_of ((impl_deep_impl_graph_onOf_eq k s1 q2 H).trans h)
noncomputable def pl_impl_with : List (Nat × Run) := [(fid_impl_Sorted, run_impl_Sorted), (fid_impl_graph_by, run_impl_graph_by), (fid_impl_graph_onOf, run_impl_graph_onOf), (fid_slices_Clone_string, run_slices_Clone_string), (fid_impl_deep, run_impl_deep)]
noncomputable def G_impl_with : Ctx := ctx tyTab fiTab pl_impl_with
noncomputable def run_impl_with : Run := lim G_impl_with fid_impl_with
theorem ok_impl_with : FnOk Tryd.prog OkT fid_impl_with run_impl_with := lim_ok (l := pl_impl_with) Tryd_mix tyTab_ok fiTab_ok okT (.cons ok_impl_Sorted (.cons ok_impl_graph_by (.cons ok_impl_graph_onOf (.cons ok_slices_Clone_string (.cons ok_impl_deep .nil))))) fid_impl_with
noncomputable def impl_with_impl_graph_by_l0 (k m : Nat) : Nat → Cell → Cell → Cell → Int → Int → List Entry → Option Res
  | 0, _, _, _, _, _, _ => none
  | n + 1, c5, c6, c7, i8, i9, H10 =>
    cond (decide (i9 < i8))
    ((idxA 1 (c7) i9).bind fun c11 =>
    (deref H10 (c11)).bind fun p12 =>
    (cS p12.1 p12.2).bind fun s13 =>
    (run_impl_deep [.one (Cell.str s13), .one (.fn fid_impl_graph_by [c5] [])] H10).bind fun r14 =>
    cond (shapeOk rk_impl_deep r14.1)
    ((cC (cellsAt r14.1 0) 0).bind fun c15 =>
    (srcRows r14.2 1 c15).bind fun r16 =>
    (app r14.2 1 16 (c6) r16).bind fun p17 =>
    impl_with_impl_graph_by_l0 k m n (c5) (p17.1) (c7) i8 (IntKind.i64.wrap (i9 + 1)) p17.2)
    none)
    ((callF run_impl_Sorted [.one (c6)] H10).bind fun r18 =>
    cond (shapeOk rk_impl_Sorted r18.1)
    ((cC (cellsAt r18.1 0) 0).bind fun c19 =>
    some ([.one (c19)], r18.2))
    none)
noncomputable def impl_with_impl_graph_by (k m : Nat) (c1 : Cell) (q2 : Cell) (H : List Entry) : Option Res :=
  (callF run_slices_Clone_string [.one (c1)] H).bind fun r2 =>
  cond (shapeOk rk_slices_Clone_string r2.1)
  ((cC (cellsAt r2.1 0) 0).bind fun c3 =>
  (lenC c1).bind fun n4 =>
  impl_with_impl_graph_by_l0 k m m (q2) (c3) (c1) (n4 : Int) 0 r2.2)
  none
noncomputable abbrev impl_with_impl_graph_by_l0_B (k m : Nat) : (Ex → Fr → Option Res) → Fr → Option Res := evC G_impl_with fi_impl_with (evF G_impl_with (k + 1)) m (sub [1, 1, 0, 1, 2, 3] fi_impl_with.code) none
noncomputable abbrev impl_with_impl_graph_by_l0_K (k m : Nat) : Ex → Fr → Option Res := blockK 0 (seqK (evC G_impl_with fi_impl_with (evF G_impl_with (k + 1)) m (sub [1, 1, 1] fi_impl_with.code) none) (retK G_impl_with fi_impl_with))
theorem impl_with_impl_graph_by_l0_eq (k m : Nat) : ∀ (n : Nat) (c5 : Cell) (c6 : Cell) (c7 : Cell) (i8 : Int) (i9 : Int) (H10 : List Entry), loopK (some [1, 5, 10, 11, 12]) (impl_with_impl_graph_by_l0_B k m) (impl_with_impl_graph_by_l0_K k m) n ⟨fT 24 0 [(1, .av (.one (.fn fid_impl_graph_by [c5] []))), (5, .av (.one (c6))), (10, .av (.one (c7))), (11, .av (.one (Cell.int i8))), (12, .av (.one (Cell.int i9)))], fX 24 0 [], H10⟩ = impl_with_impl_graph_by_l0 (k + 1) m n c5 c6 c7 i8 i9 H10 := by
  intro n
  induction n with
  | zero => intros; rfl
  | succ n ih =>
    intros
    simp only [impl_with_impl_graph_by_l0, ← ih]
    kernel_rfl
theorem impl_with_impl_graph_by_code (k m : Nat) (c1 : Cell) (q2 : Cell) (H : List Entry) : evC G_impl_with fi_impl_with (evF G_impl_with (k + 1)) m fi_impl_with.code none (retK G_impl_with fi_impl_with) (enter fi_impl_with [.one (c1), .one (.fn fid_impl_graph_by [q2] [])] H) = impl_with_impl_graph_by (k + 1) m c1 q2 H := by
  simp only [impl_with_impl_graph_by, ← impl_with_impl_graph_by_l0_eq k m]
  kernel_rfl
theorem impl_with_impl_graph_by_eq (k : Nat) (c1 : Cell) (q2 : Cell) (H : List Entry) : evF G_impl_with (k + 2) fid_impl_with [.one (c1), .one (.fn fid_impl_graph_by [q2] [])] H = impl_with_impl_graph_by (k + 1) (k + 1) c1 q2 H :=
  Eq.trans (by kernel_rfl) (impl_with_impl_graph_by_code k (k + 1) c1 q2 H)
theorem run_impl_with_impl_graph_by_of {c1 : Cell} {q2 : Cell} {H : List Entry} {r : Res} (k : Nat) (h : impl_with_impl_graph_by (k + 1) (k + 1) c1 q2 H = some r) : run_impl_with [.one (c1), .one (.fn fid_impl_graph_by [q2] [])] H = some r := lim_of ((impl_with_impl_graph_by_eq k c1 q2 H).trans h)
noncomputable def impl_with_impl_graph_onOf_l0 (k m : Nat) : Nat → Cell → Cell → Cell → Int → Int → List Entry → Option Res
  | 0, _, _, _, _, _, _ => none
  | n + 1, c5, c6, c7, i8, i9, H10 =>
    cond (decide (i9 < i8))
    ((idxA 1 (c7) i9).bind fun c11 =>
    (deref H10 (c11)).bind fun p12 =>
    (cS p12.1 p12.2).bind fun s13 =>
    (run_impl_deep [.one (Cell.str s13), .one (.fn fid_impl_graph_onOf [c5] [])] H10).bind fun r14 =>
    cond (shapeOk rk_impl_deep r14.1)
    ((cC (cellsAt r14.1 0) 0).bind fun c15 =>
    (srcRows r14.2 1 c15).bind fun r16 =>
    (app r14.2 1 16 (c6) r16).bind fun p17 =>
    impl_with_impl_graph_onOf_l0 k m n (c5) (p17.1) (c7) i8 (IntKind.i64.wrap (i9 + 1)) p17.2)
    none)
    ((callF run_impl_Sorted [.one (c6)] H10).bind fun r18 =>
    cond (shapeOk rk_impl_Sorted r18.1)
    ((cC (cellsAt r18.1 0) 0).bind fun c19 =>
    some ([.one (c19)], r18.2))
    none)
noncomputable def impl_with_impl_graph_onOf (k m : Nat) (c1 : Cell) (q2 : Cell) (H : List Entry) : Option Res :=
  (callF run_slices_Clone_string [.one (c1)] H).bind fun r2 =>
  cond (shapeOk rk_slices_Clone_string r2.1)
  ((cC (cellsAt r2.1 0) 0).bind fun c3 =>
  (lenC c1).bind fun n4 =>
  impl_with_impl_graph_onOf_l0 k m m (q2) (c3) (c1) (n4 : Int) 0 r2.2)
  none
noncomputable abbrev impl_with_impl_graph_onOf_l0_B (k m : Nat) : (Ex → Fr → Option Res) → Fr → Option Res := evC G_impl_with fi_impl_with (evF G_impl_with (k + 1)) m (sub [1, 1, 0, 1, 2, 3] fi_impl_with.code) none
noncomputable abbrev impl_with_impl_graph_onOf_l0_K (k m : Nat) : Ex → Fr → Option Res := blockK 0 (seqK (evC G_impl_with fi_impl_with (evF G_impl_with (k + 1)) m (sub [1, 1, 1] fi_impl_with.code) none) (retK G_impl_with fi_impl_with))
theorem impl_with_impl_graph_onOf_l0_eq (k m : Nat) : ∀ (n : Nat) (c5 : Cell) (c6 : Cell) (c7 : Cell) (i8 : Int) (i9 : Int) (H10 : List Entry), loopK (some [1, 5, 10, 11, 12]) (impl_with_impl_graph_onOf_l0_B k m) (impl_with_impl_graph_onOf_l0_K k m) n ⟨fT 24 0 [(1, .av (.one (.fn fid_impl_graph_onOf [c5] []))), (5, .av (.one (c6))), (10, .av (.one (c7))), (11, .av (.one (Cell.int i8))), (12, .av (.one (Cell.int i9)))], fX 24 0 [], H10⟩ = impl_with_impl_graph_onOf_l0 (k + 1) m n c5 c6 c7 i8 i9 H10 := by
  intro n
  induction n with
  | zero => intros; rfl
  | succ n ih =>
    intros
    simp only [impl_with_impl_graph_onOf_l0, ← ih]
    kernel_rfl
theorem impl_with_impl_graph_onOf_code (k m : Nat) (c1 : Cell) (q2 : Cell) (H : List Entry) : evC G_impl_with fi_impl_with (evF G_impl_with (k + 1)) m fi_impl_with.code none (retK G_impl_with fi_impl_with) (enter fi_impl_with [.one (c1), .one (.fn fid_impl_graph_onOf [q2] [])] H) = impl_with_impl_graph_onOf (k + 1) m c1 q2 H := by
  simp only [impl_with_impl_graph_onOf, ← impl_with_impl_graph_onOf_l0_eq k m]
  kernel_rfl
theorem impl_with_impl_graph_onOf_eq (k : Nat) (c1 : Cell) (q2 : Cell) (H : List Entry) : evF G_impl_with (k + 2) fid_impl_with [.one (c1), .one (.fn fid_impl_graph_onOf [q2] [])] H = impl_with_impl_graph_onOf (k + 1) (k + 1) c1 q2 H :=
  Eq.trans (by kernel_rfl) (impl_with_impl_graph_onOf_code k (k + 1) c1 q2 H)
theorem run_impl_with_impl_graph_onOf_of {c1 : Cell} {q2 : Cell} {H : List Entry} {r : Res} (k : Nat) (h : impl_with_impl_graph_onOf (k + 1) (k + 1) c1 q2 H = some r) : run_impl_with [.one (c1), .one (.fn fid_impl_graph_onOf [q2] [])] H = some r := lim_of ((impl_with_impl_graph_onOf_eq k c1 q2 H).trans h)
noncomputable def pl_internal_stringslite_HasSuffix : List (Nat × Run) := []
noncomputable def G_internal_stringslite_HasSuffix : Ctx := ctx tyTab fiTab pl_internal_stringslite_HasSuffix
noncomputable def run_internal_stringslite_HasSuffix : Run := lim G_internal_stringslite_HasSuffix fid_internal_stringslite_HasSuffix
theorem ok_internal_stringslite_HasSuffix : FnOk Tryd.prog OkT fid_internal_stringslite_HasSuffix run_internal_stringslite_HasSuffix := lim_ok (l := pl_internal_stringslite_HasSuffix) Tryd_mix tyTab_ok fiTab_ok okT .nil fid_internal_stringslite_HasSuffix
noncomputable def internal_stringslite_HasSuffix (k m : Nat) (s1 : ByteArray) (s2 : ByteArray) : Option Res :=
  cond (decide ((s1.size : Int) ≥ (s2.size : Int)))
  ((subS s1 (IntKind.i64.wrap ((s1.size : Int) - (s2.size : Int))) (s1.size : Int)).bind fun s3 =>
  some ([.one (Cell.bool (s3.toList == s2.toList))], []))
  (some ([.one (Cell.bool false)], []))
theorem internal_stringslite_HasSuffix_code (k m : Nat) (s1 : ByteArray) (s2 : ByteArray) : evC G_internal_stringslite_HasSuffix fi_internal_stringslite_HasSuffix (evF G_internal_stringslite_HasSuffix (k + 1)) m fi_internal_stringslite_HasSuffix.code none (retK G_internal_stringslite_HasSuffix fi_internal_stringslite_HasSuffix) (enter fi_internal_stringslite_HasSuffix [.one (Cell.str s1), .one (Cell.str s2)] []) = internal_stringslite_HasSuffix (k + 1) m s1 s2 := by
  kernel_rfl
theorem internal_stringslite_HasSuffix_eq (k : Nat) (s1 : ByteArray) (s2 : ByteArray) : evF G_internal_stringslite_HasSuffix (k + 2) fid_internal_stringslite_HasSuffix [.one (Cell.str s1), .one (Cell.str s2)] [] = internal_stringslite_HasSuffix (k + 1) (k + 1) s1 s2 :=
  Eq.trans (by kernel_rfl) (internal_stringslite_HasSuffix_code k (k + 1) s1 s2)
theorem run_internal_stringslite_HasSuffix_of {s1 : ByteArray} {s2 : ByteArray} {r : Res} (k : Nat) (h : internal_stringslite_HasSuffix (k + 1) (k + 1) s1 s2 = some r) : run_internal_stringslite_HasSuffix [.one (Cell.str s1), .one (Cell.str s2)] [] = some r := lim_of ((internal_stringslite_HasSuffix_eq k s1 s2).trans h)
noncomputable def pl_strings_HasSuffix : List (Nat × Run) := [(fid_internal_stringslite_HasSuffix, run_internal_stringslite_HasSuffix)]
noncomputable def G_strings_HasSuffix : Ctx := ctx tyTab fiTab pl_strings_HasSuffix
noncomputable def run_strings_HasSuffix : Run := lim G_strings_HasSuffix fid_strings_HasSuffix
theorem ok_strings_HasSuffix : FnOk Tryd.prog OkT fid_strings_HasSuffix run_strings_HasSuffix := lim_ok (l := pl_strings_HasSuffix) Tryd_mix tyTab_ok fiTab_ok okT (.cons ok_internal_stringslite_HasSuffix .nil) fid_strings_HasSuffix
noncomputable def strings_HasSuffix (k m : Nat) (s1 : ByteArray) (s2 : ByteArray) : Option Res :=
  (callS run_internal_stringslite_HasSuffix [.one (Cell.str s1), .one (Cell.str s2)] []).bind fun r3 =>
  cond (shapeOk rk_internal_stringslite_HasSuffix r3)
  ((cB (cellsAt r3 0) 0).bind fun b4 =>
  some ([.one (Cell.bool b4)], []))
  none
theorem strings_HasSuffix_code (k m : Nat) (s1 : ByteArray) (s2 : ByteArray) : evC G_strings_HasSuffix fi_strings_HasSuffix (evF G_strings_HasSuffix (k + 1)) m fi_strings_HasSuffix.code none (retK G_strings_HasSuffix fi_strings_HasSuffix) (enter fi_strings_HasSuffix [.one (Cell.str s1), .one (Cell.str s2)] []) = strings_HasSuffix (k + 1) m s1 s2 := by
  kernel_rfl
theorem strings_HasSuffix_eq (k : Nat) (s1 : ByteArray) (s2 : ByteArray) : evF G_strings_HasSuffix (k + 2) fid_strings_HasSuffix [.one (Cell.str s1), .one (Cell.str s2)] [] = strings_HasSuffix (k + 1) (k + 1) s1 s2 :=
  Eq.trans (by kernel_rfl) (strings_HasSuffix_code k (k + 1) s1 s2)
theorem run_strings_HasSuffix_of {s1 : ByteArray} {s2 : ByteArray} {r : Res} (k : Nat) (h : strings_HasSuffix (k + 1) (k + 1) s1 s2 = some r) : run_strings_HasSuffix [.one (Cell.str s1), .one (Cell.str s2)] [] = some r := lim_of ((strings_HasSuffix_eq k s1 s2).trans h)
noncomputable def pl_internal_stringslite_Cut : List (Nat × Run) := [(fid_internal_stringslite_Index, run_internal_stringslite_Index)]
noncomputable def G_internal_stringslite_Cut : Ctx := ctx tyTab fiTab pl_internal_stringslite_Cut
noncomputable def run_internal_stringslite_Cut : Run := lim G_internal_stringslite_Cut fid_internal_stringslite_Cut
theorem ok_internal_stringslite_Cut : FnOk Tryd.prog OkT fid_internal_stringslite_Cut run_internal_stringslite_Cut := lim_ok (l := pl_internal_stringslite_Cut) Tryd_mix tyTab_ok fiTab_ok okT (.cons ok_internal_stringslite_Index .nil) fid_internal_stringslite_Cut
noncomputable def internal_stringslite_Cut (k m : Nat) (s1 : ByteArray) (s2 : ByteArray) : Option Res :=
  (callS run_internal_stringslite_Index [.one (Cell.str s1), .one (Cell.str s2)] []).bind fun r3 =>
  cond (shapeOk rk_internal_stringslite_Index r3)
  ((cI .i64 (cellsAt r3 0) 0).bind fun i4 =>
  cond (decide (i4 ≥ 0))
  ((subS s1 0 i4).bind fun s5 =>
  (subS s1 (IntKind.i64.wrap (i4 + (s2.size : Int))) (s1.size : Int)).bind fun s6 =>
  some ([.one (Cell.str s5), .one (Cell.str s6), .one (Cell.bool true)], []))
  (some ([.one (Cell.str s1), .one (Cell.str (bs [])), .one (Cell.bool false)], [])))
  none
theorem internal_stringslite_Cut_code (k m : Nat) (s1 : ByteArray) (s2 : ByteArray) : evC G_internal_stringslite_Cut fi_internal_stringslite_Cut (evF G_internal_stringslite_Cut (k + 1)) m fi_internal_stringslite_Cut.code none (retK G_internal_stringslite_Cut fi_internal_stringslite_Cut) (enter fi_internal_stringslite_Cut [.one (Cell.str s1), .one (Cell.str s2)] []) = internal_stringslite_Cut (k + 1) m s1 s2 := by
  kernel_rfl
theorem internal_stringslite_Cut_eq (k : Nat) (s1 : ByteArray) (s2 : ByteArray) : evF G_internal_stringslite_Cut (k + 2) fid_internal_stringslite_Cut [.one (Cell.str s1), .one (Cell.str s2)] [] = internal_stringslite_Cut (k + 1) (k + 1) s1 s2 :=
  Eq.trans (by kernel_rfl) (internal_stringslite_Cut_code k (k + 1) s1 s2)
theorem run_internal_stringslite_Cut_of {s1 : ByteArray} {s2 : ByteArray} {r : Res} (k : Nat) (h : internal_stringslite_Cut (k + 1) (k + 1) s1 s2 = some r) : run_internal_stringslite_Cut [.one (Cell.str s1), .one (Cell.str s2)] [] = some r := lim_of ((internal_stringslite_Cut_eq k s1 s2).trans h)
noncomputable def pl_strings_Cut : List (Nat × Run) := [(fid_internal_stringslite_Cut, run_internal_stringslite_Cut)]
noncomputable def G_strings_Cut : Ctx := ctx tyTab fiTab pl_strings_Cut
noncomputable def run_strings_Cut : Run := lim G_strings_Cut fid_strings_Cut
theorem ok_strings_Cut : FnOk Tryd.prog OkT fid_strings_Cut run_strings_Cut := lim_ok (l := pl_strings_Cut) Tryd_mix tyTab_ok fiTab_ok okT (.cons ok_internal_stringslite_Cut .nil) fid_strings_Cut
noncomputable def strings_Cut (k m : Nat) (s1 : ByteArray) (s2 : ByteArray) : Option Res :=
  (callS run_internal_stringslite_Cut [.one (Cell.str s1), .one (Cell.str s2)] []).bind fun r3 =>
  cond (shapeOk rk_internal_stringslite_Cut r3)
  ((cS (cellsAt r3 0) 0).bind fun s4 =>
  (cS (cellsAt r3 1) 0).bind fun s5 =>
  (cB (cellsAt r3 2) 0).bind fun b6 =>
  some ([.one (Cell.str s4), .one (Cell.str s5), .one (Cell.bool b6)], []))
  none
theorem strings_Cut_code (k m : Nat) (s1 : ByteArray) (s2 : ByteArray) : evC G_strings_Cut fi_strings_Cut (evF G_strings_Cut (k + 1)) m fi_strings_Cut.code none (retK G_strings_Cut fi_strings_Cut) (enter fi_strings_Cut [.one (Cell.str s1), .one (Cell.str s2)] []) = strings_Cut (k + 1) m s1 s2 := by
  kernel_rfl
theorem strings_Cut_eq (k : Nat) (s1 : ByteArray) (s2 : ByteArray) : evF G_strings_Cut (k + 2) fid_strings_Cut [.one (Cell.str s1), .one (Cell.str s2)] [] = strings_Cut (k + 1) (k + 1) s1 s2 :=
  Eq.trans (by kernel_rfl) (strings_Cut_code k (k + 1) s1 s2)
theorem run_strings_Cut_of {s1 : ByteArray} {s2 : ByteArray} {r : Res} (k : Nat) (h : strings_Cut (k + 1) (k + 1) s1 s2 = some r) : run_strings_Cut [.one (Cell.str s1), .one (Cell.str s2)] [] = some r := lim_of ((strings_Cut_eq k s1 s2).trans h)
noncomputable def pl_strings_Contains : List (Nat × Run) := [(fid_strings_Index, run_strings_Index)]
noncomputable def G_strings_Contains : Ctx := ctx tyTab fiTab pl_strings_Contains
noncomputable def run_strings_Contains : Run := lim G_strings_Contains fid_strings_Contains
theorem ok_strings_Contains : FnOk Tryd.prog OkT fid_strings_Contains run_strings_Contains := lim_ok (l := pl_strings_Contains) Tryd_mix tyTab_ok fiTab_ok okT (.cons ok_strings_Index .nil) fid_strings_Contains
noncomputable def strings_Contains (k m : Nat) (s1 : ByteArray) (s2 : ByteArray) : Option Res :=
  (callS run_strings_Index [.one (Cell.str s1), .one (Cell.str s2)] []).bind fun r3 =>
  cond (shapeOk rk_strings_Index r3)
  ((cI .i64 (cellsAt r3 0) 0).bind fun i4 =>
  some ([.one (Cell.bool (decide (i4 ≥ 0)))], []))
  none
theorem strings_Contains_code (k m : Nat) (s1 : ByteArray) (s2 : ByteArray) : evC G_strings_Contains fi_strings_Contains (evF G_strings_Contains (k + 1)) m fi_strings_Contains.code none (retK G_strings_Contains fi_strings_Contains) (enter fi_strings_Contains [.one (Cell.str s1), .one (Cell.str s2)] []) = strings_Contains (k + 1) m s1 s2 := by
  kernel_rfl
theorem strings_Contains_eq (k : Nat) (s1 : ByteArray) (s2 : ByteArray) : evF G_strings_Contains (k + 2) fid_strings_Contains [.one (Cell.str s1), .one (Cell.str s2)] [] = strings_Contains (k + 1) (k + 1) s1 s2 :=
  Eq.trans (by kernel_rfl) (strings_Contains_code k (k + 1) s1 s2)
theorem run_strings_Contains_of {s1 : ByteArray} {s2 : ByteArray} {r : Res} (k : Nat) (h : strings_Contains (k + 1) (k + 1) s1 s2 = some r) : run_strings_Contains [.one (Cell.str s1), .one (Cell.str s2)] [] = some r := lim_of ((strings_Contains_eq k s1 s2).trans h)
noncomputable def pl_impl_FindPack_1 : List (Nat × Run) := []
noncomputable def G_impl_FindPack_1 : Ctx := ctx tyTab fiTab pl_impl_FindPack_1
noncomputable def run_impl_FindPack_1 : Run := lim G_impl_FindPack_1 fid_impl_FindPack_1
theorem ok_impl_FindPack_1 : FnOk Tryd.prog OkT fid_impl_FindPack_1 run_impl_FindPack_1 := lim_ok (l := pl_impl_FindPack_1) Tryd_mix tyTab_ok fiTab_ok okT .nil fid_impl_FindPack_1
noncomputable def impl_FindPack_1 (k m : Nat) (s1 : ByteArray) (c2 : Cell) (c3 : Cell) (c4 : Cell) (c5 : Cell) (H : List Entry) : Option Res :=
  (deref H (c5)).bind fun p6 =>
  (cS p6.1 p6.2).bind fun s7 =>
  some ([.one (Cell.bool (s1.toList == s7.toList))], H)
theorem impl_FindPack_1_code (k m : Nat) (s1 : ByteArray) (c2 : Cell) (c3 : Cell) (c4 : Cell) (c5 : Cell) (H : List Entry) : evC G_impl_FindPack_1 fi_impl_FindPack_1 (evF G_impl_FindPack_1 (k + 1)) m fi_impl_FindPack_1.code none (retK G_impl_FindPack_1 fi_impl_FindPack_1) (enter fi_impl_FindPack_1 [.agg [Cell.str s1, c2, c3, c4], .one (c5)] H) = impl_FindPack_1 (k + 1) m s1 c2 c3 c4 c5 H := by
  kernel_rfl
theorem impl_FindPack_1_eq (k : Nat) (s1 : ByteArray) (c2 : Cell) (c3 : Cell) (c4 : Cell) (c5 : Cell) (H : List Entry) : evF G_impl_FindPack_1 (k + 2) fid_impl_FindPack_1 [.agg [Cell.str s1, c2, c3, c4], .one (c5)] H = impl_FindPack_1 (k + 1) (k + 1) s1 c2 c3 c4 c5 H :=
  Eq.trans (by kernel_rfl) (impl_FindPack_1_code k (k + 1) s1 c2 c3 c4 c5 H)
theorem run_impl_FindPack_1_of {s1 : ByteArray} {c2 : Cell} {c3 : Cell} {c4 : Cell} {c5 : Cell} {H : List Entry} {r : Res} (k : Nat) (h : impl_FindPack_1 (k + 1) (k + 1) s1 c2 c3 c4 c5 H = some r) : run_impl_FindPack_1 [.agg [Cell.str s1, c2, c3, c4], .one (c5)] H = some r := lim_of ((impl_FindPack_1_eq k s1 c2 c3 c4 c5 H).trans h)
noncomputable def pl_slices_IndexFunc_Pack : List (Nat × Run) := [(fid_impl_FindPack_1, run_impl_FindPack_1)]
noncomputable def G_slices_IndexFunc_Pack : Ctx := ctx tyTab fiTab pl_slices_IndexFunc_Pack
noncomputable def run_slices_IndexFunc_Pack : Run := lim G_slices_IndexFunc_Pack fid_slices_IndexFunc_Pack
theorem ok_slices_IndexFunc_Pack : FnOk Tryd.prog OkT fid_slices_IndexFunc_Pack run_slices_IndexFunc_Pack := lim_ok (l := pl_slices_IndexFunc_Pack) Tryd_mix tyTab_ok fiTab_ok okT (.cons ok_impl_FindPack_1 .nil) fid_slices_IndexFunc_Pack
noncomputable def slices_IndexFunc_Pack_impl_FindPack_1_l0 (k m : Nat) : Nat → Cell → Cell → Int → Int → List Entry → Option Res
  | 0, _, _, _, _, _ => none
  | n + 1, c3, c4, i5, i6, H7 =>
    cond (decide (i6 < i5))
    ((idxA 4 (c3) i6).bind fun c8 =>
    (deref H7 (c8)).bind fun p9 =>
    (cS p9.1 p9.2).bind fun s10 =>
    (cC p9.1 (p9.2 + 1)).bind fun c11 =>
    (cC p9.1 ((p9.2 + 1) + 1)).bind fun c12 =>
    (cC p9.1 (((p9.2 + 1) + 1) + 1)).bind fun c13 =>
    (run_impl_FindPack_1 [.agg [Cell.str s10, c11, c12, c13], .one (c4)] H7).bind fun r14 =>
    cond (shapeOk rk_impl_FindPack_1 r14.1)
    ((cB (cellsAt r14.1 0) 0).bind fun b15 =>
    cond b15
    (some ([.one (Cell.int i6)], r14.2))
    (slices_IndexFunc_Pack_impl_FindPack_1_l0 k m n (c3) (c4) i5 (IntKind.i64.wrap (i6 + 1)) r14.2))
    none)
    (some ([.one (Cell.int (-1))], H7))
noncomputable def slices_IndexFunc_Pack_impl_FindPack_1 (k m : Nat) (c1 : Cell) (q2 : Cell) (H : List Entry) : Option Res :=
  (lenC c1).bind fun n2 =>
  slices_IndexFunc_Pack_impl_FindPack_1_l0 k m m (c1) (q2) (n2 : Int) 0 H
noncomputable abbrev slices_IndexFunc_Pack_impl_FindPack_1_l0_B (k m : Nat) : (Ex → Fr → Option Res) → Fr → Option Res := evC G_slices_IndexFunc_Pack fi_slices_IndexFunc_Pack (evF G_slices_IndexFunc_Pack (k + 1)) m (sub [1, 0, 1, 2, 3] fi_slices_IndexFunc_Pack.code) none
noncomputable abbrev slices_IndexFunc_Pack_impl_FindPack_1_l0_K (k m : Nat) : Ex → Fr → Option Res := blockK 0 (seqK (evC G_slices_IndexFunc_Pack fi_slices_IndexFunc_Pack (evF G_slices_IndexFunc_Pack (k + 1)) m (sub [1, 1] fi_slices_IndexFunc_Pack.code) none) (retK G_slices_IndexFunc_Pack fi_slices_IndexFunc_Pack))
theorem slices_IndexFunc_Pack_impl_FindPack_1_l0_eq (k m : Nat) : ∀ (n : Nat) (c3 : Cell) (c4 : Cell) (i5 : Int) (i6 : Int) (H7 : List Entry), loopK (some [0, 1, 7, 8]) (slices_IndexFunc_Pack_impl_FindPack_1_l0_B k m) (slices_IndexFunc_Pack_impl_FindPack_1_l0_K k m) n ⟨fT 19 0 [(0, .av (.one (c3))), (1, .av (.one (.fn fid_impl_FindPack_1 [] [c4]))), (7, .av (.one (Cell.int i5))), (8, .av (.one (Cell.int i6)))], fX 19 0 [], H7⟩ = slices_IndexFunc_Pack_impl_FindPack_1_l0 (k + 1) m n c3 c4 i5 i6 H7 := by
  intro n
  induction n with
  | zero => intros; rfl
  | succ n ih =>
    intros
    simp only [slices_IndexFunc_Pack_impl_FindPack_1_l0, ← ih]
    kernel_rfl
theorem slices_IndexFunc_Pack_impl_FindPack_1_code (k m : Nat) (c1 : Cell) (q2 : Cell) (H : List Entry) : evC G_slices_IndexFunc_Pack fi_slices_IndexFunc_Pack (evF G_slices_IndexFunc_Pack (k + 1)) m fi_slices_IndexFunc_Pack.code none (retK G_slices_IndexFunc_Pack fi_slices_IndexFunc_Pack) (enter fi_slices_IndexFunc_Pack [.one (c1), .one (.fn fid_impl_FindPack_1 [] [q2])] H) = slices_IndexFunc_Pack_impl_FindPack_1 (k + 1) m c1 q2 H := by
  simp only [slices_IndexFunc_Pack_impl_FindPack_1, ← slices_IndexFunc_Pack_impl_FindPack_1_l0_eq k m]
  kernel_rfl
theorem slices_IndexFunc_Pack_impl_FindPack_1_eq (k : Nat) (c1 : Cell) (q2 : Cell) (H : List Entry) : evF G_slices_IndexFunc_Pack (k + 2) fid_slices_IndexFunc_Pack [.one (c1), .one (.fn fid_impl_FindPack_1 [] [q2])] H = slices_IndexFunc_Pack_impl_FindPack_1 (k + 1) (k + 1) c1 q2 H :=
  Eq.trans (by kernel_rfl) (slices_IndexFunc_Pack_impl_FindPack_1_code k (k + 1) c1 q2 H)
theorem run_slices_IndexFunc_Pack_impl_FindPack_1_of {c1 : Cell} {q2 : Cell} {H : List Entry} {r : Res} (k : Nat) (h : slices_IndexFunc_Pack_impl_FindPack_1 (k + 1) (k + 1) c1 q2 H = some r) : run_slices_IndexFunc_Pack [.one (c1), .one (.fn fid_impl_FindPack_1 [] [q2])] H = some r := lim_of ((slices_IndexFunc_Pack_impl_FindPack_1_eq k c1 q2 H).trans h)
noncomputable def pl_impl_FindPack : List (Nat × Run) := [(fid_slices_IndexFunc_Pack, run_slices_IndexFunc_Pack), (fid_impl_FindPack_1, run_impl_FindPack_1)]
noncomputable def G_impl_FindPack : Ctx := ctx tyTab fiTab pl_impl_FindPack
noncomputable def run_impl_FindPack : Run := lim G_impl_FindPack fid_impl_FindPack
theorem ok_impl_FindPack : FnOk Tryd.prog OkT fid_impl_FindPack run_impl_FindPack := lim_ok (l := pl_impl_FindPack) Tryd_mix tyTab_ok fiTab_ok okT (.cons ok_slices_IndexFunc_Pack (.cons ok_impl_FindPack_1 .nil)) fid_impl_FindPack
noncomputable def impl_FindPack (k m : Nat) (c1 : Cell) (s2 : ByteArray) : Option Res :=
  (run_slices_IndexFunc_Pack [.one (c1), .one (.fn fid_impl_FindPack_1 [] [.ptr 0 1 0 0 0])] [Entry.mk 1 [[Cell.str s2]] 0 false]).bind fun r3 =>
  cond (shapeOk rk_slices_IndexFunc_Pack r3.1)
  ((cI .i64 (cellsAt r3.1 0) 0).bind fun i4 =>
  some ([.one (Cell.int i4)], r3.2))
  none
theorem impl_FindPack_code (k m : Nat) (c1 : Cell) (s2 : ByteArray) : evC G_impl_FindPack fi_impl_FindPack (evF G_impl_FindPack (k + 1)) m fi_impl_FindPack.code none (retK G_impl_FindPack fi_impl_FindPack) (enter fi_impl_FindPack [.one (c1), .one (Cell.str s2)] []) = impl_FindPack (k + 1) m c1 s2 := by
  kernel_rfl
theorem impl_FindPack_eq (k : Nat) (c1 : Cell) (s2 : ByteArray) : evF G_impl_FindPack (k + 2) fid_impl_FindPack [.one (c1), .one (Cell.str s2)] [] = impl_FindPack (k + 1) (k + 1) c1 s2 :=
  Eq.trans (by kernel_rfl) (impl_FindPack_code k (k + 1) c1 s2)
theorem run_impl_FindPack_of {c1 : Cell} {s2 : ByteArray} {r : Res} (k : Nat) (h : impl_FindPack (k + 1) (k + 1) c1 s2 = some r) : run_impl_FindPack [.one (c1), .one (Cell.str s2)] [] = some r := lim_of ((impl_FindPack_eq k c1 s2).trans h)
noncomputable def pl_impl_sieve_owners : List (Nat × Run) := [(fid_strings_Cut, run_strings_Cut), (fid_impl_Sorted, run_impl_Sorted), (fid_impl_sieve_all, run_impl_sieve_all), (fid_strings_Contains, run_strings_Contains), (fid_impl_FindPack, run_impl_FindPack)]
noncomputable def G_impl_sieve_owners : Ctx := ctx tyTab fiTab pl_impl_sieve_owners
noncomputable def run_impl_sieve_owners : Run := lim G_impl_sieve_owners fid_impl_sieve_owners
theorem ok_impl_sieve_owners : FnOk Tryd.prog OkT fid_impl_sieve_owners run_impl_sieve_owners := lim_ok (l := pl_impl_sieve_owners) Tryd_mix tyTab_ok fiTab_ok okT (.cons ok_strings_Cut (.cons ok_impl_Sorted (.cons ok_impl_sieve_all (.cons ok_strings_Contains (.cons ok_impl_FindPack .nil))))) fid_impl_sieve_owners
noncomputable def impl_sieve_owners_l0 (k m : Nat) : Nat → Cell → Cell → Cell → Int → Int → List Entry → Option Res
  | 0, _, _, _, _, _, _ => none
  | n + 1, c7, c8, c9, i10, i11, H12 =>
    cond (decide (i11 < i10))
    ((idxA 1 (c9) i11).bind fun c13 =>
    (deref H12 (c13)).bind fun p14 =>
    (cS p14.1 p14.2).bind fun s15 =>
    (callS run_strings_Cut [.one (Cell.str s15), .one (Cell.str (bs [47]))] H12).bind fun r16 =>
    cond (shapeOk rk_strings_Cut r16)
    ((cS (cellsAt r16 0) 0).bind fun s17 =>
    (cS (cellsAt r16 1) 0).bind fun s18 =>
    (cB (cellsAt r16 2) 0).bind fun b19 =>
    (callS run_strings_Contains [.one (Cell.str s15), .one (Cell.str (bs [47]))] H12).bind fun r20 =>
    cond (shapeOk rk_strings_Contains r20)
    ((cB (cellsAt r20 0) 0).bind fun b21 =>
    cond (!b21)
    ((run_impl_sieve_all [.one (c7)] H12).bind fun r22 =>
    cond (shapeOk rk_impl_sieve_all r22.1)
    ((cC (cellsAt r22.1 0) 0).bind fun c23 =>
    some ([.one (c23)], r22.2))
    none)
    ((ptrC c7).bind fun c24 =>
    (fldA c24 0).bind fun c25 =>
    (deref H12 (c25)).bind fun p26 =>
    (cC p26.1 p26.2).bind fun c27 =>
    (callS run_impl_FindPack [.one (c27), .one (Cell.str s17)] H12).bind fun r28 =>
    cond (shapeOk rk_impl_FindPack r28)
    ((cI .i64 (cellsAt r28 0) 0).bind fun i29 =>
    cond (decide (i29 < 0))
    ((run_impl_sieve_all [.one (c7)] H12).bind fun r30 =>
    cond (shapeOk rk_impl_sieve_all r30.1)
    ((cC (cellsAt r30.1 0) 0).bind fun c31 =>
    some ([.one (c31)], r30.2))
    none)
    ((app H12 1 16 (c8) [[Cell.str s17]]).bind fun p32 =>
    impl_sieve_owners_l0 k m n (c7) (p32.1) (c9) i10 (IntKind.i64.wrap (i11 + 1)) p32.2))
    none))
    none)
    none)
    ((callF run_impl_Sorted [.one (c8)] H12).bind fun r33 =>
    cond (shapeOk rk_impl_Sorted r33.1)
    ((cC (cellsAt r33.1 0) 0).bind fun c34 =>
    some ([.one (c34)], r33.2))
    none)
noncomputable def impl_sieve_owners (k m : Nat) (c1 : Cell) (H : List Entry) : Option Res :=
  (ptrC c1).bind fun c2 =>
  (fldA c2 1).bind fun c3 =>
  (deref H (c3)).bind fun p4 =>
  (cC p4.1 p4.2).bind fun c5 =>
  (lenC c5).bind fun n6 =>
  impl_sieve_owners_l0 k m m (c1) (.lst true 1 []) (c5) (n6 : Int) 0 H
noncomputable abbrev impl_sieve_owners_l0_B (k m : Nat) : (Ex → Fr → Option Res) → Fr → Option Res := evC G_impl_sieve_owners fi_impl_sieve_owners (evF G_impl_sieve_owners (k + 1)) m (sub [1, 1, 0, 1, 2, 3] fi_impl_sieve_owners.code) none
noncomputable abbrev impl_sieve_owners_l0_K (k m : Nat) : Ex → Fr → Option Res := blockK 0 (seqK (evC G_impl_sieve_owners fi_impl_sieve_owners (evF G_impl_sieve_owners (k + 1)) m (sub [1, 1, 1] fi_impl_sieve_owners.code) none) (retK G_impl_sieve_owners fi_impl_sieve_owners))
theorem impl_sieve_owners_l0_eq (k m : Nat) : ∀ (n : Nat) (c7 : Cell) (c8 : Cell) (c9 : Cell) (i10 : Int) (i11 : Int) (H12 : List Entry), loopK (some [0, 3, 12, 13, 14]) (impl_sieve_owners_l0_B k m) (impl_sieve_owners_l0_K k m) n ⟨fT 45 0 [(0, .av (.one (c7))), (3, .av (.one (c8))), (12, .av (.one (c9))), (13, .av (.one (Cell.int i10))), (14, .av (.one (Cell.int i11)))], fX 45 0 [], H12⟩ = impl_sieve_owners_l0 (k + 1) m n c7 c8 c9 i10 i11 H12 := by
  intro n
  induction n with
  | zero => intros; rfl
  | succ n ih =>
    intros
    simp only [impl_sieve_owners_l0, ← ih]
    kernel_rfl
theorem impl_sieve_owners_code (k m : Nat) (c1 : Cell) (H : List Entry) : evC G_impl_sieve_owners fi_impl_sieve_owners (evF G_impl_sieve_owners (k + 1)) m fi_impl_sieve_owners.code none (retK G_impl_sieve_owners fi_impl_sieve_owners) (enter fi_impl_sieve_owners [.one (c1)] H) = impl_sieve_owners (k + 1) m c1 H := by
  simp only [impl_sieve_owners, ← impl_sieve_owners_l0_eq k m]
  kernel_rfl
theorem impl_sieve_owners_eq (k : Nat) (c1 : Cell) (H : List Entry) : evF G_impl_sieve_owners (k + 2) fid_impl_sieve_owners [.one (c1)] H = impl_sieve_owners (k + 1) (k + 1) c1 H :=
  Eq.trans (by kernel_rfl) (impl_sieve_owners_code k (k + 1) c1 H)
theorem run_impl_sieve_owners_of {c1 : Cell} {H : List Entry} {r : Res} (k : Nat) (h : impl_sieve_owners (k + 1) (k + 1) c1 H = some r) : run_impl_sieve_owners [.one (c1)] H = some r := lim_of ((impl_sieve_owners_eq k c1 H).trans h)
noncomputable def pl_impl_fileNameOk : List (Nat × Run) := [(fid_impl_inRange, run_impl_inRange), (fid_impl_isPathByte, run_impl_isPathByte)]
noncomputable def G_impl_fileNameOk : Ctx := ctx tyTab fiTab pl_impl_fileNameOk
noncomputable def run_impl_fileNameOk : Run := lim G_impl_fileNameOk fid_impl_fileNameOk
theorem ok_impl_fileNameOk : FnOk Tryd.prog OkT fid_impl_fileNameOk run_impl_fileNameOk := lim_ok (l := pl_impl_fileNameOk) Tryd_mix tyTab_ok fiTab_ok okT (.cons ok_impl_inRange (.cons ok_impl_isPathByte .nil)) fid_impl_fileNameOk
noncomputable def impl_fileNameOk_l0 (k m : Nat) : Nat → ByteArray → Int → Option Res
  | 0, _, _ => none
  | n + 1, s2, i3 =>
    cond (decide (i3 < (s2.size : Int)))
    ((bytS s2 i3).bind fun i4 =>
    (callS run_impl_isPathByte [.one (.sc (.int .u8 i4))] []).bind fun r5 =>
    cond (shapeOk rk_impl_isPathByte r5)
    ((cB (cellsAt r5 0) 0).bind fun b6 =>
    cond (!b6)
    (some ([.one (Cell.bool false)], []))
    (impl_fileNameOk_l0 k m n s2 (IntKind.i64.wrap (i3 + 1))))
    none)
    ((callS run_impl_inRange [.one (Cell.int (s2.size : Int)), .one (Cell.int 1), .one (Cell.int 12)] []).bind fun r7 =>
    cond (shapeOk rk_impl_inRange r7)
    ((cB (cellsAt r7 0) 0).bind fun b8 =>
    cond b8
    (cond (!(s2.toList == (bs [46]).toList))
    (some ([.one (Cell.bool (!(s2.toList == (bs [46, 46]).toList)))], []))
    (some ([.one (Cell.bool false)], [])))
    (some ([.one (Cell.bool false)], [])))
    none)
noncomputable def impl_fileNameOk (k m : Nat) (s1 : ByteArray) : Option Res :=
  impl_fileNameOk_l0 k m m s1 0
noncomputable abbrev impl_fileNameOk_l0_B (k m : Nat) : (Ex → Fr → Option Res) → Fr → Option Res := evC G_impl_fileNameOk fi_impl_fileNameOk (evF G_impl_fileNameOk (k + 1)) m (sub [1, 0, 1, 2, 3] fi_impl_fileNameOk.code) none
noncomputable abbrev impl_fileNameOk_l0_K (k m : Nat) : Ex → Fr → Option Res := blockK 0 (seqK (evC G_impl_fileNameOk fi_impl_fileNameOk (evF G_impl_fileNameOk (k + 1)) m (sub [1, 1] fi_impl_fileNameOk.code) none) (retK G_impl_fileNameOk fi_impl_fileNameOk))
theorem impl_fileNameOk_l0_eq (k m : Nat) : ∀ (n : Nat) (s2 : ByteArray) (i3 : Int), loopK (some [0, 3]) (impl_fileNameOk_l0_B k m) (impl_fileNameOk_l0_K k m) n ⟨fT 26 0 [(0, .av (.one (Cell.str s2))), (3, .av (.one (Cell.int i3)))], fX 26 0 [], []⟩ = impl_fileNameOk_l0 (k + 1) m n s2 i3 := by
  intro n
  induction n with
  | zero => intros; rfl
  | succ n ih =>
    intros
    simp only [impl_fileNameOk_l0, ← ih]
    kernel_rfl
theorem impl_fileNameOk_code (k m : Nat) (s1 : ByteArray) : evC G_impl_fileNameOk fi_impl_fileNameOk (evF G_impl_fileNameOk (k + 1)) m fi_impl_fileNameOk.code none (retK G_impl_fileNameOk fi_impl_fileNameOk) (enter fi_impl_fileNameOk [.one (Cell.str s1)] []) = impl_fileNameOk (k + 1) m s1 := by
  simp only [impl_fileNameOk, ← impl_fileNameOk_l0_eq k m]
  kernel_rfl
theorem impl_fileNameOk_eq (k : Nat) (s1 : ByteArray) : evF G_impl_fileNameOk (k + 2) fid_impl_fileNameOk [.one (Cell.str s1)] [] = impl_fileNameOk (k + 1) (k + 1) s1 :=
  Eq.trans (by kernel_rfl) (impl_fileNameOk_code k (k + 1) s1)
theorem run_impl_fileNameOk_of {s1 : ByteArray} {r : Res} (k : Nat) (h : impl_fileNameOk (k + 1) (k + 1) s1 = some r) : run_impl_fileNameOk [.one (Cell.str s1)] [] = some r := lim_of ((impl_fileNameOk_eq k s1).trans h)
end Go.Ev
