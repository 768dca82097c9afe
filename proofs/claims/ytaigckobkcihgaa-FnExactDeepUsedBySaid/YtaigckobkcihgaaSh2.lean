/- What the evaluator says of the functions, each as a Lean function over cells. Printed by a program of this claim. Conditions: none. -/
import Derived.Test.YtaigckobkcihgaaSh1
import Derived.KernelRfl
namespace Go.Ev
open Go Go.Proofs
set_option maxRecDepth 100000
set_option linter.unusedVariables false
set_option linter.unusedSimpArgs false
noncomputable def pl_impl_deep : List (Nat × Run) := [(fid_impl_graph_by, run_impl_graph_by), (fid_impl_Sorted, run_impl_Sorted), (fid_slices_Contains_string, run_slices_Contains_string)]
noncomputable def G_impl_deep : Ctx := ctx tyTab fiTab pl_impl_deep
noncomputable def run_impl_deep : Run := lim G_impl_deep fid_impl_deep
theorem ok_impl_deep : FnOk Try.prog OkT fid_impl_deep run_impl_deep := lim_ok (l := pl_impl_deep) Try_mix tyTab_ok fiTab_ok okT (.cons ok_impl_graph_by (.cons ok_impl_Sorted (.cons ok_slices_Contains_string .nil))) fid_impl_deep
noncomputable def impl_deep_impl_graph_by_l2 (k m : Nat) (b_l0 : Cell → Cell → Cell → List Entry → Option Res) (b_l1 : Cell → Cell → Cell → Cell → Int → Int → List Entry → Option Res) : Nat → Cell → Cell → Cell → Cell → Int → Int → Cell → Int → Int → List Entry → Option Res
  | 0, _, _, _, _, _, _, _, _, _, _ => none
  | n + 1, c21, c22, c23, c24, i25, i26, c27, i28, i29, H30 =>
    cond (decide (i29 < i28))
    ((idxA 1 (c27) i29).bind fun c31 =>
    (deref H30 (c31)).bind fun p32 =>
    (cS p32.1 p32.2).bind fun s33 =>
    (callS run_slices_Contains_string [.one (c22), .one (Cell.str s33)] H30).bind fun r34 =>
    cond (shapeOk rk_slices_Contains_string r34)
    ((cB (cellsAt r34 0) 0).bind fun b35 =>
    cond (!b35)
    ((app H30 1 16 (c22) [[Cell.str s33]]).bind fun p36 =>
    (app p36.2 1 16 (c23) [[Cell.str s33]]).bind fun p37 =>
    impl_deep_impl_graph_by_l2 k m b_l0 b_l1 n (c21) (p36.1) (p37.1) (c24) i25 i26 (c27) i28 (IntKind.i64.wrap (i29 + 1)) p37.2)
    (impl_deep_impl_graph_by_l2 k m b_l0 b_l1 n (c21) (c22) (c23) (c24) i25 i26 (c27) i28 (IntKind.i64.wrap (i29 + 1)) H30))
    none)
    (b_l1 (c21) (c22) (c23) (c24) i25 (IntKind.i64.wrap (i26 + 1)) H30)
noncomputable def impl_deep_impl_graph_by_l1 (k m : Nat) (b_l0 : Cell → Cell → Cell → List Entry → Option Res) : Nat → Cell → Cell → Cell → Cell → Int → Int → List Entry → Option Res
  | 0, _, _, _, _, _, _, _ => none
  | n + 1, c8, c9, c10, c11, i12, i13, H14 =>
    cond (decide (i13 < i12))
    ((idxA 1 (c11) i13).bind fun c15 =>
    (deref H14 (c15)).bind fun p16 =>
    (cS p16.1 p16.2).bind fun s17 =>
    (run_impl_graph_by [.one (c8), .one (Cell.str s17)] H14).bind fun r18 =>
    cond (shapeOk rk_impl_graph_by r18.1)
    ((cC (cellsAt r18.1 0) 0).bind fun c19 =>
    (lenC c19).bind fun n20 =>
    impl_deep_impl_graph_by_l2 k m b_l0 (impl_deep_impl_graph_by_l1 k m b_l0 n) m (c8) (c9) (c10) (c11) i12 i13 (c19) (n20 : Int) 0 r18.2)
    none)
    (b_l0 (c8) (c9) (c10) H14)
noncomputable def impl_deep_impl_graph_by_l0 (k m : Nat) : Nat → Cell → Cell → Cell → List Entry → Option Res
  | 0, _, _, _, _ => none
  | n + 1, c2, c3, c4, H5 =>
    (lenC c4).bind fun n6 =>
    cond (decide ((n6 : Int) > 0))
    ((lenC c4).bind fun n7 =>
    impl_deep_impl_graph_by_l1 k m (impl_deep_impl_graph_by_l0 k m n) m (c2) (c3) (.lst true 1 []) (c4) (n7 : Int) 0 H5)
    ((callF run_impl_Sorted [.one (c3)] H5).bind fun r38 =>
    cond (shapeOk rk_impl_Sorted r38.1)
    ((cC (cellsAt r38.1 0) 0).bind fun c39 =>
    some ([.one (c39)], r38.2))
    none)
noncomputable def impl_deep_impl_graph_by (k m : Nat) (s1 : ByteArray) (q2 : Cell) (H : List Entry) : Option Res :=
  impl_deep_impl_graph_by_l0 k m m (q2) (.lst true 1 []) (.lst true 1 [[Cell.str s1]]) H
noncomputable abbrev impl_deep_impl_graph_by_l0_B (k m : Nat) : (Ex → Fr → Option Res) → Fr → Option Res := evC G_impl_deep fi_impl_deep (evF G_impl_deep (k + 1)) m (sub [1, 1, 1, 0, 2, 3] fi_impl_deep.code) none
noncomputable abbrev impl_deep_impl_graph_by_l0_K (k m : Nat) : Ex → Fr → Option Res := blockK 0 (seqK (evC G_impl_deep fi_impl_deep (evF G_impl_deep (k + 1)) m (sub [1, 1, 1, 1] fi_impl_deep.code) none) (retK G_impl_deep fi_impl_deep))
noncomputable abbrev impl_deep_impl_graph_by_l1_B (k m : Nat) : (Ex → Fr → Option Res) → Fr → Option Res := evC G_impl_deep fi_impl_deep (evF G_impl_deep (k + 1)) m (sub [1, 1, 1, 0, 2, 3, 1, 2, 1, 0, 1, 2, 3] fi_impl_deep.code) none
noncomputable abbrev impl_deep_impl_graph_by_l1_K (k m : Nat) (n_l0 : Nat) : Ex → Fr → Option Res := blockK 2 (seqK (evC G_impl_deep fi_impl_deep (evF G_impl_deep (k + 1)) m (sub [1, 1, 1, 0, 2, 3, 1, 2, 1, 1] fi_impl_deep.code) none) (blockK 1 (loopE (fun s => loopK (some [1, 5, 6]) (impl_deep_impl_graph_by_l0_B k m) (impl_deep_impl_graph_by_l0_K k m) n_l0 (keepS (some [1, 5, 6]) s)) (impl_deep_impl_graph_by_l0_K k m))))
noncomputable abbrev impl_deep_impl_graph_by_l2_B (k m : Nat) : (Ex → Fr → Option Res) → Fr → Option Res := evC G_impl_deep fi_impl_deep (evF G_impl_deep (k + 1)) m (sub [1, 1, 1, 0, 2, 3, 1, 2, 1, 0, 1, 2, 3, 1, 1, 0, 2, 1, 1, 2, 3] fi_impl_deep.code) none
noncomputable abbrev impl_deep_impl_graph_by_l2_K (k m : Nat) (n_l0 : Nat) (n_l1 : Nat) : Ex → Fr → Option Res := blockK 4 (blockK 3 (seqK (evC G_impl_deep fi_impl_deep (evF G_impl_deep (k + 1)) m (sub [1, 1, 1, 0, 2, 3, 1, 2, 1, 0, 1, 2, 3, 1, 1, 1] fi_impl_deep.code) none) (loopE (fun s => loopK (some [1, 5, 7, 17, 18, 19]) (impl_deep_impl_graph_by_l1_B k m) (impl_deep_impl_graph_by_l1_K k m n_l0) n_l1 (keepS (some [1, 5, 7, 17, 18, 19]) s)) (impl_deep_impl_graph_by_l1_K k m n_l0))))
theorem impl_deep_impl_graph_by_l2_eq (k m : Nat) (b_l0 : Cell → Cell → Cell → List Entry → Option Res) (n_l0 : Nat) (h_l0 : ∀ (c2 : Cell) (c3 : Cell) (c4 : Cell) (H5 : List Entry), loopK (some [1, 5, 6]) (impl_deep_impl_graph_by_l0_B k m) (impl_deep_impl_graph_by_l0_K k m) n_l0 ⟨fT 48 0 [(1, .av (.one (.fn fid_impl_graph_by [c2] []))), (5, .av (.one (c3))), (6, .av (.one (c4)))], fX 48 0 [], H5⟩ = b_l0 c2 c3 c4 H5) (b_l1 : Cell → Cell → Cell → Cell → Int → Int → List Entry → Option Res) (n_l1 : Nat) (h_l1 : ∀ (c8 : Cell) (c9 : Cell) (c10 : Cell) (c11 : Cell) (i12 : Int) (i13 : Int) (H14 : List Entry), loopK (some [1, 5, 7, 17, 18, 19]) (impl_deep_impl_graph_by_l1_B k m) (impl_deep_impl_graph_by_l1_K k m n_l0) n_l1 ⟨fT 48 0 [(1, .av (.one (.fn fid_impl_graph_by [c8] []))), (5, .av (.one (c9))), (7, .av (.one (c10))), (17, .av (.one (c11))), (18, .av (.one (Cell.int i12))), (19, .av (.one (Cell.int i13)))], fX 48 0 [], H14⟩ = b_l1 c8 c9 c10 c11 i12 i13 H14) : ∀ (n : Nat) (c21 : Cell) (c22 : Cell) (c23 : Cell) (c24 : Cell) (i25 : Int) (i26 : Int) (c27 : Cell) (i28 : Int) (i29 : Int) (H30 : List Entry), loopK (some [1, 5, 7, 17, 18, 19, 25, 26, 27]) (impl_deep_impl_graph_by_l2_B k m) (impl_deep_impl_graph_by_l2_K k m n_l0 n_l1) n ⟨fT 48 0 [(1, .av (.one (.fn fid_impl_graph_by [c21] []))), (5, .av (.one (c22))), (7, .av (.one (c23))), (17, .av (.one (c24))), (18, .av (.one (Cell.int i25))), (19, .av (.one (Cell.int i26))), (25, .av (.one (c27))), (26, .av (.one (Cell.int i28))), (27, .av (.one (Cell.int i29)))], fX 48 0 [], H30⟩ = impl_deep_impl_graph_by_l2 (k + 1) m b_l0 b_l1 n c21 c22 c23 c24 i25 i26 c27 i28 i29 H30 := by
  intro n
  induction n with
  | zero => intros; rfl
  | succ n ih =>
    intros
    simp only [impl_deep_impl_graph_by_l2, ← h_l1, ← ih]
    kernel_rfl
theorem impl_deep_impl_graph_by_l1_eq (k m : Nat) (b_l0 : Cell → Cell → Cell → List Entry → Option Res) (n_l0 : Nat) (h_l0 : ∀ (c2 : Cell) (c3 : Cell) (c4 : Cell) (H5 : List Entry), loopK (some [1, 5, 6]) (impl_deep_impl_graph_by_l0_B k m) (impl_deep_impl_graph_by_l0_K k m) n_l0 ⟨fT 48 0 [(1, .av (.one (.fn fid_impl_graph_by [c2] []))), (5, .av (.one (c3))), (6, .av (.one (c4)))], fX 48 0 [], H5⟩ = b_l0 c2 c3 c4 H5) : ∀ (n : Nat) (c8 : Cell) (c9 : Cell) (c10 : Cell) (c11 : Cell) (i12 : Int) (i13 : Int) (H14 : List Entry), loopK (some [1, 5, 7, 17, 18, 19]) (impl_deep_impl_graph_by_l1_B k m) (impl_deep_impl_graph_by_l1_K k m n_l0) n ⟨fT 48 0 [(1, .av (.one (.fn fid_impl_graph_by [c8] []))), (5, .av (.one (c9))), (7, .av (.one (c10))), (17, .av (.one (c11))), (18, .av (.one (Cell.int i12))), (19, .av (.one (Cell.int i13)))], fX 48 0 [], H14⟩ = impl_deep_impl_graph_by_l1 (k + 1) m b_l0 n c8 c9 c10 c11 i12 i13 H14 := by
  intro n
  induction n with
  | zero => intros; rfl
  | succ n ih =>
    intros
    simp only [impl_deep_impl_graph_by_l1, ← impl_deep_impl_graph_by_l2_eq k m _ _ h_l0 _ _ (ih), ← h_l0]
    kernel_rfl
theorem impl_deep_impl_graph_by_l0_eq (k m : Nat) : ∀ (n : Nat) (c2 : Cell) (c3 : Cell) (c4 : Cell) (H5 : List Entry), loopK (some [1, 5, 6]) (impl_deep_impl_graph_by_l0_B k m) (impl_deep_impl_graph_by_l0_K k m) n ⟨fT 48 0 [(1, .av (.one (.fn fid_impl_graph_by [c2] []))), (5, .av (.one (c3))), (6, .av (.one (c4)))], fX 48 0 [], H5⟩ = impl_deep_impl_graph_by_l0 (k + 1) m n c2 c3 c4 H5 := by
  intro n
  induction n with
  | zero => intros; rfl
  | succ n ih =>
    intros
    simp only [impl_deep_impl_graph_by_l0, ← impl_deep_impl_graph_by_l1_eq k m _ _ (ih)]
    kernel_rfl
theorem impl_deep_impl_graph_by_code (k m : Nat) (s1 : ByteArray) (q2 : Cell) (H : List Entry) : evC G_impl_deep fi_impl_deep (evF G_impl_deep (k + 1)) m fi_impl_deep.code none (retK G_impl_deep fi_impl_deep) (enter fi_impl_deep [.one (Cell.str s1), .one (.fn fid_impl_graph_by [q2] [])] H) = impl_deep_impl_graph_by (k + 1) m s1 q2 H := by
  simp only [impl_deep_impl_graph_by, ← impl_deep_impl_graph_by_l0_eq k m]
  kernel_rfl
theorem impl_deep_impl_graph_by_eq (k : Nat) (s1 : ByteArray) (q2 : Cell) (H : List Entry) : evF G_impl_deep (k + 2) fid_impl_deep [.one (Cell.str s1), .one (.fn fid_impl_graph_by [q2] [])] H = impl_deep_impl_graph_by (k + 1) (k + 1) s1 q2 H :=
  Eq.trans (by kernel_rfl) (impl_deep_impl_graph_by_code k (k + 1) s1 q2 H)
theorem run_impl_deep_impl_graph_by_of {s1 : ByteArray} {q2 : Cell} {H : List Entry} {r : Res} (k : Nat) (h : impl_deep_impl_graph_by (k + 1) (k + 1) s1 q2 H = some r) : run_impl_deep [.one (Cell.str s1), .one (.fn fid_impl_graph_by [q2] [])] H = some r := lim_of ((impl_deep_impl_graph_by_eq k s1 q2 H).trans h)
noncomputable def pl_impl_graphOf : List (Nat × Run) := []
noncomputable def G_impl_graphOf : Ctx := ctx tyTab fiTab pl_impl_graphOf
noncomputable def run_impl_graphOf : Run := lim G_impl_graphOf fid_impl_graphOf
theorem ok_impl_graphOf : FnOk Try.prog OkT fid_impl_graphOf run_impl_graphOf := lim_ok (l := pl_impl_graphOf) Try_mix tyTab_ok fiTab_ok okT .nil fid_impl_graphOf
noncomputable def impl_graphOf_l0 (k m : Nat) : Nat → Cell → Cell → Int → Int → List Entry → Option Res
  | 0, _, _, _, _, _ => none
  | n + 1, c3, c4, i5, i6, H7 =>
    cond (decide (i6 < i5))
    ((idxA 4 (c4) i6).bind fun c8 =>
    (deref H7 (c8)).bind fun p9 =>
    (cS p9.1 p9.2).bind fun s10 =>
    (cC p9.1 (p9.2 + 1)).bind fun c11 =>
    (cC p9.1 ((p9.2 + 1) + 1)).bind fun c12 =>
    (cC p9.1 (((p9.2 + 1) + 1) + 1)).bind fun c13 =>
    (ptrC c3).bind fun c14 =>
    (fldA c14 0).bind fun c15 =>
    (deref H7 (c15)).bind fun p16 =>
    (cC p16.1 p16.2).bind fun c17 =>
    (app H7 1 16 (c17) [[Cell.str s10]]).bind fun p18 =>
    (ptrC c3).bind fun c19 =>
    (fldA c19 0).bind fun c20 =>
    (hStore p18.2 (c20) [p18.1]).bind fun h21 =>
    (ptrC c3).bind fun c22 =>
    (fldA c22 1).bind fun c23 =>
    (deref h21 (c23)).bind fun p24 =>
    (cC p24.1 p24.2).bind fun c25 =>
    restK [c11] fun d26 =>
    (srcRows h21 1 (.lst true 1 (chunks 1 1 d26))).bind fun r27 =>
    (app h21 1 24 (c25) r27).bind fun p28 =>
    (ptrC c3).bind fun c29 =>
    (fldA c29 1).bind fun c30 =>
    (hStore p28.2 (c30) [p28.1]).bind fun h31 =>
    impl_graphOf_l0 k m n (c3) (c4) i5 (IntKind.i64.wrap (i6 + 1)) h31)
    (some ([.one (c3)], H7))
noncomputable def impl_graphOf (k m : Nat) (c1 : Cell) (H : List Entry) : Option Res :=
  (lenC c1).bind fun n2 =>
  impl_graphOf_l0 k m m (.ptr H.length 2 0 0 0) (c1) (n2 : Int) 0 (H ++ [Entry.mk 2 [[.lst true 1 [], .lst true 1 []]] 0 false])
noncomputable abbrev impl_graphOf_l0_B (k m : Nat) : (Ex → Fr → Option Res) → Fr → Option Res := evC G_impl_graphOf fi_impl_graphOf (evF G_impl_graphOf (k + 1)) m (sub [1, 1, 0, 1, 2, 3] fi_impl_graphOf.code) none
noncomputable abbrev impl_graphOf_l0_K (k m : Nat) : Ex → Fr → Option Res := blockK 0 (seqK (evC G_impl_graphOf fi_impl_graphOf (evF G_impl_graphOf (k + 1)) m (sub [1, 1, 1] fi_impl_graphOf.code) none) (retK G_impl_graphOf fi_impl_graphOf))
theorem impl_graphOf_l0_eq (k m : Nat) : ∀ (n : Nat) (c3 : Cell) (c4 : Cell) (i5 : Int) (i6 : Int) (H7 : List Entry), loopK (some [3, 8, 9, 10]) (impl_graphOf_l0_B k m) (impl_graphOf_l0_K k m) n ⟨fT 38 0 [(3, .av (.one (c3))), (8, .av (.one (c4))), (9, .av (.one (Cell.int i5))), (10, .av (.one (Cell.int i6)))], fX 38 0 [], H7⟩ = impl_graphOf_l0 (k + 1) m n c3 c4 i5 i6 H7 := by
  intro n
  induction n with
  | zero => intros; rfl
  | succ n ih =>
    intros
    simp only [impl_graphOf_l0, ← ih]
    kernel_rfl
theorem impl_graphOf_code (k m : Nat) (c1 : Cell) (H : List Entry) : evC G_impl_graphOf fi_impl_graphOf (evF G_impl_graphOf (k + 1)) m fi_impl_graphOf.code none (retK G_impl_graphOf fi_impl_graphOf) (enter fi_impl_graphOf [.one (c1)] H) = impl_graphOf (k + 1) m c1 H := by
  simp only [impl_graphOf, ← impl_graphOf_l0_eq k m]
  kernel_rfl
theorem impl_graphOf_eq (k : Nat) (c1 : Cell) (H : List Entry) : evF G_impl_graphOf (k + 2) fid_impl_graphOf [.one (c1)] H = impl_graphOf (k + 1) (k + 1) c1 H :=
  Eq.trans (by kernel_rfl) (impl_graphOf_code k (k + 1) c1 H)
theorem run_impl_graphOf_of {c1 : Cell} {H : List Entry} {r : Res} (k : Nat) (h : impl_graphOf (k + 1) (k + 1) c1 H = some r) : run_impl_graphOf [.one (c1)] H = some r := lim_of ((impl_graphOf_eq k c1 H).trans h)
noncomputable def pl_impl_DeepUsedBy : List (Nat × Run) := [(fid_impl_deep, run_impl_deep), (fid_impl_graphOf, run_impl_graphOf), (fid_impl_graph_by, run_impl_graph_by)]
noncomputable def G_impl_DeepUsedBy : Ctx := ctx tyTab fiTab pl_impl_DeepUsedBy
noncomputable def run_impl_DeepUsedBy : Run := lim G_impl_DeepUsedBy fid_impl_DeepUsedBy
theorem ok_impl_DeepUsedBy : FnOk Try.prog OkT fid_impl_DeepUsedBy run_impl_DeepUsedBy := lim_ok (l := pl_impl_DeepUsedBy) Try_mix tyTab_ok fiTab_ok okT (.cons ok_impl_deep (.cons ok_impl_graphOf (.cons ok_impl_graph_by .nil))) fid_impl_DeepUsedBy
noncomputable def impl_DeepUsedBy (k m : Nat) (c1 : Cell) (s2 : ByteArray) : Option Res :=
  (run_impl_graphOf [.one (c1)] []).bind fun r3 =>
  cond (shapeOk rk_impl_graphOf r3.1)
  ((cC (cellsAt r3.1 0) 0).bind fun c4 =>
  (run_impl_deep [.one (Cell.str s2), .one (.fn fid_impl_graph_by [c4] [])] r3.2).bind fun r5 =>
  cond (shapeOk rk_impl_deep r5.1)
  ((cC (cellsAt r5.1 0) 0).bind fun c6 =>
  some ([.one (c6)], r5.2))
  none)
  none
theorem impl_DeepUsedBy_code (k m : Nat) (c1 : Cell) (s2 : ByteArray) : evC G_impl_DeepUsedBy fi_impl_DeepUsedBy (evF G_impl_DeepUsedBy (k + 1)) m fi_impl_DeepUsedBy.code none (retK G_impl_DeepUsedBy fi_impl_DeepUsedBy) (enter fi_impl_DeepUsedBy [.one (c1), .one (Cell.str s2)] []) = impl_DeepUsedBy (k + 1) m c1 s2 := by
  kernel_rfl
theorem impl_DeepUsedBy_eq (k : Nat) (c1 : Cell) (s2 : ByteArray) : evF G_impl_DeepUsedBy (k + 2) fid_impl_DeepUsedBy [.one (c1), .one (Cell.str s2)] [] = impl_DeepUsedBy (k + 1) (k + 1) c1 s2 :=
  Eq.trans (by kernel_rfl) (impl_DeepUsedBy_code k (k + 1) c1 s2)
theorem run_impl_DeepUsedBy_of {c1 : Cell} {s2 : ByteArray} {r : Res} (k : Nat) (h : impl_DeepUsedBy (k + 1) (k + 1) c1 s2 = some r) : run_impl_DeepUsedBy [.one (c1), .one (Cell.str s2)] [] = some r := lim_of ((impl_DeepUsedBy_eq k c1 s2).trans h)
noncomputable def pl_laws_FnExactDeepUsedBy : List (Nat × Run) := [(fid_laws_szPackS, run_laws_szPackS), (fid_laws_toPackS, run_laws_toPackS), (fid_laws_eqStringS, run_laws_eqStringS), (fid_laws_eqPackS, run_laws_eqPackS), (fid_laws_markPackS, run_laws_markPackS), (fid_laws_markStringS, run_laws_markStringS), (fid_laws_heldStringS, run_laws_heldStringS), (fid_spec_DeepUsedBy, run_spec_DeepUsedBy), (fid_impl_DeepUsedBy, run_impl_DeepUsedBy)]
noncomputable def G_laws_FnExactDeepUsedBy : Ctx := ctx tyTab fiTab pl_laws_FnExactDeepUsedBy
noncomputable def run_laws_FnExactDeepUsedBy : Run := lim G_laws_FnExactDeepUsedBy fid_laws_FnExactDeepUsedBy
theorem ok_laws_FnExactDeepUsedBy : FnOk Try.prog OkT fid_laws_FnExactDeepUsedBy run_laws_FnExactDeepUsedBy := lim_ok (l := pl_laws_FnExactDeepUsedBy) Try_mix tyTab_ok fiTab_ok okT (.cons ok_laws_szPackS (.cons ok_laws_toPackS (.cons ok_laws_eqStringS (.cons ok_laws_eqPackS (.cons ok_laws_markPackS (.cons ok_laws_markStringS (.cons ok_laws_heldStringS (.cons ok_spec_DeepUsedBy (.cons ok_impl_DeepUsedBy .nil))))))))) fid_laws_FnExactDeepUsedBy
noncomputable def laws_FnExactDeepUsedBy (k m : Nat) (c1 : Cell) (s2 : ByteArray) : Option Res :=
  cond (decide ((s2.size : Int) > 1048576))
  (some ([.one (Cell.bool true)], []))
  ((callS run_laws_szPackS [.one (c1), .one (Cell.int 1048576)] []).bind fun r3 =>
  cond (shapeOk rk_laws_szPackS r3)
  ((cI .i64 (cellsAt r3 0) 0).bind fun i4 =>
  cond (decide (i4 < 0))
  (some ([.one (Cell.bool true)], []))
  ((callF run_laws_toPackS [.one (c1)] []).bind fun r5 =>
  cond (shapeOk rk_laws_toPackS r5.1)
  ((cC (cellsAt r5.1 0) 0).bind fun c6 =>
  (callL run_spec_DeepUsedBy [.one (c6), .one (Cell.str s2)] r5.2).bind fun r7 =>
  cond (shapeOk rk_spec_DeepUsedBy r7.1)
  ((cC (cellsAt r7.1 0) 0).bind fun c8 =>
  (callF run_laws_toPackS [.one (c1)] r7.2).bind fun r9 =>
  cond (shapeOk rk_laws_toPackS r9.1)
  ((cC (cellsAt r9.1 0) 0).bind fun c10 =>
  (callF run_impl_DeepUsedBy [.one (c10), .one (Cell.str s2)] r9.2).bind fun r11 =>
  cond (shapeOk rk_impl_DeepUsedBy r11.1)
  ((cC (cellsAt r11.1 0) 0).bind fun c12 =>
  (callS run_laws_eqStringS [.one (c12), .one (c8)] r11.2).bind fun r13 =>
  cond (shapeOk rk_laws_eqStringS r13)
  ((cB (cellsAt r13 0) 0).bind fun b14 =>
  cond (!b14)
  (some ([.one (Cell.bool false)], r11.2))
  ((callF run_laws_toPackS [.one (c1)] r11.2).bind fun r15 =>
  cond (shapeOk rk_laws_toPackS r15.1)
  ((cC (cellsAt r15.1 0) 0).bind fun c16 =>
  (callS run_laws_eqPackS [.one (c10), .one (c16)] r15.2).bind fun r17 =>
  cond (shapeOk rk_laws_eqPackS r17)
  ((cB (cellsAt r17 0) 0).bind fun b18 =>
  cond (!b18)
  (some ([.one (Cell.bool false)], r15.2))
  ((run_laws_markPackS [.one (c10), .one (Cell.int 1)] r15.2).bind fun r19 =>
  cond (shapeOk rk_laws_markPackS r19.1)
  ((cI .i64 (cellsAt r19.1 0) 0).bind fun i20 =>
  cond (decide (i20 < 0))
  (some ([.one (Cell.bool false)], r19.2))
  ((callS run_laws_eqStringS [.one (c12), .one (c8)] r19.2).bind fun r21 =>
  cond (shapeOk rk_laws_eqStringS r21)
  ((cB (cellsAt r21 0) 0).bind fun b22 =>
  cond (!b22)
  (some ([.one (Cell.bool false)], r19.2))
  ((run_laws_markStringS [.one (c12), .one (Cell.int 1)] r19.2).bind fun r23 =>
  cond (shapeOk rk_laws_markStringS r23.1)
  ((cI .i64 (cellsAt r23.1 0) 0).bind fun i24 =>
  (callS run_laws_heldStringS [.one (c12), .one (Cell.int 1)] r23.2).bind fun r25 =>
  cond (shapeOk rk_laws_heldStringS r25)
  ((cI .i64 (cellsAt r25 0) 0).bind fun i26 =>
  cond (decide (i26 < 0))
  (some ([.one (Cell.bool false)], r23.2))
  (cond (i26 != i24)
  (some ([.one (Cell.bool false)], r23.2))
  ((callF run_laws_toPackS [.one (c1)] r23.2).bind fun r27 =>
  cond (shapeOk rk_laws_toPackS r27.1)
  ((cC (cellsAt r27.1 0) 0).bind fun c28 =>
  (callF run_impl_DeepUsedBy [.one (c28), .one (Cell.str s2)] r27.2).bind fun r29 =>
  cond (shapeOk rk_impl_DeepUsedBy r29.1)
  ((cC (cellsAt r29.1 0) 0).bind fun c30 =>
  (callS run_laws_eqStringS [.one (c30), .one (c8)] r29.2).bind fun r31 =>
  cond (shapeOk rk_laws_eqStringS r31)
  ((cB (cellsAt r31 0) 0).bind fun b32 =>
  cond (!b32)
  (some ([.one (Cell.bool false)], r29.2))
  ((callS run_laws_heldStringS [.one (c12), .one (Cell.int 1)] r29.2).bind fun r33 =>
  cond (shapeOk rk_laws_heldStringS r33)
  ((cI .i64 (cellsAt r33 0) 0).bind fun i34 =>
  cond (decide (i34 < 0))
  (some ([.one (Cell.bool false)], r29.2))
  (cond (i34 != i24)
  (some ([.one (Cell.bool false)], r29.2))
  (some ([.one (Cell.bool true)], r29.2))))
  none))
  none)
  none)
  none)))
  none)
  none))
  none))
  none))
  none)
  none))
  none)
  none)
  none)
  none)
  none))
  none)
theorem laws_FnExactDeepUsedBy_code (k m : Nat) (c1 : Cell) (s2 : ByteArray) : evC G_laws_FnExactDeepUsedBy fi_laws_FnExactDeepUsedBy (evF G_laws_FnExactDeepUsedBy (k + 1)) m fi_laws_FnExactDeepUsedBy.code none (retK G_laws_FnExactDeepUsedBy fi_laws_FnExactDeepUsedBy) (enter fi_laws_FnExactDeepUsedBy [.one (c1), .one (Cell.str s2)] []) = laws_FnExactDeepUsedBy (k + 1) m c1 s2 := by
  kernel_rfl
theorem laws_FnExactDeepUsedBy_eq (k : Nat) (c1 : Cell) (s2 : ByteArray) : evF G_laws_FnExactDeepUsedBy (k + 2) fid_laws_FnExactDeepUsedBy [.one (c1), .one (Cell.str s2)] [] = laws_FnExactDeepUsedBy (k + 1) (k + 1) c1 s2 :=
  Eq.trans (by kernel_rfl) (laws_FnExactDeepUsedBy_code k (k + 1) c1 s2)
theorem run_laws_FnExactDeepUsedBy_of {c1 : Cell} {s2 : ByteArray} {r : Res} (k : Nat) (h : laws_FnExactDeepUsedBy (k + 1) (k + 1) c1 s2 = some r) : run_laws_FnExactDeepUsedBy [.one (c1), .one (Cell.str s2)] [] = some r := lim_of ((laws_FnExactDeepUsedBy_eq k c1 s2).trans h)
end Go.Ev
