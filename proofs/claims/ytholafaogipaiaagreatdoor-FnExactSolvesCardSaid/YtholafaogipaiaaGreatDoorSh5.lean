/- Conditions: none. -/
import Derived.Test.YtholafaogipaiaaGreatDoorSh4
import Derived.KernelRfl
namespace Go.Ev
open Go Go.Proofs
set_option maxRecDepth 100000
set_option linter.unusedVariables false
set_option linter.unusedSimpArgs false
noncomputable def pl_fal : List (Nat × Run) := [(fid_fei, run_fei), (fid_fem, run_fem), (fid_faj, run_faj), (fid_fap, run_fap)]
noncomputable def G_fal : Ctx := ctx tyTab fiTab pl_fal
noncomputable def run_fal : Run := lim G_fal fid_fal
theorem ok_fal : FnOk Tryz.prog OkT fid_fal run_fal := lim_ok (l := pl_fal) Tryz_mix tyTab_ok fiTab_ok okT (.cons ok_fei (.cons ok_fem (.cons ok_faj (.cons ok_fap .nil)))) fid_fal
noncomputable def fal_l0 (k m : Nat) : Nat → ByteArray → ByteArray → Bool → Cell → Cell → Cell → Cell → Cell → Int → List Entry → Option Res
  | 0, _, _, _, _, _, _, _, _, _, _ => none
  | n + 1, s9, s10, b11, c12, c13, c14, c15, c16, i17, H18 =>
    cond (decide (i17 < 3))
    (if 0 ≤ i17 ∧ i17 < 3 then
    ((cC [c14, c15, c16] (i17.toNat * 1)).bind fun c19 =>
    (idxA 1 (c12) i17).bind fun c20 =>
    (deref H18 (c20)).bind fun p21 =>
    (cS p21.1 p21.2).bind fun s22 =>
    (callS run_faj [.one (Cell.str s22), .one (Cell.int 9999)] H18).bind fun r23 =>
    cond (shapeOk rk_faj r23)
    ((cI .i64 (cellsAt r23 0) 0).bind fun i24 =>
    (cB (cellsAt r23 1) 0).bind fun b25 =>
    cond (!b25)
    (some ([.agg [Cell.int 0, Cell.int 0, Cell.int 0, .lst true 1 []], .one (Cell.bool false)], H18))
    ((ptrC c19).bind fun c26 =>
    (hStore H18 (c26) [Cell.int i24]).bind fun h27 =>
    fal_l0 k m n s9 s10 b11 (c12) (c13) (c14) (c15) (c16) (IntKind.i64.wrap (i17 + 1)) h27))
    none) else none)
    (cond b11
    ((callF run_fem [.one (Cell.str s10), .one (Cell.str (bs [46]))] H18).bind fun r28 =>
    cond (shapeOk rk_fem r28.1)
    ((cC (cellsAt r28.1 0) 0).bind fun c29 =>
    (fldA c13 3).bind fun c30 =>
    (hStore r28.2 (c30) [c29]).bind fun h31 =>
    (deref h31 (c13)).bind fun p32 =>
    (cI .i64 p32.1 p32.2).bind fun i33 =>
    (cI .i64 p32.1 (p32.2 + 1)).bind fun i34 =>
    (cI .i64 p32.1 ((p32.2 + 1) + 1)).bind fun i35 =>
    (cC p32.1 (((p32.2 + 1) + 1) + 1)).bind fun c36 =>
    (callS run_fap [.agg [Cell.int i33, Cell.int i34, Cell.int i35, c36]] h31).bind fun r37 =>
    cond (shapeOk rk_fap r37)
    ((cS (cellsAt r37 0) 0).bind fun s38 =>
    cond (!(s38.toList == s9.toList))
    (some ([.agg [Cell.int 0, Cell.int 0, Cell.int 0, .lst true 1 []], .one (Cell.bool false)], h31))
    ((deref h31 (c13)).bind fun p39 =>
    (cI .i64 p39.1 p39.2).bind fun i40 =>
    (cI .i64 p39.1 (p39.2 + 1)).bind fun i41 =>
    (cI .i64 p39.1 ((p39.2 + 1) + 1)).bind fun i42 =>
    (cC p39.1 (((p39.2 + 1) + 1) + 1)).bind fun c43 =>
    some ([.agg [Cell.int i40, Cell.int i41, Cell.int i42, c43], .one (Cell.bool true)], h31)))
    none)
    none)
    ((deref H18 (c13)).bind fun p44 =>
    (cI .i64 p44.1 p44.2).bind fun i45 =>
    (cI .i64 p44.1 (p44.2 + 1)).bind fun i46 =>
    (cI .i64 p44.1 ((p44.2 + 1) + 1)).bind fun i47 =>
    (cC p44.1 (((p44.2 + 1) + 1) + 1)).bind fun c48 =>
    (callS run_fap [.agg [Cell.int i45, Cell.int i46, Cell.int i47, c48]] H18).bind fun r49 =>
    cond (shapeOk rk_fap r49)
    ((cS (cellsAt r49 0) 0).bind fun s50 =>
    cond (!(s50.toList == s9.toList))
    (some ([.agg [Cell.int 0, Cell.int 0, Cell.int 0, .lst true 1 []], .one (Cell.bool false)], H18))
    ((deref H18 (c13)).bind fun p51 =>
    (cI .i64 p51.1 p51.2).bind fun i52 =>
    (cI .i64 p51.1 (p51.2 + 1)).bind fun i53 =>
    (cI .i64 p51.1 ((p51.2 + 1) + 1)).bind fun i54 =>
    (cC p51.1 (((p51.2 + 1) + 1) + 1)).bind fun c55 =>
    some ([.agg [Cell.int i52, Cell.int i53, Cell.int i54, c55], .one (Cell.bool true)], H18)))
    none))
noncomputable def fal (k m : Nat) (s1 : ByteArray) : Option Res :=
  (callS run_fei [.one (Cell.str s1), .one (Cell.str (bs [45]))] []).bind fun r2 =>
  cond (shapeOk rk_fei r2)
  ((cS (cellsAt r2 0) 0).bind fun s3 =>
  (cS (cellsAt r2 1) 0).bind fun s4 =>
  (cB (cellsAt r2 2) 0).bind fun b5 =>
  (callF run_fem [.one (Cell.str s3), .one (Cell.str (bs [46]))] []).bind fun r6 =>
  cond (shapeOk rk_fem r6.1)
  ((cC (cellsAt r6.1 0) 0).bind fun c7 =>
  (lenC c7).bind fun n8 =>
  cond ((n8 : Int) != 3)
  (some ([.agg [Cell.int 0, Cell.int 0, Cell.int 0, .lst true 1 []], .one (Cell.bool false)], r6.2))
  (fal_l0 k m m s1 s4 b5 (c7) (.ptr r6.2.length 4 0 0 0) (.ptr r6.2.length 4 0 0 0) (.ptr r6.2.length 4 0 1 0) (.ptr r6.2.length 4 0 2 0) 0 (r6.2 ++ [Entry.mk 4 [[Cell.int 0, Cell.int 0, Cell.int 0, .lst true 1 []]] 0 false])))
  none)
  none
noncomputable abbrev fal_l0_B (k m : Nat) : (Ex → Fr → Option Res) → Fr → Option Res := evC G_fal fi_fal (evF G_fal (k + 1)) m (sub [1, 1, 1, 1, 1, 0, 1, 2, 3] fi_fal.code) none
noncomputable abbrev fal_l0_K (k m : Nat) : Ex → Fr → Option Res := blockK 0 (seqK (evC G_fal fi_fal (evF G_fal (k + 1)) m (sub [1, 1, 1, 1, 1, 1] fi_fal.code) none) (retK G_fal fi_fal))
theorem fal_l0_eq (k m : Nat) : ∀ (n : Nat) (s9 : ByteArray) (s10 : ByteArray) (b11 : Bool) (c12 : Cell) (c13 : Cell) (c14 : Cell) (c15 : Cell) (c16 : Cell) (i17 : Int) (H18 : List Entry), loopK (some [0, 2, 5, 6, 7, 8, 28, 29]) (fal_l0_B k m) (fal_l0_K k m) n ⟨fT 58 0 [(0, .av (.one (Cell.str s9))), (2, .loc 2 0), (5, .av (.one (Cell.str s10))), (6, .av (.one (Cell.bool b11))), (7, .av (.one (c12))), (8, .av (.one (c13))), (28, .av (.agg [c14, c15, c16])), (29, .av (.one (Cell.int i17)))], fX 58 0 [(2, [Cell.int 0, Cell.int 0, Cell.int 0, .lst true 1 []])], H18⟩ = fal_l0 (k + 1) m n s9 s10 b11 c12 c13 c14 c15 c16 i17 H18 := by
  intro n
  induction n with
  | zero => intros; rfl
  | succ n ih =>
    intros
    simp only [fal_l0, ← ih]
    kernel_rfl
theorem fal_code (k m : Nat) (s1 : ByteArray) : evC G_fal fi_fal (evF G_fal (k + 1)) m fi_fal.code none (retK G_fal fi_fal) (enter fi_fal [.one (Cell.str s1)] []) = fal (k + 1) m s1 := by
  simp only [fal, ← fal_l0_eq k m]
  kernel_rfl
theorem fal_eq (k : Nat) (s1 : ByteArray) : evF G_fal (k + 2) fid_fal [.one (Cell.str s1)] [] = fal (k + 1) (k + 1) s1 :=
  Eq.trans (by kernel_rfl) (fal_code k (k + 1) s1)
theorem run_fal_of {s1 : ByteArray} {r : Res} (k : Nat) (h : fal (k + 1) (k + 1) s1 = some r) : run_fal [.one (Cell.str s1)] [] = some r := lim_of ((fal_eq k s1).trans h)
noncomputable def pl_fbp : List (Nat × Run) := []
noncomputable def G_fbp : Ctx := ctx tyTab fiTab pl_fbp
noncomputable def run_fbp : Run := lim G_fbp fid_fbp
theorem ok_fbp : FnOk Tryz.prog OkT fid_fbp run_fbp := lim_ok (l := pl_fbp) Tryz_mix tyTab_ok fiTab_ok okT .nil fid_fbp
noncomputable def fbp (k m : Nat) (s1 : ByteArray) (s2 : ByteArray) : Option Res :=
  cond (decide ((s1.size : Int) ≥ (s2.size : Int)))
  ((subS s1 0 (s2.size : Int)).bind fun s3 =>
  some ([.one (Cell.bool (s3.toList == s2.toList))], []))
  (some ([.one (Cell.bool false)], []))
theorem fbp_code (k m : Nat) (s1 : ByteArray) (s2 : ByteArray) : evC G_fbp fi_fbp (evF G_fbp (k + 1)) m fi_fbp.code none (retK G_fbp fi_fbp) (enter fi_fbp [.one (Cell.str s1), .one (Cell.str s2)] []) = fbp (k + 1) m s1 s2 := by
  kernel_rfl
theorem fbp_eq (k : Nat) (s1 : ByteArray) (s2 : ByteArray) : evF G_fbp (k + 2) fid_fbp [.one (Cell.str s1), .one (Cell.str s2)] [] = fbp (k + 1) (k + 1) s1 s2 :=
  Eq.trans (by kernel_rfl) (fbp_code k (k + 1) s1 s2)
theorem run_fbp_of {s1 : ByteArray} {s2 : ByteArray} {r : Res} (k : Nat) (h : fbp (k + 1) (k + 1) s1 s2 = some r) : run_fbp [.one (Cell.str s1), .one (Cell.str s2)] [] = some r := lim_of ((fbp_eq k s1 s2).trans h)
noncomputable def pl_fbo : List (Nat × Run) := [(fid_fbp, run_fbp)]
noncomputable def G_fbo : Ctx := ctx tyTab fiTab pl_fbo
noncomputable def run_fbo : Run := lim G_fbo fid_fbo
theorem ok_fbo : FnOk Tryz.prog OkT fid_fbo run_fbo := lim_ok (l := pl_fbo) Tryz_mix tyTab_ok fiTab_ok okT (.cons ok_fbp .nil) fid_fbo
noncomputable def fbo (k m : Nat) (s1 : ByteArray) (s2 : ByteArray) : Option Res :=
  (callS run_fbp [.one (Cell.str s1), .one (Cell.str s2)] []).bind fun r3 =>
  cond (shapeOk rk_fbp r3)
  ((cB (cellsAt r3 0) 0).bind fun b4 =>
  cond (!b4)
  (some ([.one (Cell.str s1), .one (Cell.bool false)], []))
  ((subS s1 (s2.size : Int) (s1.size : Int)).bind fun s5 =>
  some ([.one (Cell.str s5), .one (Cell.bool true)], [])))
  none
theorem fbo_code (k m : Nat) (s1 : ByteArray) (s2 : ByteArray) : evC G_fbo fi_fbo (evF G_fbo (k + 1)) m fi_fbo.code none (retK G_fbo fi_fbo) (enter fi_fbo [.one (Cell.str s1), .one (Cell.str s2)] []) = fbo (k + 1) m s1 s2 := by
  kernel_rfl
theorem fbo_eq (k : Nat) (s1 : ByteArray) (s2 : ByteArray) : evF G_fbo (k + 2) fid_fbo [.one (Cell.str s1), .one (Cell.str s2)] [] = fbo (k + 1) (k + 1) s1 s2 :=
  Eq.trans (by kernel_rfl) (fbo_code k (k + 1) s1 s2)
theorem run_fbo_of {s1 : ByteArray} {s2 : ByteArray} {r : Res} (k : Nat) (h : fbo (k + 1) (k + 1) s1 s2 = some r) : run_fbo [.one (Cell.str s1), .one (Cell.str s2)] [] = some r := lim_of ((fbo_eq k s1 s2).trans h)
noncomputable def pl_fej : List (Nat × Run) := [(fid_fbo, run_fbo)]
noncomputable def G_fej : Ctx := ctx tyTab fiTab pl_fej
noncomputable def run_fej : Run := lim G_fej fid_fej
theorem ok_fej : FnOk Tryz.prog OkT fid_fej run_fej := lim_ok (l := pl_fej) Tryz_mix tyTab_ok fiTab_ok okT (.cons ok_fbo .nil) fid_fej
noncomputable def fej (k m : Nat) (s1 : ByteArray) (s2 : ByteArray) : Option Res :=
  (callS run_fbo [.one (Cell.str s1), .one (Cell.str s2)] []).bind fun r3 =>
  cond (shapeOk rk_fbo r3)
  ((cS (cellsAt r3 0) 0).bind fun s4 =>
  (cB (cellsAt r3 1) 0).bind fun b5 =>
  some ([.one (Cell.str s4), .one (Cell.bool b5)], []))
  none
theorem fej_code (k m : Nat) (s1 : ByteArray) (s2 : ByteArray) : evC G_fej fi_fej (evF G_fej (k + 1)) m fi_fej.code none (retK G_fej fi_fej) (enter fi_fej [.one (Cell.str s1), .one (Cell.str s2)] []) = fej (k + 1) m s1 s2 := by
  kernel_rfl
theorem fej_eq (k : Nat) (s1 : ByteArray) (s2 : ByteArray) : evF G_fej (k + 2) fid_fej [.one (Cell.str s1), .one (Cell.str s2)] [] = fej (k + 1) (k + 1) s1 s2 :=
  Eq.trans (by kernel_rfl) (fej_code k (k + 1) s1 s2)
theorem run_fej_of {s1 : ByteArray} {s2 : ByteArray} {r : Res} (k : Nat) (h : fej (k + 1) (k + 1) s1 s2 = some r) : run_fej [.one (Cell.str s1), .one (Cell.str s2)] [] = some r := lim_of ((fej_eq k s1 s2).trans h)
noncomputable def pl_fbe : List (Nat × Run) := [(fid_fal, run_fal), (fid_fem, run_fem), (fid_faj, run_faj)]
noncomputable def G_fbe : Ctx := ctx tyTab fiTab pl_fbe
noncomputable def run_fbe : Run := lim G_fbe fid_fbe
theorem ok_fbe : FnOk Tryz.prog OkT fid_fbe run_fbe := lim_ok (l := pl_fbe) Tryz_mix tyTab_ok fiTab_ok okT (.cons ok_fal (.cons ok_fem (.cons ok_faj .nil))) fid_fbe
noncomputable def fbe_l1 (k m : Nat) : Nat → Int → Cell → Int → Int → Int → Int → List Entry → Option Res
  | 0, _, _, _, _, _, _, _ => none
  | n + 1, i19, c20, i21, i22, i23, i24, H25 =>
    cond (decide (i22 < i21))
    ((idxA 1 (c20) i22).bind fun c26 =>
    (deref H25 (c26)).bind fun p27 =>
    (cS p27.1 p27.2).bind fun s28 =>
    (callS run_faj [.one (Cell.str s28), .one (Cell.int 9999)] H25).bind fun r29 =>
    cond (shapeOk rk_faj r29)
    ((cI .i64 (cellsAt r29 0) 0).bind fun i30 =>
    (cB (cellsAt r29 1) 0).bind fun b31 =>
    cond (!b31)
    (some ([.agg [Cell.int 0, Cell.int 0, Cell.int 0, .lst true 1 []], .one (Cell.int 0), .one (Cell.bool false)], H25))
    (if i22 = 1 then
    (fbe_l1 k m n i19 (c20) i21 (IntKind.i64.wrap (i22 + 1)) i23 i30 H25)
    else
    if i22 = 0 then
    (fbe_l1 k m n i19 (c20) i21 (IntKind.i64.wrap (i22 + 1)) i30 i24 H25)
    else
    none))
    none)
    (some ([.agg [Cell.int i23, Cell.int i24, Cell.int 0, .lst true 1 []], .one (Cell.int i19), .one (Cell.bool true)], H25))
noncomputable def fbe_l0 (k m : Nat) : Nat → Cell → Int → List Entry → Option Res
  | 0, _, _, _ => none
  | n + 1, c11, i12, H13 =>
    cond (decide (i12 > 1))
    ((idxA 1 (c11) (IntKind.i64.wrap (i12 - 1))).bind fun c14 =>
    (deref H13 (c14)).bind fun p15 =>
    (cS p15.1 p15.2).bind fun s16 =>
    cond (s16.toList == (bs [120]).toList)
    (fbe_l0 k m n (c11) (IntKind.i64.wrap (i12 - 1)) H13)
    (cond (decide (i12 > 2))
    (some ([.agg [Cell.int 0, Cell.int 0, Cell.int 0, .lst true 1 []], .one (Cell.int 0), .one (Cell.bool false)], H13))
    ((slcC 1 (c11) 0 (some i12) none).bind fun c17 =>
    (lenC c17).bind fun n18 =>
    fbe_l1 k m m i12 (c17) (n18 : Int) 0 0 0 H13)))
    (cond (decide (i12 > 2))
    (some ([.agg [Cell.int 0, Cell.int 0, Cell.int 0, .lst true 1 []], .one (Cell.int 0), .one (Cell.bool false)], H13))
    ((slcC 1 (c11) 0 (some i12) none).bind fun c32 =>
    (lenC c32).bind fun n33 =>
    fbe_l1 k m m i12 (c32) (n33 : Int) 0 0 0 H13))
noncomputable def fbe (k m : Nat) (s1 : ByteArray) : Option Res :=
  (callF run_fal [.one (Cell.str s1)] []).bind fun r2 =>
  cond (shapeOk rk_fal r2.1)
  ((cI .i64 (cellsAt r2.1 0) 0).bind fun i3 =>
  (cI .i64 (cellsAt r2.1 0) 1).bind fun i4 =>
  (cI .i64 (cellsAt r2.1 0) 2).bind fun i5 =>
  (cC (cellsAt r2.1 0) 3).bind fun c6 =>
  (cB (cellsAt r2.1 1) 0).bind fun b7 =>
  cond b7
  (some ([.agg [Cell.int i3, Cell.int i4, Cell.int i5, c6], .one (Cell.int 3), .one (Cell.bool true)], r2.2))
  ((callF run_fem [.one (Cell.str s1), .one (Cell.str (bs [46]))] r2.2).bind fun r8 =>
  cond (shapeOk rk_fem r8.1)
  ((cC (cellsAt r8.1 0) 0).bind fun c9 =>
  (lenC c9).bind fun n10 =>
  cond (decide ((n10 : Int) > 3))
  (some ([.agg [Cell.int 0, Cell.int 0, Cell.int 0, .lst true 1 []], .one (Cell.int 0), .one (Cell.bool false)], r8.2))
  (fbe_l0 k m m (c9) (n10 : Int) r8.2))
  none))
  none
noncomputable abbrev fbe_l0_B (k m : Nat) : (Ex → Fr → Option Res) → Fr → Option Res := evC G_fbe fi_fbe (evF G_fbe (k + 1)) m (sub [1, 1, 1, 1, 1, 0, 2, 3] fi_fbe.code) none
noncomputable abbrev fbe_l0_K (k m : Nat) : Ex → Fr → Option Res := blockK 0 (seqK (evC G_fbe fi_fbe (evF G_fbe (k + 1)) m (sub [1, 1, 1, 1, 1, 1] fi_fbe.code) none) (retK G_fbe fi_fbe))
noncomputable abbrev fbe_l1_B (k m : Nat) : (Ex → Fr → Option Res) → Fr → Option Res := evC G_fbe fi_fbe (evF G_fbe (k + 1)) m (sub [1, 1, 1, 1, 1, 1, 1, 1, 0, 1, 2, 3] fi_fbe.code) none
noncomputable abbrev fbe_l1_K (k m : Nat) : Ex → Fr → Option Res := blockK 2 (seqK (evC G_fbe fi_fbe (evF G_fbe (k + 1)) m (sub [1, 1, 1, 1, 1, 1, 1, 1, 1] fi_fbe.code) none) (retK G_fbe fi_fbe))
theorem fbe_l1_eq (k m : Nat) : ∀ (n : Nat) (i19 : Int) (c20 : Cell) (i21 : Int) (i22 : Int) (i23 : Int) (i24 : Int) (H25 : List Entry), loopK (some [2, 8, 9, 45, 46, 47]) (fbe_l1_B k m) (fbe_l1_K k m) n ⟨fT 70 0 [(2, .loc 2 0), (8, .av (.one (Cell.int i19))), (9, .loc 9 0), (45, .av (.one (c20))), (46, .av (.one (Cell.int i21))), (47, .av (.one (Cell.int i22)))], fX 70 0 [(2, [Cell.int 0, Cell.int 0, Cell.int 0, .lst true 1 []]), (9, [Cell.int i23, Cell.int i24])], H25⟩ = fbe_l1 (k + 1) m n i19 c20 i21 i22 i23 i24 H25 := by
  intro n
  induction n with
  | zero => intros; rfl
  | succ n ih =>
    intros
    simp only [fbe_l1, ← ih]
    kernel_rfl
theorem fbe_l0_eq (k m : Nat) : ∀ (n : Nat) (c11 : Cell) (i12 : Int) (H13 : List Entry), loopK (some [2, 7, 8]) (fbe_l0_B k m) (fbe_l0_K k m) n ⟨fT 70 0 [(2, .loc 2 0), (7, .av (.one (c11))), (8, .av (.one (Cell.int i12)))], fX 70 0 [(2, [Cell.int 0, Cell.int 0, Cell.int 0, .lst true 1 []])], H13⟩ = fbe_l0 (k + 1) m n c11 i12 H13 := by
  intro n
  induction n with
  | zero => intros; rfl
  | succ n ih =>
    intros
    simp only [fbe_l0, ← fbe_l1_eq k m, ← ih]
    kernel_rfl
theorem fbe_code (k m : Nat) (s1 : ByteArray) : evC G_fbe fi_fbe (evF G_fbe (k + 1)) m fi_fbe.code none (retK G_fbe fi_fbe) (enter fi_fbe [.one (Cell.str s1)] []) = fbe (k + 1) m s1 := by
  simp only [fbe, ← fbe_l0_eq k m]
  kernel_rfl
theorem fbe_eq (k : Nat) (s1 : ByteArray) : evF G_fbe (k + 2) fid_fbe [.one (Cell.str s1)] [] = fbe (k + 1) (k + 1) s1 :=
  Eq.trans (by kernel_rfl) (fbe_code k (k + 1) s1)
theorem run_fbe_of {s1 : ByteArray} {r : Res} (k : Nat) (h : fbe (k + 1) (k + 1) s1 = some r) : run_fbe [.one (Cell.str s1)] [] = some r := lim_of ((fbe_eq k s1).trans h)
noncomputable def pl_fbd : List (Nat × Run) := []
noncomputable def G_fbd : Ctx := ctx tyTab fiTab pl_fbd
noncomputable def run_fbd : Run := lim G_fbd fid_fbd
theorem ok_fbd : FnOk Tryz.prog OkT fid_fbd run_fbd := lim_ok (l := pl_fbd) Tryz_mix tyTab_ok fiTab_ok okT .nil fid_fbd
noncomputable def fbd (k m : Nat) (i1 : Int) (i2 : Int) (i3 : Int) (c4 : Cell) (i5 : Int) : Option Res :=
  cond (i5 == 1)
  (some ([.agg [Cell.int (IntKind.i64.wrap (i1 + 1)), Cell.int 0, Cell.int 0, .lst true 1 []]], []))
  (cond (i5 == 2)
  (some ([.agg [Cell.int i1, Cell.int (IntKind.i64.wrap (i2 + 1)), Cell.int 0, .lst true 1 []]], []))
  (some ([.agg [Cell.int i1, Cell.int i2, Cell.int (IntKind.i64.wrap (i3 + 1)), .lst true 1 []]], [])))
theorem fbd_code (k m : Nat) (i1 : Int) (i2 : Int) (i3 : Int) (c4 : Cell) (i5 : Int) : evC G_fbd fi_fbd (evF G_fbd (k + 1)) m fi_fbd.code none (retK G_fbd fi_fbd) (enter fi_fbd [.agg [Cell.int i1, Cell.int i2, Cell.int i3, c4], .one (Cell.int i5)] []) = fbd (k + 1) m i1 i2 i3 c4 i5 := by
  kernel_rfl
theorem fbd_eq (k : Nat) (i1 : Int) (i2 : Int) (i3 : Int) (c4 : Cell) (i5 : Int) : evF G_fbd (k + 2) fid_fbd [.agg [Cell.int i1, Cell.int i2, Cell.int i3, c4], .one (Cell.int i5)] [] = fbd (k + 1) (k + 1) i1 i2 i3 c4 i5 :=
  Eq.trans (by kernel_rfl) (fbd_code k (k + 1) i1 i2 i3 c4 i5)
theorem run_fbd_of {i1 : Int} {i2 : Int} {i3 : Int} {c4 : Cell} {i5 : Int} {r : Res} (k : Nat) (h : fbd (k + 1) (k + 1) i1 i2 i3 c4 i5 = some r) : run_fbd [.agg [Cell.int i1, Cell.int i2, Cell.int i3, c4], .one (Cell.int i5)] [] = some r := lim_of ((fbd_eq k i1 i2 i3 c4 i5).trans h)
noncomputable def pl_faq : List (Nat × Run) := []
noncomputable def G_faq : Ctx := ctx tyTab fiTab pl_faq
noncomputable def run_faq : Run := lim G_faq fid_faq
theorem ok_faq : FnOk Tryz.prog OkT fid_faq run_faq := lim_ok (l := pl_faq) Tryz_mix tyTab_ok fiTab_ok okT .nil fid_faq
noncomputable def faq (k m : Nat) (i1 : Int) (i2 : Int) (i3 : Int) (c4 : Cell) : Option Res :=
  some ([.agg [Cell.int 1, Cell.int i1, Cell.int i2, Cell.int i3, .lst true 1 [[Cell.str (bs [48])]]]], [])
theorem faq_code (k m : Nat) (i1 : Int) (i2 : Int) (i3 : Int) (c4 : Cell) : evC G_faq fi_faq (evF G_faq (k + 1)) m fi_faq.code none (retK G_faq fi_faq) (enter fi_faq [.agg [Cell.int i1, Cell.int i2, Cell.int i3, c4]] []) = faq (k + 1) m i1 i2 i3 c4 := by
  kernel_rfl
theorem faq_eq (k : Nat) (i1 : Int) (i2 : Int) (i3 : Int) (c4 : Cell) : evF G_faq (k + 2) fid_faq [.agg [Cell.int i1, Cell.int i2, Cell.int i3, c4]] [] = faq (k + 1) (k + 1) i1 i2 i3 c4 :=
  Eq.trans (by kernel_rfl) (faq_code k (k + 1) i1 i2 i3 c4)
theorem run_faq_of {i1 : Int} {i2 : Int} {i3 : Int} {c4 : Cell} {r : Res} (k : Nat) (h : faq (k + 1) (k + 1) i1 i2 i3 c4 = some r) : run_faq [.agg [Cell.int i1, Cell.int i2, Cell.int i3, c4]] [] = some r := lim_of ((faq_eq k i1 i2 i3 c4).trans h)
noncomputable def pl_far : List (Nat × Run) := []
noncomputable def G_far : Ctx := ctx tyTab fiTab pl_far
noncomputable def run_far : Run := lim G_far fid_far
theorem ok_far : FnOk Tryz.prog OkT fid_far run_far := lim_ok (l := pl_far) Tryz_mix tyTab_ok fiTab_ok okT .nil fid_far
noncomputable def far (k m : Nat) (i1 : Int) (i2 : Int) (i3 : Int) (c4 : Cell) (i5 : Int) : Option Res :=
  cond (i1 != 0)
  (some ([.agg [Cell.int (IntKind.i64.wrap (i1 + 1)), Cell.int 0, Cell.int 0, .lst true 1 []]], []))
  (cond (i5 == 1)
  (some ([.agg [Cell.int (IntKind.i64.wrap (i1 + 1)), Cell.int 0, Cell.int 0, .lst true 1 []]], []))
  (cond (i2 != 0)
  (some ([.agg [Cell.int 0, Cell.int (IntKind.i64.wrap (i2 + 1)), Cell.int 0, .lst true 1 []]], []))
  (cond (i5 == 2)
  (some ([.agg [Cell.int 0, Cell.int (IntKind.i64.wrap (i2 + 1)), Cell.int 0, .lst true 1 []]], []))
  (some ([.agg [Cell.int 0, Cell.int 0, Cell.int (IntKind.i64.wrap (i3 + 1)), .lst true 1 []]], [])))))
theorem far_code (k m : Nat) (i1 : Int) (i2 : Int) (i3 : Int) (c4 : Cell) (i5 : Int) : evC G_far fi_far (evF G_far (k + 1)) m fi_far.code none (retK G_far fi_far) (enter fi_far [.agg [Cell.int i1, Cell.int i2, Cell.int i3, c4], .one (Cell.int i5)] []) = far (k + 1) m i1 i2 i3 c4 i5 := by
  kernel_rfl
theorem far_eq (k : Nat) (i1 : Int) (i2 : Int) (i3 : Int) (c4 : Cell) (i5 : Int) : evF G_far (k + 2) fid_far [.agg [Cell.int i1, Cell.int i2, Cell.int i3, c4], .one (Cell.int i5)] [] = far (k + 1) (k + 1) i1 i2 i3 c4 i5 :=
  Eq.trans (by kernel_rfl) (far_code k (k + 1) i1 i2 i3 c4 i5)
theorem run_far_of {i1 : Int} {i2 : Int} {i3 : Int} {c4 : Cell} {i5 : Int} {r : Res} (k : Nat) (h : far (k + 1) (k + 1) i1 i2 i3 c4 i5 = some r) : run_far [.agg [Cell.int i1, Cell.int i2, Cell.int i3, c4], .one (Cell.int i5)] [] = some r := lim_of ((far_eq k i1 i2 i3 c4 i5).trans h)
noncomputable def pl_fbj : List (Nat × Run) := [(fid_fbd, run_fbd), (fid_faq, run_faq), (fid_far, run_far)]
noncomputable def G_fbj : Ctx := ctx tyTab fiTab pl_fbj
noncomputable def run_fbj : Run := lim G_fbj fid_fbj
theorem ok_fbj : FnOk Tryz.prog OkT fid_fbj run_fbj := lim_ok (l := pl_fbj) Tryz_mix tyTab_ok fiTab_ok okT (.cons ok_fbd (.cons ok_faq (.cons ok_far .nil))) fid_fbj
noncomputable def fbj (k m : Nat) (s1 : ByteArray) (i2 : Int) (i3 : Int) (i4 : Int) (c5 : Cell) (i6 : Int) : Option Res :=
  (callL run_fbd [.agg [Cell.int i2, Cell.int i3, Cell.int i4, c5], .one (Cell.int i6)] []).bind fun r7 =>
  cond (shapeOk rk_fbd r7.1)
  ((cI .i64 (cellsAt r7.1 0) 0).bind fun i8 =>
  (cI .i64 (cellsAt r7.1 0) 1).bind fun i9 =>
  (cI .i64 (cellsAt r7.1 0) 2).bind fun i10 =>
  (cC (cellsAt r7.1 0) 3).bind fun c11 =>
  cond (s1.toList == (bs [62, 61]).toList)
  (restK [Cell.int 4, Cell.int i2, Cell.int i3, Cell.int i4, c5] fun d12 =>
  some ([.one ((.lst true 5 (chunks 5 1 d12)))], r7.2))
  (cond (s1.toList == (bs [60]).toList)
  (restK [Cell.int 1, Cell.int i2, Cell.int i3, Cell.int i4, c5] fun d13 =>
  some ([.one ((.lst true 5 (chunks 5 1 d13)))], r7.2))
  (cond (s1.toList == (bs [62]).toList)
  (cond (decide (i6 < 3))
  (restK [Cell.int 4, Cell.int i8, Cell.int i9, Cell.int i10, c11] fun d14 =>
  some ([.one ((.lst true 5 (chunks 5 1 d14)))], r7.2))
  (restK [Cell.int 3, Cell.int i2, Cell.int i3, Cell.int i4, c5] fun d15 =>
  some ([.one ((.lst true 5 (chunks 5 1 d15)))], r7.2)))
  (cond (s1.toList == (bs [60, 61]).toList)
  (cond (decide (i6 < 3))
  ((callL run_faq [.agg [Cell.int i8, Cell.int i9, Cell.int i10, c11]] r7.2).bind fun r16 =>
  cond (shapeOk rk_faq r16.1)
  ((cI .i64 (cellsAt r16.1 0) 0).bind fun i17 =>
  (cI .i64 (cellsAt r16.1 0) 1).bind fun i18 =>
  (cI .i64 (cellsAt r16.1 0) 2).bind fun i19 =>
  (cI .i64 (cellsAt r16.1 0) 3).bind fun i20 =>
  (cC (cellsAt r16.1 0) 4).bind fun c21 =>
  restK [Cell.int i17, Cell.int i18, Cell.int i19, Cell.int i20, c21] fun d22 =>
  some ([.one ((.lst true 5 (chunks 5 1 d22)))], r16.2))
  none)
  (restK [Cell.int 2, Cell.int i2, Cell.int i3, Cell.int i4, c5] fun d23 =>
  some ([.one ((.lst true 5 (chunks 5 1 d23)))], r7.2)))
  (cond (s1.toList == (bs [126]).toList)
  ((callL run_fbd [.agg [Cell.int i2, Cell.int i3, Cell.int 0, .lst true 1 []], .one (Cell.int (if 2 < i6 then 2 else i6))] []).bind fun r24 =>
  cond (shapeOk rk_fbd r24.1)
  ((cI .i64 (cellsAt r24.1 0) 0).bind fun i25 =>
  (cI .i64 (cellsAt r24.1 0) 1).bind fun i26 =>
  (cI .i64 (cellsAt r24.1 0) 2).bind fun i27 =>
  (cC (cellsAt r24.1 0) 3).bind fun c28 =>
  emptyK r24.2
  ((callL run_faq [.agg [Cell.int i25, Cell.int i26, Cell.int i27, c28]] []).bind fun r29 =>
  cond (shapeOk rk_faq r29.1)
  ((cI .i64 (cellsAt r29.1 0) 0).bind fun i30 =>
  (cI .i64 (cellsAt r29.1 0) 1).bind fun i31 =>
  (cI .i64 (cellsAt r29.1 0) 2).bind fun i32 =>
  (cI .i64 (cellsAt r29.1 0) 3).bind fun i33 =>
  (cC (cellsAt r29.1 0) 4).bind fun c34 =>
  emptyK r29.2
  (restK [Cell.int 4, Cell.int i2, Cell.int i3, Cell.int i4, c5, Cell.int i30, Cell.int i31, Cell.int i32, Cell.int i33, c34] fun d35 =>
  some ([.one ((.lst true 5 (chunks 5 2 d35)))], r7.2)))
  none))
  none)
  (cond (s1.toList == (bs [94]).toList)
  ((callL run_far [.agg [Cell.int i2, Cell.int i3, Cell.int i4, c5], .one (Cell.int i6)] []).bind fun r36 =>
  cond (shapeOk rk_far r36.1)
  ((cI .i64 (cellsAt r36.1 0) 0).bind fun i37 =>
  (cI .i64 (cellsAt r36.1 0) 1).bind fun i38 =>
  (cI .i64 (cellsAt r36.1 0) 2).bind fun i39 =>
  (cC (cellsAt r36.1 0) 3).bind fun c40 =>
  emptyK r36.2
  ((callL run_faq [.agg [Cell.int i37, Cell.int i38, Cell.int i39, c40]] []).bind fun r41 =>
  cond (shapeOk rk_faq r41.1)
  ((cI .i64 (cellsAt r41.1 0) 0).bind fun i42 =>
  (cI .i64 (cellsAt r41.1 0) 1).bind fun i43 =>
  (cI .i64 (cellsAt r41.1 0) 2).bind fun i44 =>
  (cI .i64 (cellsAt r41.1 0) 3).bind fun i45 =>
  (cC (cellsAt r41.1 0) 4).bind fun c46 =>
  emptyK r41.2
  (restK [Cell.int 4, Cell.int i2, Cell.int i3, Cell.int i4, c5, Cell.int i42, Cell.int i43, Cell.int i44, Cell.int i45, c46] fun d47 =>
  some ([.one ((.lst true 5 (chunks 5 2 d47)))], r7.2)))
  none))
  none)
  (cond (decide (i6 < 3))
  ((callL run_faq [.agg [Cell.int i8, Cell.int i9, Cell.int i10, c11]] []).bind fun r48 =>
  cond (shapeOk rk_faq r48.1)
  ((cI .i64 (cellsAt r48.1 0) 0).bind fun i49 =>
  (cI .i64 (cellsAt r48.1 0) 1).bind fun i50 =>
  (cI .i64 (cellsAt r48.1 0) 2).bind fun i51 =>
  (cI .i64 (cellsAt r48.1 0) 3).bind fun i52 =>
  (cC (cellsAt r48.1 0) 4).bind fun c53 =>
  emptyK r48.2
  (restK [Cell.int 4, Cell.int i2, Cell.int i3, Cell.int i4, c5, Cell.int i49, Cell.int i50, Cell.int i51, Cell.int i52, c53] fun d54 =>
  some ([.one ((.lst true 5 (chunks 5 2 d54)))], r7.2)))
  none)
  (restK [Cell.int 0, Cell.int i2, Cell.int i3, Cell.int i4, c5] fun d55 =>
  some ([.one ((.lst true 5 (chunks 5 1 d55)))], r7.2)))))))))
  none
theorem fbj_code (k m : Nat) (s1 : ByteArray) (i2 : Int) (i3 : Int) (i4 : Int) (c5 : Cell) (i6 : Int) : evC G_fbj fi_fbj (evF G_fbj (k + 1)) m fi_fbj.code none (retK G_fbj fi_fbj) (enter fi_fbj [.one (Cell.str s1), .agg [Cell.int i2, Cell.int i3, Cell.int i4, c5], .one (Cell.int i6)] []) = fbj (k + 1) m s1 i2 i3 i4 c5 i6 := by
  kernel_rfl
theorem fbj_eq (k : Nat) (s1 : ByteArray) (i2 : Int) (i3 : Int) (i4 : Int) (c5 : Cell) (i6 : Int) : evF G_fbj (k + 2) fid_fbj [.one (Cell.str s1), .agg [Cell.int i2, Cell.int i3, Cell.int i4, c5], .one (Cell.int i6)] [] = fbj (k + 1) (k + 1) s1 i2 i3 i4 c5 i6 :=
  Eq.trans (by kernel_rfl) (fbj_code k (k + 1) s1 i2 i3 i4 c5 i6)
theorem run_fbj_of {s1 : ByteArray} {i2 : Int} {i3 : Int} {i4 : Int} {c5 : Cell} {i6 : Int} {r : Res} (k : Nat) (h : fbj (k + 1) (k + 1) s1 i2 i3 i4 c5 i6 = some r) : run_fbj [.one (Cell.str s1), .agg [Cell.int i2, Cell.int i3, Cell.int i4, c5], .one (Cell.int i6)] [] = some r := lim_of ((fbj_eq k s1 i2 i3 i4 c5 i6).trans h)
noncomputable def pl_fas : List (Nat × Run) := [(fid_fej, run_fej), (fid_fbe, run_fbe), (fid_fbj, run_fbj)]
noncomputable def G_fas : Ctx := ctx tyTab fiTab pl_fas
noncomputable def run_fas : Run := lim G_fas fid_fas
theorem ok_fas : FnOk Tryz.prog OkT fid_fas run_fas := lim_ok (l := pl_fas) Tryz_mix tyTab_ok fiTab_ok okT (.cons ok_fej (.cons ok_fbe (.cons ok_fbj .nil))) fid_fas
noncomputable def fas_l0 (k m : Nat) : Nat → ByteArray → Int → Option Res
  | 0, _, _ => none
  | n + 1, s2, i3 =>
    cond (decide (i3 < 8))
    (if 0 ≤ i3 ∧ i3 < 8 then
    ((cS [Cell.str (bs [94]), Cell.str (bs [126]), Cell.str (bs [62, 61]), Cell.str (bs [62]), Cell.str (bs [60, 61]), Cell.str (bs [60]), Cell.str (bs [61]), Cell.str (bs [])] (i3.toNat * 1)).bind fun s4 =>
    (callS run_fej [.one (Cell.str s2), .one (Cell.str s4)] []).bind fun r5 =>
    cond (shapeOk rk_fej r5)
    ((cS (cellsAt r5 0) 0).bind fun s6 =>
    (cB (cellsAt r5 1) 0).bind fun b7 =>
    cond (!b7)
    (fas_l0 k m n s2 (IntKind.i64.wrap (i3 + 1)))
    ((callL run_fbe [.one (Cell.str s6)] []).bind fun r8 =>
    cond (shapeOk rk_fbe r8.1)
    ((cI .i64 (cellsAt r8.1 0) 0).bind fun i9 =>
    (cI .i64 (cellsAt r8.1 0) 1).bind fun i10 =>
    (cI .i64 (cellsAt r8.1 0) 2).bind fun i11 =>
    (cC (cellsAt r8.1 0) 3).bind fun c12 =>
    (cI .i64 (cellsAt r8.1 1) 0).bind fun i13 =>
    (cB (cellsAt r8.1 2) 0).bind fun b14 =>
    cond (!b14)
    (some ([.one (.lst true 5 []), .one (Cell.bool false)], r8.2))
    ((callL run_fbj [.one (Cell.str s4), .agg [Cell.int i9, Cell.int i10, Cell.int i11, c12], .one (Cell.int i13)] r8.2).bind fun r15 =>
    cond (shapeOk rk_fbj r15.1)
    ((cC (cellsAt r15.1 0) 0).bind fun c16 =>
    some ([.one (c16), .one (Cell.bool true)], r15.2))
    none))
    none))
    none) else none)
    (some ([.one (.lst true 5 []), .one (Cell.bool false)], []))
noncomputable def fas (k m : Nat) (s1 : ByteArray) : Option Res :=
  cond (s1.toList == (bs [42]).toList)
  (some ([.one (.lst true 5 [[Cell.int 4, Cell.int 0, Cell.int 0, Cell.int 0, .lst true 1 []]]), .one (Cell.bool true)], []))
  (fas_l0 k m m s1 0)
noncomputable abbrev fas_l0_B (k m : Nat) : (Ex → Fr → Option Res) → Fr → Option Res := evC G_fas fi_fas (evF G_fas (k + 1)) m (sub [1, 1, 0, 1, 2, 3] fi_fas.code) none
noncomputable abbrev fas_l0_K (k m : Nat) : Ex → Fr → Option Res := blockK 0 (seqK (evC G_fas fi_fas (evF G_fas (k + 1)) m (sub [1, 1, 1] fi_fas.code) none) (retK G_fas fi_fas))
theorem fas_l0_eq (k m : Nat) : ∀ (n : Nat) (s2 : ByteArray) (i3 : Int), loopK (some [0, 15, 16]) (fas_l0_B k m) (fas_l0_K k m) n ⟨fT 40 0 [(0, .av (.one (Cell.str s2))), (15, .av (.agg [Cell.str (bs [94]), Cell.str (bs [126]), Cell.str (bs [62, 61]), Cell.str (bs [62]), Cell.str (bs [60, 61]), Cell.str (bs [60]), Cell.str (bs [61]), Cell.str (bs [])])), (16, .av (.one (Cell.int i3)))], fX 40 0 [], []⟩ = fas_l0 (k + 1) m n s2 i3 := by
  intro n
  induction n with
  | zero => intros; rfl
  | succ n ih =>
    intros
    simp only [fas_l0, ← ih]
    kernel_rfl
theorem fas_code (k m : Nat) (s1 : ByteArray) : evC G_fas fi_fas (evF G_fas (k + 1)) m fi_fas.code none (retK G_fas fi_fas) (enter fi_fas [.one (Cell.str s1)] []) = fas (k + 1) m s1 := by
  simp only [fas, ← fas_l0_eq k m]
  kernel_rfl
theorem fas_eq (k : Nat) (s1 : ByteArray) : evF G_fas (k + 2) fid_fas [.one (Cell.str s1)] [] = fas (k + 1) (k + 1) s1 :=
  Eq.trans (by kernel_rfl) (fas_code k (k + 1) s1)
theorem run_fas_of {s1 : ByteArray} {r : Res} (k : Nat) (h : fas (k + 1) (k + 1) s1 = some r) : run_fas [.one (Cell.str s1)] [] = some r := lim_of ((fas_eq k s1).trans h)
noncomputable def pl_fbb : List (Nat × Run) := [(fid_fal, run_fal), (fid_fem, run_fem), (fid_fao, run_fao), (fid_fen, run_fen), (fid_fas, run_fas)]
noncomputable def G_fbb : Ctx := ctx tyTab fiTab pl_fbb
noncomputable def run_fbb : Run := lim G_fbb fid_fbb
theorem ok_fbb : FnOk Tryz.prog OkT fid_fbb run_fbb := lim_ok (l := pl_fbb) Tryz_mix tyTab_ok fiTab_ok okT (.cons ok_fal (.cons ok_fem (.cons ok_fao (.cons ok_fen (.cons ok_fas .nil))))) fid_fbb
noncomputable def fbb_l1 (k m : Nat) : Nat → Cell → Cell → Int → Int → List Entry → Option Res
  | 0, _, _, _, _, _ => none
  | n + 1, c43, c44, i45, i46, H47 =>
    cond (decide (i46 < i45))
    ((idxA 5 (c44) i46).bind fun c48 =>
    (deref H47 (c48)).bind fun p49 =>
    (cI .i64 p49.1 p49.2).bind fun i50 =>
    (cI .i64 p49.1 (p49.2 + 1)).bind fun i51 =>
    (cI .i64 p49.1 ((p49.2 + 1) + 1)).bind fun i52 =>
    (cI .i64 p49.1 (((p49.2 + 1) + 1) + 1)).bind fun i53 =>
    (cC p49.1 ((((p49.2 + 1) + 1) + 1) + 1)).bind fun c54 =>
    (callS run_fao [.agg [Cell.int i51, Cell.int i52, Cell.int i53, c54]] H47).bind fun r55 =>
    cond (shapeOk rk_fao r55)
    ((cB (cellsAt r55 0) 0).bind fun b56 =>
    cond (!b56)
    (some ([.one (.lst true 5 []), .one (Cell.bool false)], H47))
    (fbb_l1 k m n (c43) (c44) i45 (IntKind.i64.wrap (i46 + 1)) H47))
    none)
    ((lenC c43).bind fun n57 =>
    some ([.one (c43), .one (Cell.bool (decide ((n57 : Int) ≤ 4)))], H47))
noncomputable def fbb_l0 (k m : Nat) : Nat → Cell → Cell → Int → Int → List Entry → Option Res
  | 0, _, _, _, _, _ => none
  | n + 1, c29, c30, i31, i32, H33 =>
    cond (decide (i32 < i31))
    ((idxA 1 (c30) i32).bind fun c34 =>
    (deref H33 (c34)).bind fun p35 =>
    (cS p35.1 p35.2).bind fun s36 =>
    (callL run_fas [.one (Cell.str s36)] H33).bind fun r37 =>
    cond (shapeOk rk_fas r37.1)
    ((cC (cellsAt r37.1 0) 0).bind fun c38 =>
    (cB (cellsAt r37.1 1) 0).bind fun b39 =>
    cond (!b39)
    (some ([.one (.lst true 5 []), .one (Cell.bool false)], r37.2))
    ((srcRows r37.2 5 c38).bind fun r40 =>
    (app r37.2 5 56 (c29) r40).bind fun p41 =>
    fbb_l0 k m n (p41.1) (c30) i31 (IntKind.i64.wrap (i32 + 1)) p41.2))
    none)
    ((lenC c29).bind fun n42 =>
    fbb_l1 k m m (c29) (c29) (n42 : Int) 0 H33)
noncomputable def fbb (k m : Nat) (s1 : ByteArray) : Option Res :=
  (callS run_fen [.one (Cell.str s1), .one (Cell.str (bs [32]))] []).bind fun r2 =>
  cond (shapeOk rk_fen r2)
  ((cS (cellsAt r2 0) 0).bind fun s3 =>
  (callF run_fem [.one (Cell.str s3), .one (Cell.str (bs [32]))] []).bind fun r4 =>
  cond (shapeOk rk_fem r4.1)
  ((cC (cellsAt r4.1 0) 0).bind fun c5 =>
  (lenC c5).bind fun n6 =>
  cond ((n6 : Int) == 3)
  ((idxA 1 (c5) 1).bind fun c7 =>
  (deref r4.2 (c7)).bind fun p8 =>
  (cS p8.1 p8.2).bind fun s9 =>
  cond (s9.toList == (bs [45]).toList)
  ((idxA 1 (c5) 0).bind fun c10 =>
  (deref r4.2 (c10)).bind fun p11 =>
  (cS p11.1 p11.2).bind fun s12 =>
  (callF run_fal [.one (Cell.str s12)] r4.2).bind fun r13 =>
  cond (shapeOk rk_fal r13.1)
  ((cI .i64 (cellsAt r13.1 0) 0).bind fun i14 =>
  (cI .i64 (cellsAt r13.1 0) 1).bind fun i15 =>
  (cI .i64 (cellsAt r13.1 0) 2).bind fun i16 =>
  (cC (cellsAt r13.1 0) 3).bind fun c17 =>
  (cB (cellsAt r13.1 1) 0).bind fun b18 =>
  (idxA 1 (c5) 2).bind fun c19 =>
  (deref r13.2 (c19)).bind fun p20 =>
  (cS p20.1 p20.2).bind fun s21 =>
  (callF run_fal [.one (Cell.str s21)] r13.2).bind fun r22 =>
  cond (shapeOk rk_fal r22.1)
  ((cI .i64 (cellsAt r22.1 0) 0).bind fun i23 =>
  (cI .i64 (cellsAt r22.1 0) 1).bind fun i24 =>
  (cI .i64 (cellsAt r22.1 0) 2).bind fun i25 =>
  (cC (cellsAt r22.1 0) 3).bind fun c26 =>
  (cB (cellsAt r22.1 1) 0).bind fun b27 =>
  cond b18
  (some ([.one ((.vs r22.2.length 5 0 2 0)), .one (Cell.bool b27)], (r22.2 ++ [Entry.mk 5 [[Cell.int 4, Cell.int i14, Cell.int i15, Cell.int i16, c17], [Cell.int 2, Cell.int i23, Cell.int i24, Cell.int i25, c26]] 0 false])))
  (some ([.one ((.vs r22.2.length 5 0 2 0)), .one (Cell.bool false)], (r22.2 ++ [Entry.mk 5 [[Cell.int 4, Cell.int i14, Cell.int i15, Cell.int i16, c17], [Cell.int 2, Cell.int i23, Cell.int i24, Cell.int i25, c26]] 0 false]))))
  none)
  none)
  ((lenC c5).bind fun n28 =>
  fbb_l0 k m m (.lst true 5 []) (c5) (n28 : Int) 0 r4.2))
  ((lenC c5).bind fun n58 =>
  fbb_l0 k m m (.lst true 5 []) (c5) (n58 : Int) 0 r4.2))
  none)
  none
noncomputable abbrev fbb_l0_B (k m : Nat) : (Ex → Fr → Option Res) → Fr → Option Res := evC G_fbb fi_fbb (evF G_fbb (k + 1)) m (sub [1, 1, 1, 1, 0, 1, 2, 3] fi_fbb.code) none
noncomputable abbrev fbb_l0_K (k m : Nat) : Ex → Fr → Option Res := blockK 0 (seqK (evC G_fbb fi_fbb (evF G_fbb (k + 1)) m (sub [1, 1, 1, 1, 1] fi_fbb.code) none) (retK G_fbb fi_fbb))
noncomputable abbrev fbb_l1_B (k m : Nat) : (Ex → Fr → Option Res) → Fr → Option Res := evC G_fbb fi_fbb (evF G_fbb (k + 1)) m (sub [1, 1, 1, 1, 1, 0, 1, 2, 3] fi_fbb.code) none
noncomputable abbrev fbb_l1_K (k m : Nat) : Ex → Fr → Option Res := blockK 2 (seqK (evC G_fbb fi_fbb (evF G_fbb (k + 1)) m (sub [1, 1, 1, 1, 1, 1] fi_fbb.code) none) (retK G_fbb fi_fbb))
theorem fbb_l1_eq (k m : Nat) : ∀ (n : Nat) (c43 : Cell) (c44 : Cell) (i45 : Int) (i46 : Int) (H47 : List Entry), loopK (some [9, 68, 69, 70]) (fbb_l1_B k m) (fbb_l1_K k m) n ⟨fT 83 0 [(9, .av (.one (c43))), (68, .av (.one (c44))), (69, .av (.one (Cell.int i45))), (70, .av (.one (Cell.int i46)))], fX 83 0 [], H47⟩ = fbb_l1 (k + 1) m n c43 c44 i45 i46 H47 := by
  intro n
  induction n with
  | zero => intros; rfl
  | succ n ih =>
    intros
    simp only [fbb_l1, ← ih]
    kernel_rfl
theorem fbb_l0_eq (k m : Nat) : ∀ (n : Nat) (c29 : Cell) (c30 : Cell) (i31 : Int) (i32 : Int) (H33 : List Entry), loopK (some [9, 51, 52, 53]) (fbb_l0_B k m) (fbb_l0_K k m) n ⟨fT 83 0 [(9, .av (.one (c29))), (51, .av (.one (c30))), (52, .av (.one (Cell.int i31))), (53, .av (.one (Cell.int i32)))], fX 83 0 [], H33⟩ = fbb_l0 (k + 1) m n c29 c30 i31 i32 H33 := by
  intro n
  induction n with
  | zero => intros; rfl
  | succ n ih =>
    intros
    simp only [fbb_l0, ← fbb_l1_eq k m, ← ih]
    kernel_rfl
theorem fbb_code (k m : Nat) (s1 : ByteArray) : evC G_fbb fi_fbb (evF G_fbb (k + 1)) m fi_fbb.code none (retK G_fbb fi_fbb) (enter fi_fbb [.one (Cell.str s1)] []) = fbb (k + 1) m s1 := by
  simp only [fbb, ← fbb_l0_eq k m]
  kernel_rfl
theorem fbb_eq (k : Nat) (s1 : ByteArray) : evF G_fbb (k + 2) fid_fbb [.one (Cell.str s1)] [] = fbb (k + 1) (k + 1) s1 :=
  Eq.trans (by kernel_rfl) (fbb_code k (k + 1) s1)
theorem run_fbb_of {s1 : ByteArray} {r : Res} (k : Nat) (h : fbb (k + 1) (k + 1) s1 = some r) : run_fbb [.one (Cell.str s1)] [] = some r := lim_of ((fbb_eq k s1).trans h)
noncomputable def pl_fak : List (Nat × Run) := [(fid_fem, run_fem), (fid_fbb, run_fbb)]
noncomputable def G_fak : Ctx := ctx tyTab fiTab pl_fak
noncomputable def run_fak : Run := lim G_fak fid_fak
theorem ok_fak : FnOk Tryz.prog OkT fid_fak run_fak := lim_ok (l := pl_fak) Tryz_mix tyTab_ok fiTab_ok okT (.cons ok_fem (.cons ok_fbb .nil)) fid_fak
noncomputable def fak_l0 (k m : Nat) : Nat → Cell → Cell → Int → Int → List Entry → Option Res
  | 0, _, _, _, _, _ => none
  | n + 1, c6, c7, i8, i9, H10 =>
    cond (decide (i9 < i8))
    ((idxA 1 (c7) i9).bind fun c11 =>
    (deref H10 (c11)).bind fun p12 =>
    (cS p12.1 p12.2).bind fun s13 =>
    (callL run_fbb [.one (Cell.str s13)] H10).bind fun r14 =>
    cond (shapeOk rk_fbb r14.1)
    ((cC (cellsAt r14.1 0) 0).bind fun c15 =>
    (cB (cellsAt r14.1 1) 0).bind fun b16 =>
    cond (!b16)
    (some ([.one (.lst true 1 []), .one (Cell.bool false)], r14.2))
    (restK [c15] fun d17 =>
    (srcRows r14.2 1 (.lst true 1 (chunks 1 1 d17))).bind fun r18 =>
    (app r14.2 1 24 (c6) r18).bind fun p19 =>
    fak_l0 k m n (p19.1) (c7) i8 (IntKind.i64.wrap (i9 + 1)) p19.2))
    none)
    (some ([.one (c6), .one (Cell.bool true)], H10))
noncomputable def fak (k m : Nat) (s1 : ByteArray) : Option Res :=
  (callF run_fem [.one (Cell.str s1), .one (Cell.str (bs [124, 124]))] []).bind fun r2 =>
  cond (shapeOk rk_fem r2.1)
  ((cC (cellsAt r2.1 0) 0).bind fun c3 =>
  (lenC c3).bind fun n4 =>
  cond (decide ((n4 : Int) > 4))
  (some ([.one (.lst true 1 []), .one (Cell.bool false)], r2.2))
  ((lenC c3).bind fun n5 =>
  fak_l0 k m m (.lst true 1 []) (c3) (n5 : Int) 0 r2.2))
  none
noncomputable abbrev fak_l0_B (k m : Nat) : (Ex → Fr → Option Res) → Fr → Option Res := evC G_fak fi_fak (evF G_fak (k + 1)) m (sub [1, 1, 1, 1, 0, 1, 2, 3] fi_fak.code) none
noncomputable abbrev fak_l0_K (k m : Nat) : Ex → Fr → Option Res := blockK 0 (seqK (evC G_fak fi_fak (evF G_fak (k + 1)) m (sub [1, 1, 1, 1, 1] fi_fak.code) none) (retK G_fak fi_fak))
theorem fak_l0_eq (k m : Nat) : ∀ (n : Nat) (c6 : Cell) (c7 : Cell) (i8 : Int) (i9 : Int) (H10 : List Entry), loopK (some [5, 15, 16, 17]) (fak_l0_B k m) (fak_l0_K k m) n ⟨fT 34 0 [(5, .av (.one (c6))), (15, .av (.one (c7))), (16, .av (.one (Cell.int i8))), (17, .av (.one (Cell.int i9)))], fX 34 0 [], H10⟩ = fak_l0 (k + 1) m n c6 c7 i8 i9 H10 := by
  intro n
  induction n with
  | zero => intros; rfl
  | succ n ih =>
    intros
    simp only [fak_l0, ← ih]
    kernel_rfl
theorem fak_code (k m : Nat) (s1 : ByteArray) : evC G_fak fi_fak (evF G_fak (k + 1)) m fi_fak.code none (retK G_fak fi_fak) (enter fi_fak [.one (Cell.str s1)] []) = fak (k + 1) m s1 := by
  simp only [fak, ← fak_l0_eq k m]
  kernel_rfl
theorem fak_eq (k : Nat) (s1 : ByteArray) : evF G_fak (k + 2) fid_fak [.one (Cell.str s1)] [] = fak (k + 1) (k + 1) s1 :=
  Eq.trans (by kernel_rfl) (fak_code k (k + 1) s1)
theorem run_fak_of {s1 : ByteArray} {r : Res} (k : Nat) (h : fak (k + 1) (k + 1) s1 = some r) : run_fak [.one (Cell.str s1)] [] = some r := lim_of ((fak_eq k s1).trans h)
noncomputable def pl_fac : List (Nat × Run) := []
noncomputable def G_fac : Ctx := ctx tyTab fiTab pl_fac
noncomputable def run_fac : Run := lim G_fac fid_fac
theorem ok_fac : FnOk Tryz.prog OkT fid_fac run_fac := lim_ok (l := pl_fac) Tryz_mix tyTab_ok fiTab_ok okT .nil fid_fac
noncomputable def fac_l0 (k m : Nat) : Nat → Cell → Int → Int → Option Res
  | 0, _, _, _ => none
  | n + 1, c3, i4, i5 =>
    cond (decide (i5 < i4))
    ((idxA 1 (c3) i5).bind fun c6 =>
    (deref [] (c6)).bind fun p7 =>
    (cI .i64 p7.1 p7.2).bind fun i8 =>
    cond (i8 != 0)
    (some ([.one (Cell.int i8)], []))
    (fac_l0 k m n (c3) i4 (IntKind.i64.wrap (i5 + 1))))
    (some ([.one (Cell.int 0)], []))
noncomputable def fac (k m : Nat) (c1 : Cell) : Option Res :=
  (lenC c1).bind fun n2 =>
  fac_l0 k m m (c1) (n2 : Int) 0
noncomputable abbrev fac_l0_B (k m : Nat) : (Ex → Fr → Option Res) → Fr → Option Res := evC G_fac fi_fac (evF G_fac (k + 1)) m (sub [1, 1, 0, 1, 2, 3] fi_fac.code) none
noncomputable abbrev fac_l0_K (k m : Nat) : Ex → Fr → Option Res := blockK 0 (seqK (evC G_fac fi_fac (evF G_fac (k + 1)) m (sub [1, 1, 1] fi_fac.code) none) (retK G_fac fi_fac))
theorem fac_l0_eq (k m : Nat) : ∀ (n : Nat) (c3 : Cell) (i4 : Int) (i5 : Int), loopK (some [3, 6, 7, 8]) (fac_l0_B k m) (fac_l0_K k m) n ⟨fT 18 0 [(3, .av (.one (Cell.int 0))), (6, .av (.one (c3))), (7, .av (.one (Cell.int i4))), (8, .av (.one (Cell.int i5)))], fX 18 0 [], []⟩ = fac_l0 (k + 1) m n c3 i4 i5 := by
  intro n
  induction n with
  | zero => intros; rfl
  | succ n ih =>
    intros
    simp only [fac_l0, ← ih]
    kernel_rfl
theorem fac_code (k m : Nat) (c1 : Cell) : evC G_fac fi_fac (evF G_fac (k + 1)) m fi_fac.code none (retK G_fac fi_fac) (enter fi_fac [.one (c1)] []) = fac (k + 1) m c1 := by
  simp only [fac, ← fac_l0_eq k m]
  kernel_rfl
theorem fac_eq (k : Nat) (c1 : Cell) : evF G_fac (k + 2) fid_fac [.one (c1)] [] = fac (k + 1) (k + 1) c1 :=
  Eq.trans (by kernel_rfl) (fac_code k (k + 1) c1)
theorem run_fac_of {c1 : Cell} {r : Res} (k : Nat) (h : fac (k + 1) (k + 1) c1 = some r) : run_fac [.one (c1)] [] = some r := lim_of ((fac_eq k c1).trans h)
noncomputable def pl_fad : List (Nat × Run) := []
noncomputable def G_fad : Ctx := ctx tyTab fiTab pl_fad
noncomputable def run_fad : Run := lim G_fad fid_fad
theorem ok_fad : FnOk Tryz.prog OkT fid_fad run_fad := lim_ok (l := pl_fad) Tryz_mix tyTab_ok fiTab_ok okT .nil fid_fad
noncomputable def fad (k m : Nat) (i1 : Int) : Option Res :=
  some ([.one (Cell.bool (i1 != i1))], [])
theorem fad_code (k m : Nat) (i1 : Int) : evC G_fad fi_fad (evF G_fad (k + 1)) m fi_fad.code none (retK G_fad fi_fad) (enter fi_fad [.one (Cell.int i1)] []) = fad (k + 1) m i1 := by
  kernel_rfl
theorem fad_eq (k : Nat) (i1 : Int) : evF G_fad (k + 2) fid_fad [.one (Cell.int i1)] [] = fad (k + 1) (k + 1) i1 :=
  Eq.trans (by kernel_rfl) (fad_code k (k + 1) i1)
theorem run_fad_of {i1 : Int} {r : Res} (k : Nat) (h : fad (k + 1) (k + 1) i1 = some r) : run_fad [.one (Cell.int i1)] [] = some r := lim_of ((fad_eq k i1).trans h)
noncomputable def pl_faa : List (Nat × Run) := [(fid_fad, run_fad)]
noncomputable def G_faa : Ctx := ctx tyTab fiTab pl_faa
noncomputable def run_faa : Run := lim G_faa fid_faa
theorem ok_faa : FnOk Tryz.prog OkT fid_faa run_faa := lim_ok (l := pl_faa) Tryz_mix tyTab_ok fiTab_ok okT (.cons ok_fad .nil) fid_faa
noncomputable def faa (k m : Nat) (i1 : Int) (i2 : Int) : Option Res :=
  (callS run_fad [.one (Cell.int i1)] []).bind fun r3 =>
  cond (shapeOk rk_fad r3)
  ((cB (cellsAt r3 0) 0).bind fun b4 =>
  (callS run_fad [.one (Cell.int i2)] []).bind fun r5 =>
  cond (shapeOk rk_fad r5)
  ((cB (cellsAt r5 0) 0).bind fun b6 =>
  cond b4
  (cond b6
  (some ([.one (Cell.int 0)], []))
  (some ([.one (Cell.int (-1))], [])))
  (cond b6
  (some ([.one (Cell.int 1)], []))
  (cond (decide (i1 < i2))
  (some ([.one (Cell.int (-1))], []))
  (cond (decide (i1 > i2))
  (some ([.one (Cell.int 1)], []))
  (some ([.one (Cell.int 0)], []))))))
  none)
  none
theorem faa_code (k m : Nat) (i1 : Int) (i2 : Int) : evC G_faa fi_faa (evF G_faa (k + 1)) m fi_faa.code none (retK G_faa fi_faa) (enter fi_faa [.one (Cell.int i1), .one (Cell.int i2)] []) = faa (k + 1) m i1 i2 := by
  kernel_rfl
theorem faa_eq (k : Nat) (i1 : Int) (i2 : Int) : evF G_faa (k + 2) fid_faa [.one (Cell.int i1), .one (Cell.int i2)] [] = faa (k + 1) (k + 1) i1 i2 :=
  Eq.trans (by kernel_rfl) (faa_code k (k + 1) i1 i2)
theorem run_faa_of {i1 : Int} {i2 : Int} {r : Res} (k : Nat) (h : faa (k + 1) (k + 1) i1 i2 = some r) : run_faa [.one (Cell.int i1), .one (Cell.int i2)] [] = some r := lim_of ((faa_eq k i1 i2).trans h)
noncomputable def pl_fae : List (Nat × Run) := []
noncomputable def G_fae : Ctx := ctx tyTab fiTab pl_fae
noncomputable def run_fae : Run := lim G_fae fid_fae
theorem ok_fae : FnOk Tryz.prog OkT fid_fae run_fae := lim_ok (l := pl_fae) Tryz_mix tyTab_ok fiTab_ok okT .nil fid_fae
noncomputable def fae (k m : Nat) (s1 : ByteArray) : Option Res :=
  some ([.one (Cell.bool (!(s1.toList == s1.toList)))], [])
theorem fae_code (k m : Nat) (s1 : ByteArray) : evC G_fae fi_fae (evF G_fae (k + 1)) m fi_fae.code none (retK G_fae fi_fae) (enter fi_fae [.one (Cell.str s1)] []) = fae (k + 1) m s1 := by
  kernel_rfl
theorem fae_eq (k : Nat) (s1 : ByteArray) : evF G_fae (k + 2) fid_fae [.one (Cell.str s1)] [] = fae (k + 1) (k + 1) s1 :=
  Eq.trans (by kernel_rfl) (fae_code k (k + 1) s1)
theorem run_fae_of {s1 : ByteArray} {r : Res} (k : Nat) (h : fae (k + 1) (k + 1) s1 = some r) : run_fae [.one (Cell.str s1)] [] = some r := lim_of ((fae_eq k s1).trans h)
noncomputable def pl_fab : List (Nat × Run) := [(fid_fae, run_fae)]
noncomputable def G_fab : Ctx := ctx tyTab fiTab pl_fab
noncomputable def run_fab : Run := lim G_fab fid_fab
theorem ok_fab : FnOk Tryz.prog OkT fid_fab run_fab := lim_ok (l := pl_fab) Tryz_mix tyTab_ok fiTab_ok okT (.cons ok_fae .nil) fid_fab
noncomputable def fab (k m : Nat) (s1 : ByteArray) (s2 : ByteArray) : Option Res :=
  (callS run_fae [.one (Cell.str s1)] []).bind fun r3 =>
  cond (shapeOk rk_fae r3)
  ((cB (cellsAt r3 0) 0).bind fun b4 =>
  (callS run_fae [.one (Cell.str s2)] []).bind fun r5 =>
  cond (shapeOk rk_fae r5)
  ((cB (cellsAt r5 0) 0).bind fun b6 =>
  cond b4
  (cond b6
  (some ([.one (Cell.int 0)], []))
  (some ([.one (Cell.int (-1))], [])))
  (cond b6
  (some ([.one (Cell.int 1)], []))
  (cond (Op.bytesLess s1.toList s2.toList)
  (some ([.one (Cell.int (-1))], []))
  (cond (!(Op.bytesLess s1.toList s2.toList || s1.toList == s2.toList))
  (some ([.one (Cell.int 1)], []))
  (some ([.one (Cell.int 0)], []))))))
  none)
  none
theorem fab_code (k m : Nat) (s1 : ByteArray) (s2 : ByteArray) : evC G_fab fi_fab (evF G_fab (k + 1)) m fi_fab.code none (retK G_fab fi_fab) (enter fi_fab [.one (Cell.str s1), .one (Cell.str s2)] []) = fab (k + 1) m s1 s2 := by
  kernel_rfl
theorem fab_eq (k : Nat) (s1 : ByteArray) (s2 : ByteArray) : evF G_fab (k + 2) fid_fab [.one (Cell.str s1), .one (Cell.str s2)] [] = fab (k + 1) (k + 1) s1 s2 :=
  Eq.trans (by kernel_rfl) (fab_code k (k + 1) s1 s2)
theorem run_fab_of {s1 : ByteArray} {s2 : ByteArray} {r : Res} (k : Nat) (h : fab (k + 1) (k + 1) s1 s2 = some r) : run_fab [.one (Cell.str s1), .one (Cell.str s2)] [] = some r := lim_of ((fab_eq k s1 s2).trans h)
end Go.Ev
